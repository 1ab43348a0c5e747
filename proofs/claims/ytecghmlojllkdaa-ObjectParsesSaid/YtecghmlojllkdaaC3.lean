import Derived.Test.YtecghmlojllkdaaP21
import Derived.Test.YtecghmlojllkdaaC1
namespace Go.Proofs.Ytecghmlojllkdaa.Pure
open Go.RowKit Go.Proofs.Ytecghmlojllkdaa.P Go.Proofs.YtecghmlojllkdaaW.PrintWords Go.Proofs.YtecghmlojllkdaaW.PrintLast
set_option linter.unusedVariables false
set_option linter.unusedSimpArgs false

theorem eq_l0 (xs : List Int) (hx : xs.length ≤ 64) : ∀ d j k, d = xs.length - j → j ≤ xs.length → d + 1 ≤ k → slices_Equal_int64_int64.l0 k xs xs (xs.length : Int) (j : Int) = some true := by
  intro d
  induction d with
  | zero =>
    intro j k hd hj hk
    obtain ⟨k, rfl⟩ : ∃ k', k = k' + 1 := ⟨k - 1, by omega⟩
    rw [slices_Equal_int64_int64.l0, if_neg (by omega)]
  | succ d ih =>
    intro j k hd hj hk
    obtain ⟨k, rfl⟩ : ∃ k', k = k' + 1 := ⟨k - 1, by omega⟩
    rw [slices_Equal_int64_int64.l0, if_pos (by omega), if_pos (by omega), if_pos (by omega), if_pos (by omega), if_pos rfl, IntWalk.wrap64_in _ (by omega)]
    exact ih (j + 1) k (by omega) (by omega) (by omega)

theorem same_l0 (c t : Int) (xs : List Int) (hx : xs.length ≤ 64) : ∀ d j k, d = xs.length - j → j ≤ xs.length → d + 1 ≤ k → postroadref07_Same.l0 k (j : Int) c t xs c t xs = some true := by
  intro d
  induction d with
  | zero =>
    intro j k hd hj hk
    obtain ⟨k, rfl⟩ : ∃ k', k = k' + 1 := ⟨k - 1, by omega⟩
    rw [postroadref07_Same.l0, if_neg (by omega)]
  | succ d ih =>
    intro j k hd hj hk
    obtain ⟨k, rfl⟩ : ∃ k', k = k' + 1 := ⟨k - 1, by omega⟩
    rw [postroadref07_Same.l0, if_pos (by omega), if_pos (by omega), if_pos (by omega), if_pos rfl, IntWalk.wrap64_in _ (by omega)]
    exact ih (j + 1) k (by omega) (by omega) (by omega)

theorem law_l0 (os : List S32) (hos : os.length ≤ 40) (hw : ∀ o ∈ os, o.f2.length ≤ 64) : ∀ d j k, d = os.length - j → j ≤ os.length → d + 100 ≤ k → postroadlaw07_same.l0 k os os (j : Int) = some true := by
  intro d
  induction d with
  | zero =>
    intro j k hd hj hk
    obtain ⟨k, rfl⟩ : ∃ k', k = k' + 1 := ⟨k - 1, by omega⟩
    rw [postroadlaw07_same.l0, if_neg (by omega)]
  | succ d ih =>
    intro j k hd hj hk
    obtain ⟨k, rfl⟩ : ∃ k', k = k' + 1 := ⟨k - 1, by omega⟩
    have hjl : j < os.length := by omega
    have hwj := hw os[j] (List.getElem_mem hjl)
    have e1 : ∀ k, 90 ≤ k → postroadref07_Same.f k os[j].f0 os[j].f1 os[j].f2 os[j].f0 os[j].f1 os[j].f2 = some true := by
      intro k hk
      obtain ⟨k, rfl⟩ : ∃ k', k = k' + 1 := ⟨k - 1, by omega⟩
      rw [postroadref07_Same.f, if_pos rfl, if_pos rfl, show ((os[j].f2.length : Int) != (os[j].f2.length : Int)) = false by simp, postroadref07_Same.j0, if_neg (by simp)]
      exact same_l0 _ _ _ hwj os[j].f2.length 0 k (by omega) (by omega) (by omega)
    have e2 : ∀ k, 90 ≤ k → object_Same.f k os[j].f0 os[j].f1 os[j].f2 os[j].f0 os[j].f1 os[j].f2 = some true := by
      intro k hk
      have := eq_l0 os[j].f2 hwj os[j].f2.length 0 k (by omega) (by omega) (by omega)
      rw [object_Same.f, if_pos rfl, if_pos rfl, slices_Equal_int64_int64.f, if_pos rfl]
      rw [show ((0 : Nat) : Int) = 0 from rfl] at this
      rw [this]
      rfl
    rw [postroadlaw07_same.l0, if_pos (by omega), if_pos (by omega), if_pos (by omega), rdT_get os j hjl, e1 k (by omega), Option.bind_some, if_pos rfl, e2 k (by omega), Option.bind_some, if_pos rfl, IntWalk.wrap64_in _ (by omega)]
    exact ih (j + 1) k (by omega) (by omega) (by omega)

theorem same_f (os : List S32) (hos : os.length ≤ 40) (hm : badObjs os = false) (k : Nat) (hk : 200 ≤ k) : postroadlaw07_same.f k os os = some true := by
  have hw : ∀ o ∈ os, o.f2.length ≤ 64 := by
    intro o ho
    have : mayB o = true := by simpa [badObjs] using (List.any_eq_false.1 hm) o ho
    simp [mayB, inB] at this
    omega
  rw [postroadlaw07_same.f, if_pos rfl]
  exact law_l0 os hos hw os.length 0 k (by omega) (by omega) (by omega)

end Go.Proofs.Ytecghmlojllkdaa.Pure

import Derived.Test.YtecghmlojllkdaaCR
import Derived.Test.YtecghmlojllkdaaP25
namespace Go.Proofs.Ytecghmlojllkdaa.Pure
open Go.RowKit Go.Proofs.Ytecghmlojllkdaa.P Go.Proofs.YtecghmlojllkdaaW.PrintWords Go.Proofs.YtecghmlojllkdaaW.PrintLast
set_option linter.unusedVariables false
set_option linter.unusedSimpArgs false

theorem serL_split (os : List S32) (j : Nat) : serL os = serL (os.take j) ++ serL (os.drop j) := by
  unfold serL
  rw [← List.flatMap_append, List.take_append_drop]
theorem bad_take {os : List S32} (h : badObjs os = false) (j : Nat) : badObjs (os.take j) = false := by
  unfold badObjs at *
  rw [List.any_eq_false] at *
  exact fun x hx => h x (List.mem_of_mem_take hx)
theorem bad_drop {os : List S32} (h : badObjs os = false) (j : Nat) : badObjs (os.drop j) = false := by
  unfold badObjs at *
  rw [List.any_eq_false] at *
  exact fun x hx => h x (List.mem_of_mem_drop hx)
theorem words_le {os : List S32} (hb : badObjs os = false) : ∀ o ∈ os, o.f2.length ≤ 64 := by
  intro o ho
  have : mayB o = true := by simpa [badObjs] using (List.any_eq_false.1 hb) o ho
  exact (mayB_parts this).2.2.2.2.2.1

/-- Cut within an object: no objects' bytes. -/
theorem cut_none (os : List S32) (hos : os.length ≤ 40) (hb : badObjs os = false) (a : Nat) (ha : a ≤ (serL os).length) (hne : ∀ i, i ≤ os.length → (serL (os.take i)).length ≠ a) :
    object_Parse.f ((serL os).take a) = some ([], 170) := by
  have hl := serL_length os 64 (words_le hb)
  have hby : Bytes ((serL os).take a) := fun x hx => serL_bytes os x (List.mem_of_mem_take hx)
  have hll : ((serL os).take a).length = a := by rw [List.length_take]; omega
  rw [object_Parse_f hby]
  congr 1
  refine parseO_small _ (by rw [hll]; omega) ?_
  cases h2 : (scanAt ((serL os).take a) (((serL os).take a).length + 1) 0).2 with
  | false => exact .inl rfl
  | true =>
    exfalso
    obtain ⟨s1, s2⟩ := scan_ser _ hby (((serL os).take a).length + 1) 0 (scanAt ((serL os).take a) (((serL os).take a).length + 1) 0).1 (by omega) (by rw [← h2])
    generalize (scanAt ((serL os).take a) (((serL os).take a).length + 1) 0).1 = xs at *
    rw [List.drop_zero] at s1
    have hf := ser_front xs os ((serL os).drop a) s2 hb (by rw [s1, List.take_append_drop])
    have hlen : (serL xs).length = a := by rw [s1]; exact hll
    have hxl : xs.length ≤ os.length := by
      have := congrArg List.length hf
      rw [List.length_take] at this
      omega
    exact hne xs.length hxl (by rw [← hf]; exact hlen)

theorem cuts_l0 (os : List S32) (hos : os.length ≤ 40) (hb : badObjs os = false) (a : Nat) (ha : a ≤ (serL os).length) : ∀ d j k, d = os.length - j → j ≤ os.length → d + 6000 ≤ k → (∀ i, i < j → (serL (os.take i)).length ≠ a) →
    postroadlaw07_ObjectCuts.l0 k os (a : Int) (serL os) ((serL (os.take j)).length : Int) (j : Int) = some true := by
  intro d
  induction d with
  | zero =>
    intro j k hd hj hk hne
    obtain ⟨k, rfl⟩ : ∃ k', k = k' + 1 := ⟨k - 1, by omega⟩
    obtain rfl : j = os.length := by omega
    rw [List.take_length, postroadlaw07_ObjectCuts.l0, if_neg (by omega), if_pos (by omega), if_pos (by omega), Int.toNat_natCast]
    by_cases e : (serL os).length = a
    · rw [List.take_of_length_le (by omega), parse_ser os hos hb, Option.bind_some, if_pos (by omega), if_pos rfl, same_f os hos hb k (by omega), Option.bind_some, if_pos rfl]
      rfl
    · have hn : ∀ i, i ≤ os.length → (serL (os.take i)).length ≠ a := by
        intro i hi
        by_cases h : i < os.length
        · exact hne i h
        · obtain rfl : i = os.length := by omega
          rwa [List.take_length]
      rw [cut_none os hos hb a ha hn, Option.bind_some, if_neg (by omega)]
      rfl
  | succ d ih =>
    intro j k hd hj hk hne
    obtain ⟨k, rfl⟩ : ∃ k', k = k' + 1 := ⟨k - 1, by omega⟩
    have hjl : j < os.length := by omega
    have hlt : (os.take j).length ≤ 40 := by simp; omega
    have hld : (os.drop j).length ≤ 40 := by simp; omega
    have hl := serL_length (os.take j) 64 (words_le (bad_take hb j))
    have hl2 : (serL (os.take j)).length ≤ 260 * 40 := Nat.le_trans hl (Nat.mul_le_mul_left _ hlt)
    rw [postroadlaw07_ObjectCuts.l0, if_pos (by omega)]
    by_cases e : (serL (os.take j)).length = a
    · have e1 : (serL os).take a = serL (os.take j) := by rw [serL_split os j, List.take_left' e]
      have e2 : (serL os).drop a = serL (os.drop j) := by rw [serL_split os j, List.drop_left' e]
      rw [if_pos (by omega), if_pos (by omega), if_pos (by omega), Int.toNat_natCast, e1, e2, parse_ser _ hlt (bad_take hb j), parse_ser _ hld (bad_drop hb j), Option.bind_some, Option.bind_some, if_pos rfl, if_pos (by omega), if_pos (by omega), Int.toNat_natCast,
        same_f _ hlt (bad_take hb j) k (by omega), Option.bind_some, if_pos rfl, if_pos rfl, same_f _ hld (bad_drop hb j) k (by omega), Option.bind_some, if_pos rfl]
      rfl
    · have hwj := words_le hb os[j] (List.getElem_mem hjl)
      have et : os.take (j + 1) = os.take j ++ [os[j]] := by rw [List.take_succ_eq_append_getElem hjl]
      have es : (serL (os.take (j + 1))).length = (serL (os.take j)).length + (4 + 4 * os[j].f2.length) := by
        rw [et]; unfold serL; rw [List.flatMap_append, List.length_append, List.flatMap_cons, List.flatMap_nil, List.append_nil, serO_length]
      have := ih (j + 1) k (by omega) (by omega) (by omega) (by
        intro i hi
        by_cases h : i < j
        · exact hne i h
        · obtain rfl : i = j := by omega
          exact e)
      rw [es] at this
      rw [if_neg (by omega), if_pos (by omega), rdT_get os j hjl, IntWalk.wrap64_in ((serL (os.take j)).length + 4) (by omega), IntWalk.wrap64_in (4 * _) (by omega), IntWalk.wrap64_in _ (by omega), IntWalk.wrap64_in _ (by omega)]
      rw [show (((serL (os.take j)).length + (4 + 4 * os[j].f2.length) : Nat) : Int) = ((serL (os.take j)).length : Int) + 4 + 4 * (os[j].f2.length : Int) by omega, show ((j + 1 : Nat) : Int) = (j : Int) + 1 by omega] at this
      exact this

theorem ObjectCuts (os : List S32) (a : Int) : ∃ k, postroadlaw07_ObjectCuts.f k os a = some true := by
  refine ⟨7000, ?_⟩
  have hj : ∀ b x, postroadlaw07_ObjectCuts.j0 7000 os a b true = some x ↔ some true = some x := by
    intro b x
    rw [show (7000 : Nat) = 6999 + 1 from rfl, postroadlaw07_ObjectCuts.j0, if_pos rfl]
    rfl
  rw [postroadlaw07_ObjectCuts.f, few_f os 7000 (by omega), Option.bind_some]
  cases hf : fewB os with
  | false => rw [if_neg (by simp)]; rfl
  | true =>
    rw [if_pos rfl, raw_all os 7000 (by omega), Option.bind_some]
    by_cases hr : (rawO os).2 = 0
    · have hb : badObjs os = false := by
        cases hb : badObjs os with
        | false => rfl
        | true => rw [rawO, if_pos hb] at hr; cases hr
      have h40 : os.length ≤ 40 := by
        by_cases h : 40 < os.length
        · rw [rawO, if_neg (by rw [hb]; simp), if_pos h] at hr; cases hr
        · omega
      have he : rawO os = (serL os, 0) := by rw [rawO, if_neg (by rw [hb]; simp), if_neg (by omega)]
      rw [if_pos hr, he]
      by_cases h0 : a < 0
      · rw [if_pos h0]; exact (hj _ _).2 rfl
      · rw [if_neg h0]
        by_cases h1 : a > ((serL os).length : Int)
        · rw [decide_eq_true h1]; exact (hj _ _).2 rfl
        · obtain ⟨n, rfl⟩ := Int.eq_ofNat_of_zero_le (show 0 ≤ a by omega)
          rw [decide_eq_false h1]
          show postroadlaw07_ObjectCuts.j0 7000 os (n : Int) (serL os) false = some true
          rw [show (7000 : Nat) = 6999 + 1 from rfl, postroadlaw07_ObjectCuts.j0, if_neg (by simp)]
          exact cuts_l0 os h40 hb n (by omega) os.length 0 6999 (by omega) (by omega) (by omega) (fun i hi => absurd hi (Nat.not_lt_zero i))
    · rw [if_neg hr]; exact (hj _ _).2 rfl

end Go.Proofs.Ytecghmlojllkdaa.Pure

import Derived.Test.YtecghmlojllkdaaP4
import Derived.Test.YtecghmlojllkdaaB6
namespace Go.Proofs.Ytecghmlojllkdaa.Pure
open Go.RowKit Go.Proofs.Ytecghmlojllkdaa.P Go.Proofs.YtecghmlojllkdaaW.PrintWords Go.Proofs.YtecghmlojllkdaaW.PrintLast
set_option linter.unusedVariables false
set_option linter.unusedSimpArgs false

/-- The m bytes of a number, most significant first. -/
def beL : Nat → Int → List Int
  | 0, _ => []
  | m + 1, v => (v / 256 ^ m % 256) :: beL m v
theorem beL_length (m : Nat) (v : Int) : (beL m v).length = m := by induction m with | zero => rfl | succ m ih => simp [beL, ih]

theorem beL_low (m : Nat) (a v : Int) : beL m (a * 256 ^ m + v) = beL m v := by
  have key : ∀ (j d : Nat), beL j (a * 256 ^ (j + d) + v) = beL j v := by
    intro j
    induction j with
    | zero => intro d; rfl
    | succ j ih =>
      intro d
      simp only [beL]
      congr 1
      · have e : (256 : Int) ^ (j + 1 + d) = 256 ^ d * 256 * 256 ^ j := by rw [show j + 1 + d = d + 1 + j by omega, Int.pow_add, Int.pow_succ]
        rw [e, show a * (256 ^ d * 256 * 256 ^ j) + v = v + (a * 256 ^ d * 256) * 256 ^ j by rw [← Int.mul_assoc, ← Int.mul_assoc]; omega]
        rw [Int.add_mul_ediv_right _ _ (Int.ne_of_gt (Int.pow_pos (by omega)))]
        omega
      · have := ih (d + 1)
        rwa [show j + (d + 1) = j + 1 + d by omega] at this
  exact key m 0

theorem beNum_cons (x : Int) (xs : List Int) : beNum (x :: xs) = x * 256 ^ xs.length + beNum xs := by
  have key : ∀ (xs : List Int) (a : Int), xs.foldl (fun a b => a * 256 + b) a = a * 256 ^ xs.length + xs.foldl (fun a b => a * 256 + b) 0 := by
    intro xs
    induction xs with
    | nil => intro a; simp
    | cons b xs ih =>
      intro a
      simp only [List.foldl_cons, List.length_cons]
      rw [ih (a * 256 + b), ih (0 * 256 + b), Int.pow_succ, Int.add_mul, Int.mul_assoc, Int.mul_comm 256]
      simp [Int.add_assoc]
  have h := key xs (0 * 256 + x)
  simp only [Int.zero_mul, Int.zero_add] at h
  simpa [beNum] using h

theorem beL_beNum (xs : List Int) (h : Bytes xs) : beL xs.length (beNum xs) = xs := by
  induction xs with
  | nil => rfl
  | cons x xs ih =>
    have hx := h x (by simp)
    have hxs : Bytes xs := fun y hy => h y (by simp [hy])
    have hb := beNum_bound xs hxs
    simp only [List.length_cons, beL, beNum_cons]
    congr 1
    · rw [Int.add_comm, Int.add_mul_ediv_right _ _ (Int.ne_of_gt (Int.pow_pos (by omega))), Int.ediv_eq_zero_of_lt hb.1 hb.2]
      omega
    · rw [beL_low, ih hxs]

theorem number_l0 : ∀ (m k : Nat) (acc : List Int) (v : Int), m ≤ 8 → m + 1 ≤ k → acc.length + m ≤ 1000000 → object_number.l0 k acc v ((m : Int) - 1) = some (acc ++ beL m v) := by
  intro m
  induction m with
  | zero =>
    intro k acc v _ hk _
    obtain ⟨k, rfl⟩ : ∃ k', k = k' + 1 := ⟨k - 1, by omega⟩
    simp [object_number.l0, beL]
  | succ m ih =>
    intro k acc v hm hk hl
    obtain ⟨k, rfl⟩ : ∃ k', k = k' + 1 := ⟨k - 1, by omega⟩
    have e0 : (((m + 1 : Nat) : Int) - 1) = (m : Int) := by omega
    have w1 : wrap64 (8 * (m : Int)) = 8 * (m : Int) := IntWalk.wrap64_in _ (by omega)
    have w2 : wrap64 ((m : Int) - 1) = (m : Int) - 1 := IntWalk.wrap64_in _ (by omega)
    rw [object_number.l0, e0, if_pos (by omega), w1, if_pos (by omega), if_pos (by omega), w2, ih _ _ _ (by omega) (by omega) (by simp; omega)]
    have hs : shr .i64 v (8 * (m : Int)) = v / 256 ^ m := by
      unfold shr
      rw [show (8 * (m : Int)).toNat = 8 * m by omega, Nat.min_eq_left (by show 8 * m ≤ 64; omega), Int.pow_mul]
      rfl
    rw [hs]
    simp [beL]

theorem number_f (k m : Nat) (acc : List Int) (v : Int) (hm : m ≤ 8) (hk : 9 ≤ k) (hl : acc.length + m ≤ 1000000) : object_number.f k acc v (m : Int) = some (acc ++ beL m v) := by
  unfold object_number.f
  rw [IntWalk.wrap64_in _ (by omega)]
  exact number_l0 m k acc v hm (by omega) hl

/-- An object's wire. -/
def serO (o : S32) : List Int := beL 2 (4 + 4 * (o.f2.length : Int)) ++ ([o.f0 % 256, o.f1 % 256] ++ o.f2.flatMap (beL 4))
def serL (os : List S32) : List Int := os.flatMap serO
theorem flat4_length (ws : List Int) : (ws.flatMap (beL 4)).length = 4 * ws.length := by
  induction ws with
  | nil => rfl
  | cons w ws ih => simp [beL_length, ih]; omega
theorem serO_length (o : S32) : (serO o).length = 4 + 4 * o.f2.length := by rw [serO, List.length_append, List.length_append, flat4_length, beL_length]; simp; omega

theorem rd_get (xs : List Int) (j : Nat) (h : j < xs.length) : rd xs (j : Int) = xs[j] := by rw [rd, Int.toNat_natCast]; simp [h]
theorem rdT_get (xs : List S32) (j : Nat) (h : j < xs.length) : rd_T32 xs (j : Int) = xs[j] := by rw [rd_T32, Int.toNat_natCast]; simp [h]

/-- The words of the object at hand, then what follows. -/
theorem raw_l1 (os : List S32) (i : Nat) (hi : i < 100) (ws : List Int) (hw : ws.length ≤ 64) (R : List Int × Int) (K : Nat) : ∀ (d j : Nat) (acc : List Int), d = ws.length - j → j ≤ ws.length → acc.length ≤ 900000 + 4 * j →
    (∀ k, K ≤ k → object_Raw.l0 k (acc ++ (ws.drop j).flatMap (beL 4)) os (os.length : Int) ((i : Int) + 1) = some R) → ∀ k, K + d + 10 ≤ k → object_Raw.l1 k acc os (os.length : Int) (i : Int) ws (ws.length : Int) (j : Int) = some R := by
  intro d
  induction d with
  | zero =>
    intro j acc hd hj hl hnext k hk
    obtain ⟨k, rfl⟩ : ∃ k', k = k' + 1 := ⟨k - 1, by omega⟩
    obtain rfl : j = ws.length := by omega
    rw [object_Raw.l1, if_neg (by omega), IntWalk.wrap64_in _ (by omega)]
    have := hnext k (by omega)
    simpa using this
  | succ d ih =>
    intro j acc hd hj hl hnext k hk
    obtain ⟨k, rfl⟩ : ∃ k', k = k' + 1 := ⟨k - 1, by omega⟩
    have hjl : j < ws.length := by omega
    rw [object_Raw.l1, if_pos (by omega), if_pos (by omega), if_pos (by omega), rd_get ws j hjl]
    rw [show (4 : Int) = ((4 : Nat) : Int) from rfl, number_f k 4 acc _ (by omega) (by omega) (by omega)]
    rw [Option.bind_some, IntWalk.wrap64_in _ (by omega)]
    have := ih (j + 1) (acc ++ beL 4 ws[j]) (by omega) (by omega) (by simp [beL_length]; omega) (by
      intro k hk
      have h := hnext k hk
      rw [List.drop_eq_getElem_cons hjl, List.flatMap_cons, ← List.append_assoc] at h
      exact h) k (by omega)
    rw [show ((j + 1 : Nat) : Int) = (j : Int) + 1 by omega] at this
    exact this

theorem raw_l0 (os : List S32) (hos : os.length ≤ 40) (hw : ∀ o ∈ os, o.f2.length ≤ 64) : ∀ (d i : Nat) (acc : List Int), d = os.length - i → i ≤ os.length → acc.length ≤ 300 * i →
    ∀ k, 100 * d + 20 ≤ k → object_Raw.l0 k acc os (os.length : Int) (i : Int) = some (acc ++ serL (os.drop i), 0) := by
  intro d
  induction d with
  | zero =>
    intro i acc hd hi hl k hk
    obtain ⟨k, rfl⟩ : ∃ k', k = k' + 1 := ⟨k - 1, by omega⟩
    obtain rfl : i = os.length := by omega
    rw [object_Raw.l0, if_neg (by omega)]
    simp [serL]
  | succ d ih =>
    intro i acc hd hi hl k hk
    obtain ⟨k, rfl⟩ : ∃ k', k = k' + 1 := ⟨k - 1, by omega⟩
    have hil : i < os.length := by omega
    have hwi := hw os[i] (List.getElem_mem hil)
    rw [object_Raw.l0, if_pos (by omega), if_pos (by omega), if_pos (by omega), rdT_get os i hil]
    rw [IntWalk.wrap64_in (4 * _) (by omega), IntWalk.wrap64_in _ (by omega)]
    rw [show (2 : Int) = ((2 : Nat) : Int) from rfl, number_f k 2 acc _ (by omega) (by omega) (by omega)]
    rw [Option.bind_some, Option.bind_some, if_pos (by simp [beL_length]; omega)]
    refine raw_l1 os i (by omega) os[i].f2 hwi _ (100 * d + 20) os[i].f2.length 0 _ (by omega) (by omega) (by simp [beL_length]; omega) ?_ k (by omega)
    intro k2 hk2
    have h := ih (i + 1) (acc ++ serO os[i]) (by omega) (by omega) (by simp [serO_length]; omega) k2 hk2
    have e : acc ++ beL 2 (4 + 4 * (os[i].f2.length : Int)) ++ [os[i].f0 % 256, os[i].f1 % 256] ++ (List.drop 0 os[i].f2).flatMap (beL 4) = acc ++ serO os[i] := by simp [serO]
    have e2 : acc ++ serL (os.drop i) = acc ++ serO os[i] ++ serL (os.drop (i + 1)) := by rw [List.drop_eq_getElem_cons hil]; unfold serL; rw [List.flatMap_cons, List.append_assoc]
    rw [e, e2]
    rw [show ((i + 1 : Nat) : Int) = (i : Int) + 1 by omega] at h
    exact h

theorem raw_f (os : List S32) (hos : os.length ≤ 40) (hm : badObjs os = false) (k : Nat) (hk : 5000 ≤ k) : object_Raw.f k os = some (serL os, 0) := by
  have hw : ∀ o ∈ os, o.f2.length ≤ 64 := by
    intro o ho
    have : mayB o = true := by simpa [badObjs] using (List.any_eq_false.1 hm) o ho
    simp [mayB, inB] at this
    omega
  unfold object_Raw.f
  rw [show ContainsBad.f os = some (badObjs os) from rfl, hm]
  simp only [Option.bind_some, Bool.false_eq_true, if_false]
  rw [if_neg (by omega)]
  have := raw_l0 os hos hw os.length 0 [] (by omega) (by omega) (by simp) k (by omega)
  simpa using this

end Go.Proofs.Ytecghmlojllkdaa.Pure

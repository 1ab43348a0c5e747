import Derived.Test.YtecghmlojllkdaaP4
import Derived.Test.YtecghmlojllkdaaB6
import Derived.Test.YtecghmlojllkdaaP23
import Derived.Test.YtecghmlojllkdaaP21
import Derived.Test.YtecghmlojllkdaaP22
import Derived.Test.YtecghmlojllkdaaP16
import Derived.Test.YtecghmlojllkdaaP24
import Derived.Deep.Slices
import Derived.Deep.Strs
import Derived.DataReads
namespace Go.Proofs.Ytecghmlojllkdaa.Pure
open Go.RowKit Go.Proofs.Ytecghmlojllkdaa.P Go.Proofs.YtecghmlojllkdaaW.PrintWords Go.Proofs.YtecghmlojllkdaaW.PrintLast
set_option linter.unusedVariables false
set_option linter.unusedSimpArgs false

/-- The m bytes of a number, most significant first. -/
def beL : Nat → Int → List Int
  | 0, _ => []
  | m + 1, v => (v / 256 ^ m % 256) :: beL m v
theorem beL_length (m : Nat) (v : Int) : (beL m v).length = m := by induction m with | zero => rfl | succ m ih => simp [beL, ih]

theorem beL_low (m : Nat) (a v : Int) : beL m (a * 256 ^ m + v) = beL m v := by
  have key : ∀ (j d : Nat), beL j (a * 256 ^ (j + d) + v) = beL j v := by
    intro j
    induction j with
    | zero => intro d; rfl
    | succ j ih =>
      intro d
      simp only [beL]
      congr 1
      · have e : (256 : Int) ^ (j + 1 + d) = 256 ^ d * 256 * 256 ^ j := by rw [show j + 1 + d = d + 1 + j by omega, Int.pow_add, Int.pow_succ]
        rw [e, show a * (256 ^ d * 256 * 256 ^ j) + v = v + (a * 256 ^ d * 256) * 256 ^ j by rw [← Int.mul_assoc, ← Int.mul_assoc]; omega]
        rw [Int.add_mul_ediv_right _ _ (Int.ne_of_gt (Int.pow_pos (by omega)))]
        omega
      · have := ih (d + 1)
        rwa [show j + (d + 1) = j + 1 + d by omega] at this
  exact key m 0

theorem beNum_cons (x : Int) (xs : List Int) : beNum (x :: xs) = x * 256 ^ xs.length + beNum xs := by
  have key : ∀ (xs : List Int) (a : Int), xs.foldl (fun a b => a * 256 + b) a = a * 256 ^ xs.length + xs.foldl (fun a b => a * 256 + b) 0 := by
    intro xs
    induction xs with
    | nil => intro a; simp
    | cons b xs ih =>
      intro a
      simp only [List.foldl_cons, List.length_cons]
      rw [ih (a * 256 + b), ih (0 * 256 + b), Int.pow_succ, Int.add_mul, Int.mul_assoc, Int.mul_comm 256]
      simp [Int.add_assoc]
  have h := key xs (0 * 256 + x)
  simp only [Int.zero_mul, Int.zero_add] at h
  simpa [beNum] using h

theorem beL_beNum (xs : List Int) (h : Bytes xs) : beL xs.length (beNum xs) = xs := by
  induction xs with
  | nil => rfl
  | cons x xs ih =>
    have hx := h x (by simp)
    have hxs : Bytes xs := fun y hy => h y (by simp [hy])
    have hb := beNum_bound xs hxs
    simp only [List.length_cons, beL, beNum_cons]
    congr 1
    · rw [Int.add_comm, Int.add_mul_ediv_right _ _ (Int.ne_of_gt (Int.pow_pos (by omega))), Int.ediv_eq_zero_of_lt hb.1 hb.2]
      omega
    · rw [beL_low, ih hxs]

theorem number_l0 : ∀ (m k : Nat) (acc : List Int) (v : Int), m ≤ 8 → m + 1 ≤ k → acc.length + m ≤ 1000000 → object_number.l0 k acc v ((m : Int) - 1) = some (acc ++ beL m v) := by
  intro m
  induction m with
  | zero =>
    intro k acc v _ hk _
    obtain ⟨k, rfl⟩ : ∃ k', k = k' + 1 := ⟨k - 1, by omega⟩
    simp [object_number.l0, beL]
  | succ m ih =>
    intro k acc v hm hk hl
    obtain ⟨k, rfl⟩ : ∃ k', k = k' + 1 := ⟨k - 1, by omega⟩
    have e0 : (((m + 1 : Nat) : Int) - 1) = (m : Int) := by omega
    have w1 : wrap64 (8 * (m : Int)) = 8 * (m : Int) := IntWalk.wrap64_in _ (by omega)
    have w2 : wrap64 ((m : Int) - 1) = (m : Int) - 1 := IntWalk.wrap64_in _ (by omega)
    rw [object_number.l0, e0, if_pos (by omega), w1, if_pos (by omega), if_pos (by omega), w2, ih _ _ _ (by omega) (by omega) (by simp; omega)]
    have hs : shr .i64 v (8 * (m : Int)) = v / 256 ^ m := by
      unfold shr
      rw [show (8 * (m : Int)).toNat = 8 * m by omega, Nat.min_eq_left (by show 8 * m ≤ 64; omega), Int.pow_mul]
      rfl
    rw [hs]
    simp [beL]

theorem number_f (k m : Nat) (acc : List Int) (v : Int) (hm : m ≤ 8) (hk : 9 ≤ k) (hl : acc.length + m ≤ 1000000) : object_number.f k acc v (m : Int) = some (acc ++ beL m v) := by
  unfold object_number.f
  rw [IntWalk.wrap64_in _ (by omega)]
  exact number_l0 m k acc v hm (by omega) hl

/-- An object's wire. -/
def serO (o : S32) : List Int := beL 2 (4 + 4 * (o.f2.length : Int)) ++ ([o.f0 % 256, o.f1 % 256] ++ o.f2.flatMap (beL 4))
def serL (os : List S32) : List Int := os.flatMap serO
theorem flat4_length (ws : List Int) : (ws.flatMap (beL 4)).length = 4 * ws.length := by
  induction ws with
  | nil => rfl
  | cons w ws ih => simp [beL_length, ih]; omega
theorem serO_length (o : S32) : (serO o).length = 4 + 4 * o.f2.length := by rw [serO, List.length_append, List.length_append, flat4_length, beL_length]; simp; omega

theorem rd_get (xs : List Int) (j : Nat) (h : j < xs.length) : rd xs (j : Int) = xs[j] := by rw [rd, Int.toNat_natCast]; simp [h]
theorem rdT_get (xs : List S32) (j : Nat) (h : j < xs.length) : rd_T32 xs (j : Int) = xs[j] := by rw [rd_T32, Int.toNat_natCast]; simp [h]

/-- The words of the object at hand, then what follows. -/
theorem raw_l1 (os : List S32) (i : Nat) (hi : i < 100) (ws : List Int) (hw : ws.length ≤ 64) (R : List Int × Int) (K : Nat) : ∀ (d j : Nat) (acc : List Int), d = ws.length - j → j ≤ ws.length → acc.length ≤ 900000 + 4 * j →
    (∀ k, K ≤ k → object_Raw.l0 k (acc ++ (ws.drop j).flatMap (beL 4)) os (os.length : Int) ((i : Int) + 1) = some R) → ∀ k, K + d + 10 ≤ k → object_Raw.l1 k acc os (os.length : Int) (i : Int) ws (ws.length : Int) (j : Int) = some R := by
  intro d
  induction d with
  | zero =>
    intro j acc hd hj hl hnext k hk
    obtain ⟨k, rfl⟩ : ∃ k', k = k' + 1 := ⟨k - 1, by omega⟩
    obtain rfl : j = ws.length := by omega
    rw [object_Raw.l1, if_neg (by omega), IntWalk.wrap64_in _ (by omega)]
    have := hnext k (by omega)
    simpa using this
  | succ d ih =>
    intro j acc hd hj hl hnext k hk
    obtain ⟨k, rfl⟩ : ∃ k', k = k' + 1 := ⟨k - 1, by omega⟩
    have hjl : j < ws.length := by omega
    rw [object_Raw.l1, if_pos (by omega), if_pos (by omega), if_pos (by omega), rd_get ws j hjl]
    rw [show (4 : Int) = ((4 : Nat) : Int) from rfl, number_f k 4 acc _ (by omega) (by omega) (by omega)]
    rw [Option.bind_some, IntWalk.wrap64_in _ (by omega)]
    have := ih (j + 1) (acc ++ beL 4 ws[j]) (by omega) (by omega) (by simp [beL_length]; omega) (by
      intro k hk
      have h := hnext k hk
      rw [List.drop_eq_getElem_cons hjl, List.flatMap_cons, ← List.append_assoc] at h
      exact h) k (by omega)
    rw [show ((j + 1 : Nat) : Int) = (j : Int) + 1 by omega] at this
    exact this

theorem raw_l0 (os : List S32) (hos : os.length ≤ 40) (hw : ∀ o ∈ os, o.f2.length ≤ 64) : ∀ (d i : Nat) (acc : List Int), d = os.length - i → i ≤ os.length → acc.length ≤ 300 * i →
    ∀ k, 100 * d + 20 ≤ k → object_Raw.l0 k acc os (os.length : Int) (i : Int) = some (acc ++ serL (os.drop i), 0) := by
  intro d
  induction d with
  | zero =>
    intro i acc hd hi hl k hk
    obtain ⟨k, rfl⟩ : ∃ k', k = k' + 1 := ⟨k - 1, by omega⟩
    obtain rfl : i = os.length := by omega
    rw [object_Raw.l0, if_neg (by omega)]
    simp [serL]
  | succ d ih =>
    intro i acc hd hi hl k hk
    obtain ⟨k, rfl⟩ : ∃ k', k = k' + 1 := ⟨k - 1, by omega⟩
    have hil : i < os.length := by omega
    have hwi := hw os[i] (List.getElem_mem hil)
    rw [object_Raw.l0, if_pos (by omega), if_pos (by omega), if_pos (by omega), rdT_get os i hil]
    rw [IntWalk.wrap64_in (4 * _) (by omega), IntWalk.wrap64_in _ (by omega)]
    rw [show (2 : Int) = ((2 : Nat) : Int) from rfl, number_f k 2 acc _ (by omega) (by omega) (by omega)]
    rw [Option.bind_some, Option.bind_some, if_pos (by simp [beL_length]; omega)]
    refine raw_l1 os i (by omega) os[i].f2 hwi _ (100 * d + 20) os[i].f2.length 0 _ (by omega) (by omega) (by simp [beL_length]; omega) ?_ k (by omega)
    intro k2 hk2
    have h := ih (i + 1) (acc ++ serO os[i]) (by omega) (by omega) (by simp [serO_length]; omega) k2 hk2
    have e : acc ++ beL 2 (4 + 4 * (os[i].f2.length : Int)) ++ [os[i].f0 % 256, os[i].f1 % 256] ++ (List.drop 0 os[i].f2).flatMap (beL 4) = acc ++ serO os[i] := by simp [serO]
    have e2 : acc ++ serL (os.drop i) = acc ++ serO os[i] ++ serL (os.drop (i + 1)) := by rw [List.drop_eq_getElem_cons hil]; unfold serL; rw [List.flatMap_cons, List.append_assoc]
    rw [e, e2]
    rw [show ((i + 1 : Nat) : Int) = (i : Int) + 1 by omega] at h
    exact h

theorem raw_f (os : List S32) (hos : os.length ≤ 40) (hm : badObjs os = false) (k : Nat) (hk : 5000 ≤ k) : object_Raw.f k os = some (serL os, 0) := by
  have hw : ∀ o ∈ os, o.f2.length ≤ 64 := by
    intro o ho
    have : mayB o = true := by simpa [badObjs] using (List.any_eq_false.1 hm) o ho
    simp [mayB, inB] at this
    omega
  unfold object_Raw.f
  rw [show ContainsBad.f os = some (badObjs os) from rfl, hm]
  simp only [Option.bind_some, Bool.false_eq_true, if_false]
  rw [if_neg (by omega)]
  have := raw_l0 os hos hw os.length 0 [] (by omega) (by omega) (by simp) k (by omega)
  simpa using this

end Go.Proofs.Ytecghmlojllkdaa.Pure

namespace Go.Proofs.Ytecghmlojllkdaa.Pure
open Go.RowKit Go.Proofs.Ytecghmlojllkdaa.P Go.Proofs.YtecghmlojllkdaaW.PrintWords Go.Proofs.YtecghmlojllkdaaW.PrintLast
set_option linter.unusedVariables false
set_option linter.unusedSimpArgs false

theorem be1 (l : List Int) (p : Nat) (h : p + 1 ≤ l.length) : beNum ((l.drop p).take 1) = rd l (p : Int) := by
  rw [rd_get l p (by omega), List.drop_eq_getElem_cons (by omega)]
  simp only [List.take_succ_cons, List.take_zero, beNum, List.foldl_cons, List.foldl_nil, Nat.add_assoc, Nat.reduceAdd]
  omega
theorem be2 (l : List Int) (p : Nat) (h : p + 2 ≤ l.length) : beNum ((l.drop p).take 2) = 256 * rd l (p : Int) + rd l ((p + 1 : Nat) : Int) := by
  rw [rd_get l p (by omega), rd_get l (p + 1) (by omega), List.drop_eq_getElem_cons (by omega), List.drop_eq_getElem_cons (by omega)]
  simp only [List.take_succ_cons, List.take_zero, beNum, List.foldl_cons, List.foldl_nil, Nat.add_assoc, Nat.reduceAdd]
  omega
theorem be4 (l : List Int) (p : Nat) (h : p + 4 ≤ l.length) : beNum ((l.drop p).take 4) = 16777216 * rd l (p : Int) + 65536 * rd l ((p + 1 : Nat) : Int) + 256 * rd l ((p + 2 : Nat) : Int) + rd l ((p + 3 : Nat) : Int) := by
  rw [rd_get l p (by omega), rd_get l (p + 1) (by omega), rd_get l (p + 2) (by omega), rd_get l (p + 3) (by omega), List.drop_eq_getElem_cons (by omega), List.drop_eq_getElem_cons (by omega), List.drop_eq_getElem_cons (by omega), List.drop_eq_getElem_cons (by omega)]
  simp only [List.take_succ_cons, List.take_zero, beNum, List.foldl_cons, List.foldl_nil, Nat.add_assoc, Nat.reduceAdd]
  omega
theorem rd_byte (l : List Int) (hb : Bytes l) (p : Nat) (h : p < l.length) : 0 ≤ rd l (p : Int) ∧ rd l (p : Int) < 256 := by
  rw [rd_get l p h]; exact hb _ (List.getElem_mem h)

/-- The object at a place, told apart. -/
theorem oneAt_some {l : List Int} (hb : Bytes l) {p p' : Nat} {o : S32} (h : oneAt l p = some (o, p')) :
    ∃ K : Nat, 1 ≤ K ∧ K ≤ 64 ∧ p' = p + (4 * K + 4) ∧ p' ≤ l.length ∧ beNum ((l.drop p).take 2) = 4 * (K : Int) + 4 ∧ o = ⟨beNum ((l.drop (p + 2)).take 1), beNum ((l.drop (p + 3)).take 1), wordsAt l (p + 4) K⟩ := by
  unfold oneAt at h
  split at h
  · rename_i h2
    split at h
    · rename_i h3
      split at h
      · rename_i h4
        have hn := beNum_bound ((l.drop p).take 2) (fun x hx => hb x (List.mem_of_mem_drop (List.mem_of_mem_take hx)))
        generalize hN : beNum ((l.drop p).take 2) = N at *
        obtain ⟨hm, hin⟩ := h3
        have e1 : Int.tmod N 4 = N % 4 := Int.tmod_eq_emod_of_nonneg hn.1
        have e2 : Int.tdiv N 4 = N / 4 := Int.tdiv_eq_ediv_of_nonneg hn.1
        rw [e1] at hm
        rw [e2] at hin
        simp [inB] at hin
        injection h with h
        injection h with ho hp
        refine ⟨N.toNat / 4 - 1, by omega, by omega, by omega, by omega, by omega, ho.symm⟩
      · cases h
    · cases h
  · cases h

theorem words_flat (l : List Int) (hb : Bytes l) (q : Nat) : ∀ K, q + 4 * K ≤ l.length → (wordsAt l q K).flatMap (beL 4) = (l.drop q).take (4 * K) := by
  intro K
  induction K with
  | zero => intro _; simp [wordsAt]
  | succ K ih =>
    intro h
    rw [wordsAt_succ, List.flatMap_append, ih (by omega)]
    have hx := beL_beNum ((l.drop (q + 4 * K)).take 4) (fun x hx => hb x (List.mem_of_mem_drop (List.mem_of_mem_take hx)))
    rw [show ((l.drop (q + 4 * K)).take 4).length = 4 by simp; omega] at hx
    simp only [List.flatMap_cons, List.flatMap_nil, List.append_nil]
    rw [hx, show 4 * (K + 1) = 4 * K + 4 by omega, List.take_add, List.drop_drop]

theorem serO_at (l : List Int) (hb : Bytes l) (p K : Nat) (h : p + (4 * K + 4) ≤ l.length) (hN : beNum ((l.drop p).take 2) = 4 * (K : Int) + 4) :
    serO ⟨beNum ((l.drop (p + 2)).take 1), beNum ((l.drop (p + 3)).take 1), wordsAt l (p + 4) K⟩ = (l.drop p).take (4 * K + 4) := by
  have hwl : (wordsAt l (p + 4) K).length = K := by simp [wordsAt]
  have hx := beL_beNum ((l.drop p).take 2) (fun x hx => hb x (List.mem_of_mem_drop (List.mem_of_mem_take hx)))
  rw [show ((l.drop p).take 2).length = 2 by simp; omega, hN] at hx
  have b2 := rd_byte l hb (p + 2) (by omega)
  have b3 := rd_byte l hb (p + 3) (by omega)
  simp only [serO, hwl]
  rw [show 4 + 4 * (K : Int) = 4 * (K : Int) + 4 by omega, hx, be1 l (p + 2) (by omega), be1 l (p + 3) (by omega), words_flat l hb (p + 4) K (by omega), Int.emod_eq_of_lt b2.1 b2.2, Int.emod_eq_of_lt b3.1 b3.2, rd_get l (p + 2) (by omega), rd_get l (p + 3) (by omega)]
  rw [show 4 * K + 4 = 2 + (2 + 4 * K) by omega, List.take_add, List.take_add, List.drop_drop, List.drop_drop]
  congr 1
  rw [show p + (2 + 2) = p + 4 by omega]
  congr 1
  rw [List.drop_eq_getElem_cons (by omega), List.drop_eq_getElem_cons (by omega)]
  simp only [List.take_succ_cons, List.take_zero]

theorem mayB_at (l : List Int) (hb : Bytes l) (p K : Nat) (hK1 : 1 ≤ K) (hK2 : K ≤ 64) (h : p + (4 * K + 4) ≤ l.length) :
    mayB ⟨beNum ((l.drop (p + 2)).take 1), beNum ((l.drop (p + 3)).take 1), wordsAt l (p + 4) K⟩ = true := by
  have hwl : (wordsAt l (p + 4) K).length = K := by simp [wordsAt]
  have b2 := rd_byte l hb (p + 2) (by omega)
  have b3 := rd_byte l hb (p + 3) (by omega)
  have hbw : badWords (wordsAt l (p + 4) K) = false := by
    unfold badWords
    rw [List.any_eq_false]
    intro x hx
    simp only [wordsAt, List.mem_map, List.mem_range] at hx
    obtain ⟨j, hj, rfl⟩ := hx
    have hn := beNum_bound ((l.drop (p + 4 + 4 * j)).take 4) (fun x hx => hb x (List.mem_of_mem_drop (List.mem_of_mem_take hx)))
    rw [show ((l.drop (p + 4 + 4 * j)).take 4).length = 4 by simp; omega] at hn
    simp [inB]
    omega
  simp only [mayB, be1 l (p + 2) (by omega), be1 l (p + 3) (by omega), hwl, hbw, inB]
  generalize rd l ((p + 2 : Nat) : Int) = x at *
  generalize rd l ((p + 3 : Nat) : Int) = y at *
  simp
  omega

theorem scan_ser (l : List Int) (hb : Bytes l) : ∀ n p os, p ≤ l.length → scanAt l n p = (os, true) → serL os = l.drop p ∧ badObjs os = false := by
  intro n
  induction n with
  | zero => intro p os _ h; simp [scanAt] at h
  | succ n ih =>
    intro p os hp h
    rw [scanAt] at h
    split at h
    · split at h
      · cases h
      · rename_i o p' ho
        obtain ⟨K, hK1, hK2, rfl, hp', hN, rfl⟩ := oneAt_some hb ho
        injection h with h1 h2
        obtain ⟨i1, i2⟩ := ih (p + (4 * K + 4)) (scanAt l n (p + (4 * K + 4))).1 hp' (by rw [← h2])
        subst h1
        refine ⟨?_, ?_⟩
        · show serO _ ++ serL _ = _
          rw [i1, serO_at l hb p K hp' hN]
          rw [← List.drop_drop, List.take_append_drop]
        · simp only [badObjs, List.any_cons, mayB_at l hb p K hK1 hK2 hp'] at i2 ⊢
          simpa using i2
    · injection h with h1 h2
      subst h1
      exact ⟨by simp [serL]; omega, rfl⟩


set_option maxHeartbeats 4000000 in
theorem parse_l1 (l : List Int) (hb : Bytes l) (hl : l.length ≤ 65536) (acc : List S32) (hacc : acc.length ≤ 40) (p K : Nat) (h : p + (4 * K + 4) ≤ l.length) (hK : K ≤ 64) (c t : Int) (R : List S32 × Bool) (B : Nat)
    (hnext : ∀ k, B ≤ k → postroadref07_Parse.l0 k l (acc ++ [⟨c, t, wordsAt l (p + 4) K⟩]) ((p + (4 * K + 4) : Nat) : Int) = some R) :
    ∀ d j, d = K - j → j ≤ K → ∀ k, B + d + 1 ≤ k → postroadref07_Parse.l1 k l acc (p : Int) (4 * (K : Int) + 4) ((p + 4 + 4 * j : Nat) : Int) c t (wordsAt l (p + 4) j) = some R := by
  intro d
  induction d with
  | zero =>
    intro j hd hj k hk
    obtain ⟨k, rfl⟩ : ∃ k', k = k' + 1 := ⟨k - 1, by omega⟩
    obtain rfl : j = K := by omega
    have w1 := Lib.hid (show wrap64 ((p : Int) + (4 * (j : Int) + 4)) = ((p + (4 * j + 4) : Nat) : Int) from (by rw [IntWalk.wrap64_in _ (by omega)]; omega))
    rw [postroadref07_Parse.l1, w1.out, if_neg (by omega), if_pos (by omega)]
    exact hnext k (by omega)
  | succ d ih =>
    intro j hd hj k hk
    obtain ⟨k, rfl⟩ : ∃ k', k = k' + 1 := ⟨k - 1, by omega⟩
    have w1 := Lib.hid (show wrap64 ((p : Int) + (4 * (K : Int) + 4)) = ((p + (4 * K + 4) : Nat) : Int) from (by rw [IntWalk.wrap64_in _ (by omega)]; omega))
    have x1 := Lib.hid (show wrap64 (((p + 4 + 4 * j : Nat) : Int) + 1) = ((p + 4 + 4 * j + 1 : Nat) : Int) from (by rw [IntWalk.wrap64_in _ (by omega)]; omega))
    have x2 := Lib.hid (show wrap64 (((p + 4 + 4 * j : Nat) : Int) + 2) = ((p + 4 + 4 * j + 2 : Nat) : Int) from (by rw [IntWalk.wrap64_in _ (by omega)]; omega))
    have x3 := Lib.hid (show wrap64 (((p + 4 + 4 * j : Nat) : Int) + 3) = ((p + 4 + 4 * j + 3 : Nat) : Int) from (by rw [IntWalk.wrap64_in _ (by omega)]; omega))
    have x4 := Lib.hid (show wrap64 (((p + 4 + 4 * j : Nat) : Int) + 4) = ((p + 4 + 4 * (j + 1) : Nat) : Int) from (by rw [IntWalk.wrap64_in _ (by omega)]; omega))
    have r0 := rd_byte l hb (p + 4 + 4 * j) (by omega)
    have r1 := rd_byte l hb (p + 4 + 4 * j + 1) (by omega)
    have r2 := rd_byte l hb (p + 4 + 4 * j + 2) (by omega)
    have r3 := rd_byte l hb (p + 4 + 4 * j + 3) (by omega)
    have hv := be4 l (p + 4 + 4 * j) (by omega)
    have hwl : (wordsAt l (p + 4) j).length = j := by simp [wordsAt]
    have := ih (j + 1) (by omega) (by omega) k (by omega)
    rw [wordsAt_succ, hv] at this
    rw [postroadref07_Parse.l1, w1.out, x1.out, x2.out, x3.out, x4.out, if_pos (by omega), if_pos (by omega), if_pos (by omega), if_pos (by omega), if_pos (by omega), if_pos (by omega), if_pos (by omega), if_pos (by omega), if_pos (by omega), if_pos (by omega)]
    generalize rd l ((p + 4 + 4 * j : Nat) : Int) = y0 at *
    generalize rd l ((p + 4 + 4 * j + 1 : Nat) : Int) = y1 at *
    generalize rd l ((p + 4 + 4 * j + 2 : Nat) : Int) = y2 at *
    generalize rd l ((p + 4 + 4 * j + 3 : Nat) : Int) = y3 at *
    rw [IntWalk.wrap64_in y0 (by omega), IntWalk.wrap64_in y1 (by omega), IntWalk.wrap64_in y2 (by omega), IntWalk.wrap64_in y3 (by omega), IntWalk.wrap64_in (16777216 * y0) (by omega), IntWalk.wrap64_in (65536 * y1) (by omega), IntWalk.wrap64_in (256 * y2) (by omega), IntWalk.wrap64_in (16777216 * y0 + 65536 * y1) (by omega), IntWalk.wrap64_in (16777216 * y0 + 65536 * y1 + 256 * y2) (by omega), IntWalk.wrap64_in _ (by omega)]
    exact this

/-- What the reference gives from a place on. -/
def refAt (l : List Int) (n p : Nat) (acc : List S32) : List S32 × Bool :=
  if (scanAt l n p).2 = true ∧ acc.length + (scanAt l n p).1.length ≤ 40 then (acc ++ (scanAt l n p).1, true) else ([], false)

theorem refAt_bad (l : List Int) (n p : Nat) (acc : List S32) (hp : p < l.length) (h : oneAt l p = none ∨ 40 ≤ acc.length) : refAt l (n + 1) p acc = ([], false) := by
  unfold refAt
  rw [if_neg]
  rw [scanAt, if_pos hp]
  rintro ⟨h1, h2⟩
  split at h1
  · cases h1
  · rename_i o p' ho
    rcases h with h | h
    · rw [h] at ho; cases ho
    · rw [ho] at h2
      simp at h2
      omega

set_option maxHeartbeats 4000000 in
theorem parse_l0 (l : List Int) (hb : Bytes l) (hl : l.length ≤ 65536) : ∀ n p acc, p ≤ l.length → l.length - p < n → acc.length ≤ 40 → ∃ B, ∀ k, B ≤ k → postroadref07_Parse.l0 k l acc (p : Int) = some (refAt l n p acc) := by
  intro n
  induction n with
  | zero => intro p acc _ h; omega
  | succ n ih =>
    intro p acc hp hn hacc
    by_cases hpl : p < l.length
    · have hj1 : ∀ k, 1 ≤ k → postroadref07_Parse.j1 k l acc (p : Int) true = some ([], false) := by
        intro k hk
        obtain ⟨k, rfl⟩ : ∃ k', k = k' + 1 := ⟨k - 1, by omega⟩
        rw [postroadref07_Parse.j1, if_pos rfl]
      have w0 := Lib.hid (show wrap64 ((l.length : Int) - (p : Int)) = (l.length : Int) - (p : Int) from (IntWalk.wrap64_in _ (by omega)))
      by_cases h40 : acc.length = 40
      · refine ⟨2, fun k hk => ?_⟩
        obtain ⟨k, rfl⟩ : ∃ k', k = k' + 1 := ⟨k - 1, by omega⟩
        rw [postroadref07_Parse.l0, if_pos (by omega), if_pos (by omega), hj1 k (by omega), refAt_bad l n p acc hpl (.inr (by omega))]
      · by_cases h8 : l.length - p < 8
        · have hno : oneAt l p = none := by
            cases ho : oneAt l p with
            | none => rfl
            | some ob =>
              obtain ⟨K, hK1, hK2, hp', hp'', _, _⟩ := oneAt_some (p' := ob.2) (o := ob.1) hb ho
              omega
          refine ⟨2, fun k hk => ?_⟩
          obtain ⟨k, rfl⟩ : ∃ k', k = k' + 1 := ⟨k - 1, by omega⟩
          rw [postroadref07_Parse.l0, if_pos (by omega), if_neg (by omega), w0.out, show decide ((l.length : Int) - (p : Int) < 8) = true by simp; omega, hj1 k (by omega), refAt_bad l n p acc hpl (.inl hno)]
        · have x1 := Lib.hid (show wrap64 ((p : Int) + 1) = ((p + 1 : Nat) : Int) from (by rw [IntWalk.wrap64_in _ (by omega)]; omega))
          have r0 := rd_byte l hb p (by omega)
          have r1 := rd_byte l hb (p + 1) (by omega)
          have hN := be2 l p (by omega)
          obtain ⟨N, hNe⟩ : ∃ N, beNum ((l.drop p).take 2) = N := ⟨_, rfl⟩
          rw [hNe] at hN
          have hNb : 0 ≤ N ∧ N < 65536 := by omega
          have hv := Lib.hid (show wrap64 (wrap64 (256 * wrap64 (rd l (p : Int))) + wrap64 (rd l ((p + 1 : Nat) : Int))) = N from (by
            rw [hN, IntWalk.wrap64_in (rd l (p : Int)) (by omega), IntWalk.wrap64_in (rd l ((p + 1 : Nat) : Int)) (by omega), IntWalk.wrap64_in (256 * _) (by omega), IntWalk.wrap64_in _ (by omega)]))
          have hj2 : ∀ k M, 1 ≤ k → postroadref07_Parse.j2 k l acc (p : Int) M true = some ([], false) := by
            intro k M hk
            obtain ⟨k, rfl⟩ : ∃ k', k = k' + 1 := ⟨k - 1, by omega⟩
            rw [postroadref07_Parse.j2, if_pos rfl]
          have hstart : ∀ k, postroadref07_Parse.l0 (k + 1 + 1) l acc (p : Int) = (if (Int.tmod N 4) = 0 then (if N < 8 then (postroadref07_Parse.j2 k l acc (p : Int) N true) else (if N > 260 then (postroadref07_Parse.j2 k l acc (p : Int) N true) else (postroadref07_Parse.j2 k l acc (p : Int) N (decide (N > (l.length : Int) - (p : Int)))))) else (postroadref07_Parse.j2 k l acc (p : Int) N true)) := by
            intro k
            rw [postroadref07_Parse.l0, if_pos (by omega), if_neg (by omega), w0.out, show decide ((l.length : Int) - (p : Int) < 8) = false by simp; omega, postroadref07_Parse.j1, if_neg (by simp), if_pos (by omega), if_pos (by omega), x1.out, if_pos (by omega), if_pos (by omega), hv.out, w0.out]
          have e1 : Int.tmod N 4 = N % 4 := Int.tmod_eq_emod_of_nonneg hNb.1
          have e2 : Int.tdiv N 4 = N / 4 := Int.tdiv_eq_ediv_of_nonneg hNb.1
          by_cases hgood : N % 4 = 0 ∧ 8 ≤ N ∧ N ≤ 260 ∧ N ≤ (l.length : Int) - (p : Int)
          · obtain ⟨g1, g2, g3, g4⟩ := hgood
            obtain ⟨K, hK⟩ : ∃ K : Nat, N = 4 * (K : Int) + 4 := ⟨(N / 4 - 1).toNat, by omega⟩
            have hin : inB (Int.tdiv N 4) 2 65 = true := by rw [e2]; simp [inB]; omega
            have hone : oneAt l p = some (⟨beNum ((l.drop (p + 2)).take 1), beNum ((l.drop (p + 3)).take 1), wordsAt l (p + 4) K⟩, p + (4 * K + 4)) := by
              unfold oneAt
              rw [if_pos (by omega), hNe, if_pos ⟨by rw [e1]; exact g1, hin⟩, if_pos (by omega), show N.toNat / 4 - 1 = K by omega, show N.toNat = 4 * K + 4 by omega]
            obtain ⟨B, hB⟩ := ih (p + (4 * K + 4)) (acc ++ [⟨beNum ((l.drop (p + 2)).take 1), beNum ((l.drop (p + 3)).take 1), wordsAt l (p + 4) K⟩]) (by omega) (by omega) (by simp; omega)
            have href : refAt l n (p + (4 * K + 4)) (acc ++ [⟨beNum ((l.drop (p + 2)).take 1), beNum ((l.drop (p + 3)).take 1), wordsAt l (p + 4) K⟩]) = refAt l (n + 1) p acc := by
              unfold refAt
              rw [show scanAt l (n + 1) p = (_ :: (scanAt l n (p + (4 * K + 4))).1, (scanAt l n (p + (4 * K + 4))).2) by rw [scanAt, if_pos hpl, hone]]
              simp [Nat.add_assoc, Nat.add_comm 1]
            rw [href] at hB
            refine ⟨B + K + 10, fun k hk => ?_⟩
            obtain ⟨k, rfl⟩ : ∃ k', k = k' + 1 + 1 + 1 := ⟨k - 3, by omega⟩
            have y2 := Lib.hid (show wrap64 ((p : Int) + 2) = ((p + 2 : Nat) : Int) from (by rw [IntWalk.wrap64_in _ (by omega)]; omega))
            have y3 := Lib.hid (show wrap64 ((p : Int) + 3) = ((p + 3 : Nat) : Int) from (by rw [IntWalk.wrap64_in _ (by omega)]; omega))
            have y4 := Lib.hid (show wrap64 ((p : Int) + 4) = ((p + 4 + 4 * 0 : Nat) : Int) from (by rw [IntWalk.wrap64_in _ (by omega)]; omega))
            have s2 := rd_byte l hb (p + 2) (by omega)
            have s3 := rd_byte l hb (p + 3) (by omega)
            rw [hstart, e1, if_pos g1, if_neg (by omega), if_neg (by omega), show decide (N > (l.length : Int) - (p : Int)) = false by simp; omega, postroadref07_Parse.j2, if_neg (by simp), y2.out, y3.out, y4.out, if_pos (by omega), if_pos (by omega), if_pos (by omega), if_pos (by omega)]
            rw [be1 l (p + 2) (by omega), be1 l (p + 3) (by omega)] at hB
            rw [IntWalk.wrap64_in _ (by omega), IntWalk.wrap64_in _ (by omega), hK]
            exact parse_l1 l hb hl acc hacc p K (by omega) (by omega) _ _ _ B hB K 0 (by omega) (by omega) k (by omega)
          · have hno : oneAt l p = none := by
              cases ho : oneAt l p with
              | none => rfl
              | some ob =>
                obtain ⟨K, hK1, hK2, hp', hp'', hNK, _⟩ := oneAt_some (p' := ob.2) (o := ob.1) hb ho
                rw [hNe] at hNK
                exact absurd ⟨by omega, by omega, by omega, by omega⟩ hgood
            refine ⟨3, fun k hk => ?_⟩
            obtain ⟨k, rfl⟩ : ∃ k', k = k' + 1 + 1 := ⟨k - 2, by omega⟩
            rw [hstart, refAt_bad l n p acc hpl (.inl hno), e1]
            split
            · split
              · exact hj2 k N (by omega)
              · split
                · exact hj2 k N (by omega)
                · rw [show decide (N > (l.length : Int) - (p : Int)) = true by simp; omega]
                  exact hj2 k N (by omega)
            · exact hj2 k N (by omega)
    · refine ⟨1, fun k hk => ?_⟩
      obtain ⟨k, rfl⟩ : ∃ k', k = k' + 1 := ⟨k - 1, by omega⟩
      have hsc : scanAt l (n + 1) p = ([], true) := by simp [scanAt, hpl]
      rw [postroadref07_Parse.l0, if_neg (by omega), refAt, hsc]
      simp [hacc]

end Go.Proofs.Ytecghmlojllkdaa.Pure

namespace Go.Proofs.Ytecghmlojllkdaa.Pure
open Go.RowKit Go.Proofs.Ytecghmlojllkdaa.P Go.Proofs.YtecghmlojllkdaaW.PrintWords Go.Proofs.YtecghmlojllkdaaW.PrintLast
set_option linter.unusedVariables false
set_option linter.unusedSimpArgs false

theorem eq_l0 (xs : List Int) (hx : xs.length ≤ 64) : ∀ d j k, d = xs.length - j → j ≤ xs.length → d + 1 ≤ k → slices_Equal_int64_int64.l0 k xs xs (xs.length : Int) (j : Int) = some true := by
  intro d
  induction d with
  | zero =>
    intro j k hd hj hk
    obtain ⟨k, rfl⟩ : ∃ k', k = k' + 1 := ⟨k - 1, by omega⟩
    rw [slices_Equal_int64_int64.l0, if_neg (by omega)]
  | succ d ih =>
    intro j k hd hj hk
    obtain ⟨k, rfl⟩ : ∃ k', k = k' + 1 := ⟨k - 1, by omega⟩
    rw [slices_Equal_int64_int64.l0, if_pos (by omega), if_pos (by omega), if_pos (by omega), if_pos (by omega), if_pos rfl, IntWalk.wrap64_in _ (by omega)]
    exact ih (j + 1) k (by omega) (by omega) (by omega)

theorem same_l0 (c t : Int) (xs : List Int) (hx : xs.length ≤ 64) : ∀ d j k, d = xs.length - j → j ≤ xs.length → d + 1 ≤ k → postroadref07_Same.l0 k (j : Int) c t xs c t xs = some true := by
  intro d
  induction d with
  | zero =>
    intro j k hd hj hk
    obtain ⟨k, rfl⟩ : ∃ k', k = k' + 1 := ⟨k - 1, by omega⟩
    rw [postroadref07_Same.l0, if_neg (by omega)]
  | succ d ih =>
    intro j k hd hj hk
    obtain ⟨k, rfl⟩ : ∃ k', k = k' + 1 := ⟨k - 1, by omega⟩
    rw [postroadref07_Same.l0, if_pos (by omega), if_pos (by omega), if_pos (by omega), if_pos rfl, IntWalk.wrap64_in _ (by omega)]
    exact ih (j + 1) k (by omega) (by omega) (by omega)

theorem law_l0 (os : List S32) (hos : os.length ≤ 40) (hw : ∀ o ∈ os, o.f2.length ≤ 64) : ∀ d j k, d = os.length - j → j ≤ os.length → d + 100 ≤ k → postroadlaw07_same.l0 k os os (j : Int) = some true := by
  intro d
  induction d with
  | zero =>
    intro j k hd hj hk
    obtain ⟨k, rfl⟩ : ∃ k', k = k' + 1 := ⟨k - 1, by omega⟩
    rw [postroadlaw07_same.l0, if_neg (by omega)]
  | succ d ih =>
    intro j k hd hj hk
    obtain ⟨k, rfl⟩ : ∃ k', k = k' + 1 := ⟨k - 1, by omega⟩
    have hjl : j < os.length := by omega
    have hwj := hw os[j] (List.getElem_mem hjl)
    have e1 : ∀ k, 90 ≤ k → postroadref07_Same.f k os[j].f0 os[j].f1 os[j].f2 os[j].f0 os[j].f1 os[j].f2 = some true := by
      intro k hk
      obtain ⟨k, rfl⟩ : ∃ k', k = k' + 1 := ⟨k - 1, by omega⟩
      rw [postroadref07_Same.f, if_pos rfl, if_pos rfl, show ((os[j].f2.length : Int) != (os[j].f2.length : Int)) = false by simp, postroadref07_Same.j0, if_neg (by simp)]
      exact same_l0 _ _ _ hwj os[j].f2.length 0 k (by omega) (by omega) (by omega)
    have e2 : ∀ k, 90 ≤ k → object_Same.f k os[j].f0 os[j].f1 os[j].f2 os[j].f0 os[j].f1 os[j].f2 = some true := by
      intro k hk
      have := eq_l0 os[j].f2 hwj os[j].f2.length 0 k (by omega) (by omega) (by omega)
      rw [object_Same.f, if_pos rfl, if_pos rfl, slices_Equal_int64_int64.f, if_pos rfl]
      rw [show ((0 : Nat) : Int) = 0 from rfl] at this
      rw [this]
      rfl
    rw [postroadlaw07_same.l0, if_pos (by omega), if_pos (by omega), if_pos (by omega), rdT_get os j hjl, e1 k (by omega), Option.bind_some, if_pos rfl, e2 k (by omega), Option.bind_some, if_pos rfl, IntWalk.wrap64_in _ (by omega)]
    exact ih (j + 1) k (by omega) (by omega) (by omega)

theorem same_f (os : List S32) (hos : os.length ≤ 40) (hm : badObjs os = false) (k : Nat) (hk : 200 ≤ k) : postroadlaw07_same.f k os os = some true := by
  have hw : ∀ o ∈ os, o.f2.length ≤ 64 := by
    intro o ho
    have : mayB o = true := by simpa [badObjs] using (List.any_eq_false.1 hm) o ho
    simp [mayB, inB] at this
    omega
  rw [postroadlaw07_same.f, if_pos rfl]
  exact law_l0 os hos hw os.length 0 k (by omega) (by omega) (by omega)

end Go.Proofs.Ytecghmlojllkdaa.Pure

namespace Go.Proofs.Ytecghmlojllkdaa.Pure
open Go.RowKit Go.Proofs.Ytecghmlojllkdaa.P Go.Proofs.YtecghmlojllkdaaW.PrintWords Go.Proofs.YtecghmlojllkdaaW.PrintLast
set_option linter.unusedVariables false
set_option linter.unusedSimpArgs false

theorem beL_bytes : ∀ (m : Nat) (v : Int), Bytes (beL m v) := by
  intro m
  induction m with
  | zero => intro v x hx; simp [beL] at hx
  | succ m ih =>
    intro v x hx
    simp only [beL, List.mem_cons] at hx
    rcases hx with rfl | hx
    · omega
    · exact ih v x hx

theorem beNum_beL : ∀ (m : Nat) (v : Int), 0 ≤ v → v < 256 ^ m → beNum (beL m v) = v := by
  have key : ∀ (m : Nat) (v : Int), 0 ≤ v → beNum (beL m v) = v % 256 ^ m := by
    intro m
    induction m with
    | zero => intro v h0; simp [beL, beNum, Int.emod_one]
    | succ m ih =>
      intro v h0
      rw [beL, beNum_cons, ih v h0, beL_length]
      have hp : (0 : Int) < 256 ^ m := Int.pow_pos (by omega)
      rw [Int.pow_succ]
      generalize (256 : Int) ^ m = p at *
      have hv := Int.mul_ediv_add_emod v p
      have hq := Int.mul_ediv_add_emod (v / p) 256
      have hr0 := Int.emod_nonneg v (Int.ne_of_gt hp)
      have hr1 := Int.emod_lt_of_pos v hp
      generalize v % p = r at *
      generalize v / p = q at *
      have hq0 := Int.emod_nonneg q (show (256 : Int) ≠ 0 by omega)
      have hq1 := Int.emod_lt_of_pos q (show (0 : Int) < 256 by omega)
      generalize q % 256 = y at *
      generalize q / 256 = z at *
      have e : v = (y * p + r) + z * (p * 256) := by
        rw [← hv, ← hq, Int.mul_add, ← Int.mul_assoc, Int.mul_comm p y, Int.mul_comm z, Int.mul_assoc p 256 z]
        omega
      have hx : y * p + r < p * 256 := by
        have : y * p ≤ 255 * p := Int.mul_le_mul_of_nonneg_right (by omega) (by omega)
        omega
      have hy : 0 ≤ y * p := Int.mul_nonneg hq0 (by omega)
      rw [e, Int.add_mul_emod_self_right, Int.emod_eq_of_lt (by omega) hx]
  intro m v h0 h1
  rw [key m v h0, Int.emod_eq_of_lt h0 h1]

theorem wordsAt_cons (l : List Int) (q K : Nat) : wordsAt l q (K + 1) = beNum ((l.drop q).take 4) :: wordsAt l (q + 4) K := by
  simp only [wordsAt, List.range_succ_eq_map, List.map_cons, List.map_map]
  congr 1
  apply List.map_congr_left
  intro j _
  simp only [Function.comp]
  rw [show q + 4 * Nat.succ j = q + 4 + 4 * j by omega]

def okWords (ws : List Int) : Prop := ∀ w ∈ ws, 0 ≤ w ∧ w < 4294967296

theorem words_ser : ∀ (ws : List Int), okWords ws → ∀ (pre rest : List Int), wordsAt (pre ++ (ws.flatMap (beL 4) ++ rest)) pre.length ws.length = ws := by
  intro ws
  induction ws with
  | nil => intro _ pre rest; simp [wordsAt]
  | cons w ws ih =>
    intro h pre rest
    have hw := h w (by simp)
    rw [List.length_cons, wordsAt_cons, List.drop_left]
    congr 1
    · rw [List.flatMap_cons, List.append_assoc, List.take_left' (beL_length 4 w), beNum_beL 4 w hw.1 (by omega)]
    · have := ih (fun x hx => h x (by simp [hx])) (pre ++ beL 4 w) rest
      rw [List.length_append, beL_length, List.append_assoc] at this
      rw [List.flatMap_cons, List.append_assoc]
      exact this

theorem mayB_parts {o : S32} (h : mayB o = true) : 0 ≤ o.f0 ∧ o.f0 < 256 ∧ 0 ≤ o.f1 ∧ o.f1 < 256 ∧ 1 ≤ o.f2.length ∧ o.f2.length ≤ 64 ∧ okWords o.f2 := by
  simp only [mayB, inB, Bool.and_eq_true, decide_eq_true_eq, Bool.not_eq_true', badWords, List.any_eq_false] at h
  refine ⟨by omega, by omega, by omega, by omega, by omega, by omega, fun w hw => ?_⟩
  have := h.2 w hw
  simp at this
  omega

theorem oneAt_ser (o : S32) (h : mayB o = true) (pre rest : List Int) : oneAt (pre ++ (serO o ++ rest)) pre.length = some (o, pre.length + (4 * o.f2.length + 4)) := by
  obtain ⟨a0, a1, b0, b1, c0, c1, hw⟩ := mayB_parts h
  have hlen : (pre ++ (serO o ++ rest)).length = pre.length + (4 + 4 * o.f2.length) + rest.length := by simp [serO_length]; omega
  have d0 : (pre ++ (serO o ++ rest)).drop pre.length = serO o ++ rest := List.drop_left
  have hN : beNum (((pre ++ (serO o ++ rest)).drop pre.length).take 2) = 4 * (o.f2.length : Int) + 4 := by
    rw [d0, serO, List.append_assoc, List.take_left' (beL_length 2 _), beNum_beL 2 _ (by omega) (by omega)]
    omega
  have e : pre ++ (serO o ++ rest) = (pre ++ beL 2 (4 + 4 * (o.f2.length : Int))) ++ (o.f0 % 256 :: o.f1 % 256 :: (o.f2.flatMap (beL 4) ++ rest)) := by simp [serO]
  have l2 : (pre ++ beL 2 (4 + 4 * (o.f2.length : Int))).length = pre.length + 2 := by rw [List.length_append, beL_length]
  have h2 : beNum (((pre ++ (serO o ++ rest)).drop (pre.length + 2)).take 1) = o.f0 := by
    rw [e, ← l2, List.drop_left, List.take_succ_cons, List.take_zero]
    simp only [beNum, List.foldl_cons, List.foldl_nil]
    omega
  have e3 : pre ++ (serO o ++ rest) = (pre ++ beL 2 (4 + 4 * (o.f2.length : Int)) ++ [o.f0 % 256]) ++ (o.f1 % 256 :: (o.f2.flatMap (beL 4) ++ rest)) := by simp [serO]
  have l3 : (pre ++ beL 2 (4 + 4 * (o.f2.length : Int)) ++ [o.f0 % 256]).length = pre.length + 3 := by rw [List.length_append, l2]; rfl
  have h3 : beNum (((pre ++ (serO o ++ rest)).drop (pre.length + 3)).take 1) = o.f1 := by
    rw [e3, ← l3, List.drop_left, List.take_succ_cons, List.take_zero]
    simp only [beNum, List.foldl_cons, List.foldl_nil]
    omega
  have e4 : pre ++ (serO o ++ rest) = (pre ++ beL 2 (4 + 4 * (o.f2.length : Int)) ++ [o.f0 % 256] ++ [o.f1 % 256]) ++ (o.f2.flatMap (beL 4) ++ rest) := by simp [serO]
  have l4 : (pre ++ beL 2 (4 + 4 * (o.f2.length : Int)) ++ [o.f0 % 256] ++ [o.f1 % 256]).length = pre.length + 4 := by rw [List.length_append, l3]; rfl
  have h4 : wordsAt (pre ++ (serO o ++ rest)) (pre.length + 4) o.f2.length = o.f2 := by
    rw [e4, ← l4]
    exact words_ser o.f2 hw _ rest
  have t1 : Int.tmod (4 * (o.f2.length : Int) + 4) 4 = 0 := by rw [Int.tmod_eq_emod_of_nonneg (by omega)]; omega
  have t2 : inB (Int.tdiv (4 * (o.f2.length : Int) + 4) 4) 2 65 = true := by rw [Int.tdiv_eq_ediv_of_nonneg (by omega)]; simp [inB]; omega
  unfold oneAt
  rw [if_pos (by omega), hN, if_pos ⟨t1, t2⟩, if_pos (by omega), h2, h3, show (4 * (o.f2.length : Int) + 4).toNat = 4 * o.f2.length + 4 by omega, show (4 * o.f2.length + 4) / 4 - 1 = o.f2.length by omega, h4]

theorem bad_cons {o : S32} {os : List S32} (h : badObjs (o :: os) = false) : mayB o = true ∧ badObjs os = false := by
  simpa [badObjs] using h

theorem scan_of_ser : ∀ (os : List S32), badObjs os = false → ∀ (pre : List Int) (n : Nat), os.length < n → scanAt (pre ++ serL os) n pre.length = (os, true) := by
  intro os
  induction os with
  | nil =>
    intro _ pre n hn
    obtain ⟨n, rfl⟩ : ∃ n', n = n' + 1 := ⟨n - 1, by simp at hn; omega⟩
    simp [scanAt, serL]
  | cons o os ih =>
    intro h pre n hn
    obtain ⟨ho, hos⟩ := bad_cons h
    obtain ⟨n, rfl⟩ : ∃ n', n = n' + 1 := ⟨n - 1, by simp at hn; omega⟩
    have e : pre ++ serL (o :: os) = pre ++ (serO o ++ serL os) := by simp [serL]
    have hl := serO_length o
    have := ih hos (pre ++ serO o) n (by simp at hn; omega)
    rw [List.append_assoc, List.length_append, hl] at this
    rw [e, scanAt, if_pos (by simp [serO_length]; omega), oneAt_ser o ho pre (serL os)]
    simp only
    rw [show pre.length + (4 * o.f2.length + 4) = pre.length + (4 + 4 * o.f2.length) by omega, this]

/-- Wires are told apart by their fronts. -/
theorem ser_front : ∀ (xs os : List S32) (rest : List Int), badObjs xs = false → badObjs os = false → serL xs ++ rest = serL os → xs = os.take xs.length := by
  intro xs
  induction xs with
  | nil => intro os rest _ _ _; simp
  | cons a xs ih =>
    intro os rest ha hos h
    obtain ⟨ha1, ha2⟩ := bad_cons ha
    have h1 := oneAt_ser a ha1 [] (serL xs ++ rest)
    cases os with
    | nil =>
      exfalso
      have := congrArg List.length h
      simp [serL, serO_length] at this
    | cons o os =>
      obtain ⟨ho1, ho2⟩ := bad_cons hos
      have h2 := oneAt_ser o ho1 [] (serL os)
      have e : serO a ++ (serL xs ++ rest) = serO o ++ serL os := by
        have h' := h
        simp only [serL, List.flatMap_cons, List.append_assoc] at h' ⊢
        exact h'
      simp only [List.nil_append] at h1 h2
      rw [e, h2] at h1
      injection h1 with h1
      injection h1 with h1 _
      subst h1
      rw [List.append_cancel_left_eq] at e
      rw [List.length_cons, List.take_succ_cons, ← ih os rest ha2 ho2 e]

end Go.Proofs.Ytecghmlojllkdaa.Pure

namespace Go.Proofs.Ytecghmlojllkdaa.Pure
open Go.RowKit Go.Proofs.Ytecghmlojllkdaa.P Go.Proofs.YtecghmlojllkdaaW.PrintWords Go.Proofs.YtecghmlojllkdaaW.PrintLast
set_option linter.unusedVariables false
set_option linter.unusedSimpArgs false

/-- Few objects, each of few words. -/
def fewB (os : List S32) : Bool := decide (os.length ≤ 45) && os.all (fun o => decide (o.f2.length ≤ 70))

theorem few_l0 (os : List S32) (hos : os.length ≤ 45) : ∀ d j k, d = os.length - j → j ≤ os.length → d + 1 ≤ k → postroadlaw07_few.l0 k os (j : Int) = some ((os.drop j).all (fun o => decide (o.f2.length ≤ 70))) := by
  intro d
  induction d with
  | zero =>
    intro j k hd hj hk
    obtain ⟨k, rfl⟩ : ∃ k', k = k' + 1 := ⟨k - 1, by omega⟩
    obtain rfl : j = os.length := by omega
    rw [postroadlaw07_few.l0, if_neg (by omega)]
    simp
  | succ d ih =>
    intro j k hd hj hk
    obtain ⟨k, rfl⟩ : ∃ k', k = k' + 1 := ⟨k - 1, by omega⟩
    have hjl : j < os.length := by omega
    rw [postroadlaw07_few.l0, if_pos (by omega), if_pos (by omega), rdT_get os j hjl, List.drop_eq_getElem_cons hjl, List.all_cons]
    by_cases h : os[j].f2.length ≤ 70
    · rw [if_neg (by omega), IntWalk.wrap64_in _ (by omega), decide_eq_true h, Bool.true_and]
      exact ih (j + 1) k (by omega) (by omega) (by omega)
    · rw [if_pos (by omega), decide_eq_false h, Bool.false_and]

theorem few_f (os : List S32) (k : Nat) (hk : 50 ≤ k) : postroadlaw07_few.f k os = some (fewB os) := by
  unfold postroadlaw07_few.f fewB
  by_cases h : os.length ≤ 45
  · rw [if_neg (by omega), decide_eq_true h, Bool.true_and]
    have := few_l0 os h os.length 0 k (by omega) (by omega) (by omega)
    simpa using this
  · rw [if_pos (by omega), decide_eq_false h, Bool.false_and]

theorem right_l0 (c t : Int) (ws : List Int) (hws : ws.length ≤ 64) : ∀ d j k, d = ws.length - j → j ≤ ws.length → d + 1 ≤ k → postroadref07_Right.l0 k (j : Int) c t ws = some (!badWords (ws.drop j)) := by
  intro d
  induction d with
  | zero =>
    intro j k hd hj hk
    obtain ⟨k, rfl⟩ : ∃ k', k = k' + 1 := ⟨k - 1, by omega⟩
    obtain rfl : j = ws.length := by omega
    rw [postroadref07_Right.l0, if_neg (by omega)]
    simp [badWords]
  | succ d ih =>
    intro j k hd hj hk
    obtain ⟨k, rfl⟩ : ∃ k', k = k' + 1 := ⟨k - 1, by omega⟩
    have hjl : j < ws.length := by omega
    rw [postroadref07_Right.l0, if_pos (by omega), if_pos (by omega), rd_get ws j hjl, List.drop_eq_getElem_cons hjl]
    by_cases h1 : ws[j] < 0
    · have hin : inB ws[j] 0 4294967295 = false := by unfold inB; rw [decide_eq_false (p := 0 ≤ ws[j]) (by omega), Bool.false_and]
      rw [if_pos h1]; simp only [badWords, List.any_cons, hin, Bool.not_false, Bool.true_or, Bool.not_true]
    · by_cases h2 : ws[j] > 4294967295
      · have hin : inB ws[j] 0 4294967295 = false := by unfold inB; rw [decide_eq_false (p := ws[j] ≤ 4294967295) (by omega), Bool.and_false]
        rw [if_neg h1, if_pos h2]; simp only [badWords, List.any_cons, hin, Bool.not_false, Bool.true_or, Bool.not_true]
      · rw [if_neg h1, if_neg h2, IntWalk.wrap64_in _ (by omega)]
        have := ih (j + 1) k (by omega) (by omega) (by omega)
        rw [show ((j + 1 : Nat) : Int) = (j : Int) + 1 by omega] at this
        rw [this]
        have hin : inB ws[j] 0 4294967295 = true := by simp [inB]; omega
        simp only [badWords, List.any_cons, hin, Bool.not_true, Bool.false_or]

theorem right_f (o : S32) (k : Nat) (hk : 100 ≤ k) : postroadref07_Right.f k o.f0 o.f1 o.f2 = some (mayB o) := by
  obtain ⟨k, rfl⟩ : ∃ k', k = k' + 1 := ⟨k - 1, by omega⟩
  have hf : postroadref07_Right.j0 (k + 1) true o.f0 o.f1 o.f2 = some false := by rw [postroadref07_Right.j0, if_pos rfl]
  unfold postroadref07_Right.f
  rw [hf]
  by_cases a0 : o.f0 < 0
  · rw [if_pos a0]; simp [mayB, inB]; omega
  · by_cases a1 : o.f0 > 255
    · rw [if_neg a0, if_pos a1]; simp [mayB, inB]; omega
    · by_cases b0 : o.f1 < 0
      · rw [if_neg a0, if_neg a1, if_pos b0]; simp [mayB, inB]; omega
      · by_cases b1 : o.f1 > 255
        · rw [if_neg a0, if_neg a1, if_neg b0, if_pos b1]; simp [mayB, inB]; omega
        · by_cases c0 : (o.f2.length : Int) < 1
          · rw [if_neg a0, if_neg a1, if_neg b0, if_neg b1, if_pos c0]; simp [mayB, inB]; omega
          · rw [if_neg a0, if_neg a1, if_neg b0, if_neg b1, if_neg c0, postroadref07_Right.j0]
            by_cases c1 : (o.f2.length : Int) > 64
            · rw [if_pos (by simpa using c1)]; simp [mayB, inB]; omega
            · rw [if_neg (by simpa using c1)]
              have := right_l0 o.f0 o.f1 o.f2 (by omega) o.f2.length 0 k (by omega) (by omega) (by omega)
              rw [show ((0 : Nat) : Int) = 0 from rfl, List.drop_zero] at this
              rw [this]
              have e1 : inB o.f0 0 255 = true := by simp [inB]; omega
              have e2 : inB o.f1 0 255 = true := by simp [inB]; omega
              have e3 : inB (o.f2.length : Int) 1 64 = true := by simp [inB]; omega
              simp only [mayB, e1, e2, e3, Bool.true_and]

end Go.Proofs.Ytecghmlojllkdaa.Pure

namespace Go.Proofs.Ytecghmlojllkdaa.Pure
open Go.RowKit Go.Proofs.Ytecghmlojllkdaa.P Go.Proofs.YtecghmlojllkdaaW.PrintWords Go.Proofs.YtecghmlojllkdaaW.PrintLast
set_option linter.unusedVariables false
set_option linter.unusedSimpArgs false

theorem word_bytes (w : Int) (h0 : 0 ≤ w) (h1 : w < 4294967296) :
    [(wrap64 (Int.tdiv w 16777216)) % 256, (Int.tmod (wrap64 (Int.tdiv w 65536)) 256) % 256, (Int.tmod (wrap64 (Int.tdiv w 256)) 256) % 256, (Int.tmod w 256) % 256] = beL 4 w := by
  rw [Int.tdiv_eq_ediv_of_nonneg h0, Int.tdiv_eq_ediv_of_nonneg h0, Int.tdiv_eq_ediv_of_nonneg h0, IntWalk.wrap64_in _ (by omega), IntWalk.wrap64_in _ (by omega), IntWalk.wrap64_in _ (by omega),
    Int.tmod_eq_emod_of_nonneg (by omega), Int.tmod_eq_emod_of_nonneg (by omega), Int.tmod_eq_emod_of_nonneg h0]
  simp only [beL]
  have e1 : (256 : Int) ^ 3 = 16777216 := by decide
  have e2 : (256 : Int) ^ 2 = 65536 := by decide
  have e3 : (256 : Int) ^ 1 = 256 := by decide
  have e4 : (256 : Int) ^ 0 = 1 := by decide
  rw [e1, e2, e3, e4]
  simp only [List.cons.injEq]
  refine ⟨?_, ?_, ?_, ?_, trivial⟩ <;> first | trivial | omega

theorem refraw_l0 (c t : Int) (ws : List Int) (hws : ws.length ≤ 64) (hok : okWords ws) : ∀ d j acc k, d = ws.length - j → j ≤ ws.length → d + 1 ≤ k → acc.length ≤ 4 + 4 * j → postroadref07_Raw.l0 k acc (j : Int) c t ws = some (acc ++ (ws.drop j).flatMap (beL 4)) := by
  intro d
  induction d with
  | zero =>
    intro j acc k hd hj hk ha
    obtain ⟨k, rfl⟩ : ∃ k', k = k' + 1 := ⟨k - 1, by omega⟩
    obtain rfl : j = ws.length := by omega
    rw [postroadref07_Raw.l0, if_neg (by omega)]
    simp
  | succ d ih =>
    intro j acc k hd hj hk ha
    obtain ⟨k, rfl⟩ : ∃ k', k = k' + 1 := ⟨k - 1, by omega⟩
    have hjl : j < ws.length := by omega
    have hw := hok ws[j] (List.getElem_mem hjl)
    rw [postroadref07_Raw.l0, if_pos (by omega), if_pos (by omega), rd_get ws j hjl, word_bytes _ hw.1 hw.2, Option.bind_some, beL_length, if_pos (by omega), IntWalk.wrap64_in _ (by omega)]
    have := ih (j + 1) (acc ++ beL 4 ws[j]) k (by omega) (by omega) (by omega) (by simp [beL_length]; omega)
    rw [show ((j + 1 : Nat) : Int) = (j : Int) + 1 by omega] at this
    rw [this, List.drop_eq_getElem_cons hjl, List.flatMap_cons, List.append_assoc]

theorem refraw_f (o : S32) (h : mayB o = true) (k : Nat) (hk : 100 ≤ k) : postroadref07_Raw.f k o.f0 o.f1 o.f2 = some (serO o) := by
  obtain ⟨a0, a1, b0, b1, c0, c1, hw⟩ := mayB_parts h
  unfold postroadref07_Raw.f
  have e : [(wrap64 (Int.tdiv (wrap64 (4 + (wrap64 (4 * (o.f2.length : Int))))) 256)) % 256, (Int.tmod (wrap64 (4 + (wrap64 (4 * (o.f2.length : Int))))) 256) % 256] = beL 2 (4 + 4 * (o.f2.length : Int)) := by
    rw [IntWalk.wrap64_in (4 * _) (by omega), IntWalk.wrap64_in (4 + _) (by omega), Int.tdiv_eq_ediv_of_nonneg (by omega), IntWalk.wrap64_in _ (by omega), Int.tmod_eq_emod_of_nonneg (by omega)]
    simp only [beL]
    have e3 : (256 : Int) ^ 1 = 256 := by decide
    have e4 : (256 : Int) ^ 0 = 1 := by decide
    rw [e3, e4]
    simp only [List.cons.injEq]
    refine ⟨?_, ?_, trivial⟩ <;> first | trivial | omega
  have := refraw_l0 o.f0 o.f1 o.f2 c1 hw o.f2.length 0 (beL 2 (4 + 4 * (o.f2.length : Int)) ++ [o.f0 % 256, o.f1 % 256]) k (by omega) (by omega) (by omega) (by simp [beL_length])
  rw [show ((0 : Nat) : Int) = 0 from rfl, List.drop_zero, ← e] at this
  rw [serO, ← e, ← List.append_assoc]
  exact this

end Go.Proofs.Ytecghmlojllkdaa.Pure

namespace Go.Proofs.Ytecghmlojllkdaa.Pure
open Go.RowKit Go.Proofs.Ytecghmlojllkdaa.P Go.Proofs.YtecghmlojllkdaaW.PrintWords Go.Proofs.YtecghmlojllkdaaW.PrintLast
set_option linter.unusedVariables false
set_option linter.unusedSimpArgs false

theorem bytes_wf {l : List Int} (h : ∀ x ∈ l, (Lit.int .u8 x).wf = true) : Bytes l := by
  intro x hx
  have := h x hx
  simp [Lit.wf, IntKind.min, IntKind.max, IntKind.signed, IntKind.bits] at this
  omega

theorem object_Parse_f {l : List Int} (hb : Bytes l) : object_Parse.f l = some (parseO l) := by
  unfold object_Parse.f
  rw [if_pos ((bytesB_iff l).2 hb)]

theorem ObjectParses : postroadlaw07_ObjectParses.Pure := by
  intro l0 hm hs hwf
  have hb := bytes_wf hwf
  by_cases h4 : (l0.length : Int) > 4000
  · exact ⟨1, by rw [postroadlaw07_ObjectParses.f, if_pos h4]; rfl⟩
  · obtain ⟨B, hB⟩ := parse_l0 l0 hb (by omega) (l0.length + 1) 0 [] (by omega) (by omega) (by simp)
    refine ⟨B + 6000, ?_⟩
    have hp : postroadref07_Parse.f (B + 6000) l0 = some (refAt l0 (l0.length + 1) 0 []) := hB _ (by omega)
    rw [postroadlaw07_ObjectParses.f, if_neg h4, object_Parse_f hb, hp, Option.bind_some, Option.bind_some]
    by_cases hg : (scanAt l0 (l0.length + 1) 0).2 = true ∧ (scanAt l0 (l0.length + 1) 0).1.length ≤ 40
    · have h1 : parseO l0 = ((scanAt l0 (l0.length + 1) 0).1, 0) := by rw [parseO, if_neg (by omega), if_pos hg]
      have h2 : refAt l0 (l0.length + 1) 0 [] = ((scanAt l0 (l0.length + 1) 0).1, true) := by rw [refAt, if_pos ⟨hg.1, by simpa using hg.2⟩]; rfl
      obtain ⟨s1, s2⟩ := scan_ser l0 hb (l0.length + 1) 0 (scanAt l0 (l0.length + 1) 0).1 (by omega) (by rw [← hg.1])
      rw [h1, h2, if_pos rfl, raw_f _ hg.2 s2 _ (by omega), Option.bind_some, if_pos rfl, same_f _ hg.2 s2 _ (by omega), Option.bind_some, if_pos rfl, if_pos rfl, if_pos (by rw [s1]; rfl)]
      rfl
    · have h1 : parseO l0 = ([], 170) := by rw [parseO, if_neg (by omega), if_neg hg]
      have h2 : refAt l0 (l0.length + 1) 0 [] = ([], false) := by rw [refAt, if_neg (by simpa using hg)]
      rw [h1, h2, if_neg (by simp)]
      rfl

end Go.Proofs.Ytecghmlojllkdaa.Pure

namespace Go.Proofs.Ytecghmlojllkdaa.Pure
open Go.RowKit Go.Proofs.Ytecghmlojllkdaa.P Go.Proofs.YtecghmlojllkdaaW.PrintWords Go.Proofs.YtecghmlojllkdaaW.PrintLast
set_option linter.unusedVariables false
set_option linter.unusedSimpArgs false

theorem flat4_bytes (ws : List Int) : Bytes (ws.flatMap (beL 4)) := by
  intro x hx
  obtain ⟨w, _, hx⟩ := List.mem_flatMap.1 hx
  exact beL_bytes 4 w x hx
theorem serL_bytes (os : List S32) : Bytes (serL os) := by
  intro x hx
  obtain ⟨o, _, hx⟩ := List.mem_flatMap.1 hx
  simp only [serO, List.mem_append, List.mem_cons, List.not_mem_nil, or_false] at hx
  rcases hx with hx | (rfl | rfl) | hx
  · exact beL_bytes 2 _ x hx
  · omega
  · omega
  · exact flat4_bytes _ x hx
theorem serL_length (os : List S32) (m : Nat) (h : ∀ o ∈ os, o.f2.length ≤ m) : (serL os).length ≤ (4 + 4 * m) * os.length := by
  induction os with
  | nil => simp [serL]
  | cons o os ih =>
    have h1 := h o (by simp)
    have h2 := ih (fun x hx => h x (by simp [hx]))
    have e : (serL (o :: os)).length = (serO o).length + (serL os).length := by simp [serL]
    rw [e, serO_length, List.length_cons, Nat.mul_add]
    omega
theorem parse_ser (os : List S32) (hos : os.length ≤ 40) (hb : badObjs os = false) : object_Parse.f (serL os) = some (os, 0) := by
  have hw : ∀ o ∈ os, o.f2.length ≤ 64 := by
    intro o ho
    have : mayB o = true := by simpa [badObjs] using (List.any_eq_false.1 hb) o ho
    exact (mayB_parts this).2.2.2.2.2.1
  have hl := serL_length os 64 hw
  have hn : os.length < (serL os).length + 1 := by
    have : ∀ (os : List S32), os.length ≤ (serL os).length := by
      intro os
      induction os with
      | nil => simp
      | cons o os ih =>
        have e : (serL (o :: os)).length = (serO o).length + (serL os).length := by simp [serL]
        rw [e, serO_length, List.length_cons]
        omega
    have := this os
    omega
  have hs := scan_of_ser os hb [] ((serL os).length + 1) hn
  simp only [List.nil_append, List.length_nil] at hs
  rw [object_Parse_f (serL_bytes os), parseO, if_neg (by omega), hs, if_pos ⟨rfl, hos⟩]

/-- What object.Raw gives. -/
def rawO (os : List S32) : List Int × Int := if badObjs os = true then ([], 2) else if 40 < os.length then ([], 3) else (serL os, 0)
theorem raw_all (os : List S32) (k : Nat) (hk : 5000 ≤ k) : object_Raw.f k os = some (rawO os) := by
  unfold rawO
  by_cases hb : badObjs os = true
  · rw [if_pos hb]
    unfold object_Raw.f
    rw [show ContainsBad.f os = some (badObjs os) from rfl, hb, Option.bind_some, if_pos rfl]
  · rw [if_neg hb]
    have hb' : badObjs os = false := by simpa using hb
    by_cases h : 40 < os.length
    · rw [if_pos h]
      unfold object_Raw.f
      rw [show ContainsBad.f os = some (badObjs os) from rfl, hb', Option.bind_some, if_neg (by simp), if_pos (by omega)]
    · rw [if_neg h]
      exact raw_f os (by omega) hb' k hk

theorem raws_l0 (os : List S32) (h45 : os.length ≤ 45) (h70 : ∀ o ∈ os, o.f2.length ≤ 70) : ∀ d j k, d = os.length - j → j ≤ os.length → d + 6000 ≤ k → badObjs (os.take j) = false →
    postroadlaw07_ObjectRaws.l0 k os (rawO os).1 (rawO os).2 (serL (os.take j)) (j : Int) = some true := by
  intro d
  induction d with
  | zero =>
    intro j k hd hj hk hb
    obtain ⟨k, rfl⟩ : ∃ k', k = k' + 1 := ⟨k - 1, by omega⟩
    obtain rfl : j = os.length := by omega
    rw [List.take_length] at hb ⊢
    rw [postroadlaw07_ObjectRaws.l0, if_neg (by omega)]
    by_cases h : 40 < os.length
    · have hr : rawO os = ([], 3) := by unfold rawO; rw [hb, if_neg Bool.false_ne_true, if_pos h]
      rw [if_pos (by omega), hr]
      rfl
    · have hr : rawO os = (serL os, 0) := by unfold rawO; rw [hb, if_neg Bool.false_ne_true, if_neg h]
      rw [if_neg (by omega), hr, parse_ser os (by omega) hb, Option.bind_some, if_pos rfl, if_pos rfl, if_pos rfl, same_f os (by omega) hb k (by omega)]
      rfl
  | succ d ih =>
    intro j k hd hj hk hb
    obtain ⟨k, rfl⟩ : ∃ k', k = k' + 1 := ⟨k - 1, by omega⟩
    have hjl : j < os.length := by omega
    have et : os.take (j + 1) = os.take j ++ [os[j]] := by rw [List.take_succ_eq_append_getElem hjl]
    rw [postroadlaw07_ObjectRaws.l0, if_pos (by omega), if_pos (by omega), rdT_get os j hjl, right_f os[j] k (by omega), Option.bind_some]
    cases hm : mayB os[j] with
    | true =>
      have hl := serL_length (os.take j) 70 (fun o ho => h70 o (List.mem_of_mem_take ho))
      have hlt : (os.take j).length ≤ 45 := by simp; omega
      have hl2 : (serL (os.take j)).length ≤ 284 * 45 := Nat.le_trans hl (Nat.mul_le_mul_left _ hlt)
      have h70j := h70 os[j] (List.getElem_mem hjl)
      rw [if_pos rfl, refraw_f os[j] hm k (by omega), Option.bind_some, if_pos (by rw [serO_length]; omega), IntWalk.wrap64_in _ (by omega)]
      have := ih (j + 1) k (by omega) (by omega) (by omega) (by rw [et]; simp only [badObjs, List.any_append, List.any_cons, List.any_nil, hm] at hb ⊢; simpa using hb)
      rw [et] at this
      rw [show serL (os.take j ++ [os[j]]) = serL (os.take j) ++ serO os[j] by unfold serL; rw [List.flatMap_append, List.flatMap_cons, List.flatMap_nil, List.append_nil], show ((j + 1 : Nat) : Int) = (j : Int) + 1 by omega] at this
      exact this
    | false =>
      have hbad : badObjs os = true := by
        simp only [badObjs, List.any_eq_true]
        exact ⟨os[j], List.getElem_mem hjl, by simp [hm]⟩
      have hr : rawO os = ([], 2) := by unfold rawO; rw [if_pos hbad]
      rw [if_neg (by simp), hr]
      rfl

theorem ObjectRaws (os : List S32) : ∃ k, postroadlaw07_ObjectRaws.f k os = some true := by
  refine ⟨7000, ?_⟩
  rw [postroadlaw07_ObjectRaws.f, few_f os 7000 (by omega), Option.bind_some]
  cases hf : fewB os with
  | false => rw [if_neg (by simp)]; rfl
  | true =>
    simp only [fewB, Bool.and_eq_true, decide_eq_true_eq, List.all_eq_true] at hf
    rw [if_pos rfl, raw_all os 7000 (by omega), Option.bind_some]
    have := raws_l0 os hf.1 hf.2 os.length 0 7000 (by omega) (by omega) (by omega) rfl
    exact this

end Go.Proofs.Ytecghmlojllkdaa.Pure

namespace Go.Proofs.Ytecghmlojllkdaa.Pure
open Go.RowKit Go.ChangeShapes Go.WideShapes Go.Deep Go.Proofs.Ytecghmlojllkdaa.P Go.Proofs.YtecghmlojllkdaaW.PrintWords Go.Proofs.YtecghmlojllkdaaW.PrintLast
set_option linter.unusedVariables false
set_option linter.unusedSimpArgs false

/-- One object that came in. -/
theorem open_obj {H : Type} {enc : TypeId × Value → H} {w : World} {base : Nat} {spare : Nat → Bool} {held : Bool} {n : Nat} {cs : List Value} {x : DataW H × List MemPlace}
    (h : DataW.trod enc Try.prog w base spare held n 32 cs = some x) : ∃ o : S32, k32.K w o cs := by
  obtain ⟨y0, y1, y2, m, _, hl, h0, h1, h2⟩ := trod_struct3 Try.underlying32 h
  have hl3 : cs.length = 3 := hl.trans (by kernel_rfl)
  match cs, hl3 with
  | [v0, v1, v2], _ =>
    have e3 : Try.prog.cellsOf 3 = 1 := by kernel_rfl
    have e30 : Try.prog.cellsOf 30 = 1 := by kernel_rfl
    simp only [e3, e30, List.drop_zero, List.drop_succ_cons, List.take_succ_cons, List.take_zero] at h0 h1 h2
    obtain ⟨n0, e0, _, _⟩ := DataW.trod_int Try.underlying3 h0
    obtain ⟨n1, e1, _, _⟩ := DataW.trod_int Try.underlying3 h1
    injection e0 with e0
    injection e1 with e1
    subst e0 e1
    rcases open_ints Try.underlying30 Try.underlying2 (by kernel_rfl) h2 with ⟨hcs, _⟩ | ⟨a, len, cap, zs, hcs, _, hlc, hm, hz, _, hcell, hwz⟩
    · injection hcs with hcs
      subst hcs
      exact ⟨⟨n0, n1, []⟩, k32_mk w ⟨n0, n1, []⟩ (Nat.le_refl _) ⟨rfl, by simp, fun hn => by simp at hn⟩⟩
    · injection hcs with hcs
      subst hcs
      have hlz : len ≤ zs.length := by rw [hz]; split <;> omega
      have hll : (zs.take len).length = len := by simp; omega
      refine ⟨⟨n0, n1, zs.take len⟩, ?_⟩
      have := k32_mk w ⟨n0, n1, zs.take len⟩ (A2 := some a) (c2 := cap) (by show (zs.take len).length ≤ cap; omega) ⟨rfl, by show (zs.take len).length ≤ _; simp only [maxLen] at hm; omega, fun hn => ⟨a, rfl, fun j p hj => ?_⟩⟩
      · simpa [hll] using this
      · refine ⟨[.int .i64 p], rfl, rfl, fun i u hu => ?_⟩
        obtain ⟨rfl, rfl⟩ : i = 0 ∧ Value.int .i64 p = u := by
          cases i with
          | zero => simpa using hu
          | succ i => simp at hu
        obtain ⟨hjl, hjp⟩ := List.getElem?_eq_some_iff.1 hj
        have hjz : j < zs.length := by simp at hjl; omega
        have hc := hcell j hjz
        rw [List.getElem_take] at hjp
        have e : zs.getD j 0 = p := by rw [List.getD_eq_getElem?_getD, List.getElem?_eq_getElem hjz]; exact hjp
        rw [e] at hc
        have e2 : j * (Kd.int .i64).sz + 0 = j := by show j * 1 + 0 = j; omega
        rw [e2]
        exact hc

/-- The objects that came in. -/
theorem open_objs {H : Type} {enc : TypeId × Value → H} {w : World} {base : Nat} {spare : Nat → Bool} {held : Bool} {fuel : Nat} {A : Option Addr} {len cap : Nat} {x : DataW H × List MemPlace}
    (h : DataW.trod enc Try.prog w base spare held fuel 22 [.slice A len cap] = some x) : ∃ l : List S32, l.length = len ∧ len ≤ cap ∧ Kd.C k32 w A len l := by
  rcases open_slice Try.underlying22 h with ⟨hcs, _⟩ | ⟨a, len', cap', m, n, D, Pl, hcs, _, hl, hm, hmm, _, hel⟩
  · injection hcs with hcs
    injection hcs with e1 e2 e3
    subst e1 e2 e3
    exact ⟨[], rfl, Nat.le_refl _, rfl, by omega, fun hn => by omega⟩
  · injection hcs with hcs
    injection hcs with e1 e2 e3
    subst e1 e2 e3
    have hlm : len ≤ m := by rw [hmm]; split <;> omega
    have hE : Try.prog.cellsOf 32 = 3 := by kernel_rfl
    have hob : ∀ i, ∃ o : S32, i < len → ∃ cs : List Value, cs.length = 3 ∧ k32.K w o cs ∧ ∀ j u, cs[j]? = some u → w.cell? (a.add (i * 3 + j)) = some u := by
      intro i
      by_cases hi : i < len
      · obtain ⟨cs, hcs, ht⟩ := hel i (by omega)
        obtain ⟨o, ho⟩ := open_obj ht
        rw [hE] at hcs
        obtain ⟨_, hcl, hcc⟩ := World.cells?_some hcs
        refine ⟨o, fun _ => ⟨cs, hcl, ho, fun j u hu => ?_⟩⟩
        have hj : j < 3 := by have := (List.getElem?_eq_some_iff.1 hu).1; omega
        have := hcc j hj
        rw [hu] at this
        rw [← this]
        congr 1
        cases i with
        | zero => simp [Addr.add]
        | succ i =>
          cases j with
          | zero => simp [Addr.add]
          | succ j => simp [Addr.add]; omega
      · exact ⟨z32, fun h => absurd h hi⟩
    have hch := Classical.axiomOfChoice hob
    obtain ⟨f, hf⟩ := hch
    refine ⟨(List.range len).map f, by simp, hl, by simp, by simp only [maxLen] at hm; omega, fun hn => ⟨a, rfl, fun j p hj => ?_⟩⟩
    obtain ⟨hjl, hjp⟩ := List.getElem?_eq_some_iff.1 hj
    simp at hjl hjp
    subst hjp
    exact hf j hjl

end Go.Proofs.Ytecghmlojllkdaa.Pure

import Derived.Test.YtecghmlojllkdaaC1
import Derived.Test.YtecghmlojllkdaaP23
namespace Go.Proofs.Ytecghmlojllkdaa.Pure
open Go.RowKit Go.Proofs.Ytecghmlojllkdaa.P Go.Proofs.YtecghmlojllkdaaW.PrintWords Go.Proofs.YtecghmlojllkdaaW.PrintLast
set_option linter.unusedVariables false
set_option linter.unusedSimpArgs false

theorem be1 (l : List Int) (p : Nat) (h : p + 1 ≤ l.length) : beNum ((l.drop p).take 1) = rd l (p : Int) := by
  rw [rd_get l p (by omega), List.drop_eq_getElem_cons (by omega)]
  simp only [List.take_succ_cons, List.take_zero, beNum, List.foldl_cons, List.foldl_nil, Nat.add_assoc, Nat.reduceAdd]
  omega
theorem be2 (l : List Int) (p : Nat) (h : p + 2 ≤ l.length) : beNum ((l.drop p).take 2) = 256 * rd l (p : Int) + rd l ((p + 1 : Nat) : Int) := by
  rw [rd_get l p (by omega), rd_get l (p + 1) (by omega), List.drop_eq_getElem_cons (by omega), List.drop_eq_getElem_cons (by omega)]
  simp only [List.take_succ_cons, List.take_zero, beNum, List.foldl_cons, List.foldl_nil, Nat.add_assoc, Nat.reduceAdd]
  omega
theorem be4 (l : List Int) (p : Nat) (h : p + 4 ≤ l.length) : beNum ((l.drop p).take 4) = 16777216 * rd l (p : Int) + 65536 * rd l ((p + 1 : Nat) : Int) + 256 * rd l ((p + 2 : Nat) : Int) + rd l ((p + 3 : Nat) : Int) := by
  rw [rd_get l p (by omega), rd_get l (p + 1) (by omega), rd_get l (p + 2) (by omega), rd_get l (p + 3) (by omega), List.drop_eq_getElem_cons (by omega), List.drop_eq_getElem_cons (by omega), List.drop_eq_getElem_cons (by omega), List.drop_eq_getElem_cons (by omega)]
  simp only [List.take_succ_cons, List.take_zero, beNum, List.foldl_cons, List.foldl_nil, Nat.add_assoc, Nat.reduceAdd]
  omega
theorem rd_byte (l : List Int) (hb : Bytes l) (p : Nat) (h : p < l.length) : 0 ≤ rd l (p : Int) ∧ rd l (p : Int) < 256 := by
  rw [rd_get l p h]; exact hb _ (List.getElem_mem h)

/-- The object at a place, told apart. -/
theorem oneAt_some {l : List Int} (hb : Bytes l) {p p' : Nat} {o : S32} (h : oneAt l p = some (o, p')) :
    ∃ K : Nat, 1 ≤ K ∧ K ≤ 64 ∧ p' = p + (4 * K + 4) ∧ p' ≤ l.length ∧ beNum ((l.drop p).take 2) = 4 * (K : Int) + 4 ∧ o = ⟨beNum ((l.drop (p + 2)).take 1), beNum ((l.drop (p + 3)).take 1), wordsAt l (p + 4) K⟩ := by
  unfold oneAt at h
  split at h
  · rename_i h2
    split at h
    · rename_i h3
      split at h
      · rename_i h4
        have hn := beNum_bound ((l.drop p).take 2) (fun x hx => hb x (List.mem_of_mem_drop (List.mem_of_mem_take hx)))
        generalize hN : beNum ((l.drop p).take 2) = N at *
        obtain ⟨hm, hin⟩ := h3
        have e1 : Int.tmod N 4 = N % 4 := Int.tmod_eq_emod_of_nonneg hn.1
        have e2 : Int.tdiv N 4 = N / 4 := Int.tdiv_eq_ediv_of_nonneg hn.1
        rw [e1] at hm
        rw [e2] at hin
        simp [inB] at hin
        injection h with h
        injection h with ho hp
        refine ⟨N.toNat / 4 - 1, by omega, by omega, by omega, by omega, by omega, ho.symm⟩
      · cases h
    · cases h
  · cases h

theorem words_flat (l : List Int) (hb : Bytes l) (q : Nat) : ∀ K, q + 4 * K ≤ l.length → (wordsAt l q K).flatMap (beL 4) = (l.drop q).take (4 * K) := by
  intro K
  induction K with
  | zero => intro _; simp [wordsAt]
  | succ K ih =>
    intro h
    rw [wordsAt_succ, List.flatMap_append, ih (by omega)]
    have hx := beL_beNum ((l.drop (q + 4 * K)).take 4) (fun x hx => hb x (List.mem_of_mem_drop (List.mem_of_mem_take hx)))
    rw [show ((l.drop (q + 4 * K)).take 4).length = 4 by simp; omega] at hx
    simp only [List.flatMap_cons, List.flatMap_nil, List.append_nil]
    rw [hx, show 4 * (K + 1) = 4 * K + 4 by omega, List.take_add, List.drop_drop]

theorem serO_at (l : List Int) (hb : Bytes l) (p K : Nat) (h : p + (4 * K + 4) ≤ l.length) (hN : beNum ((l.drop p).take 2) = 4 * (K : Int) + 4) :
    serO ⟨beNum ((l.drop (p + 2)).take 1), beNum ((l.drop (p + 3)).take 1), wordsAt l (p + 4) K⟩ = (l.drop p).take (4 * K + 4) := by
  have hwl : (wordsAt l (p + 4) K).length = K := by simp [wordsAt]
  have hx := beL_beNum ((l.drop p).take 2) (fun x hx => hb x (List.mem_of_mem_drop (List.mem_of_mem_take hx)))
  rw [show ((l.drop p).take 2).length = 2 by simp; omega, hN] at hx
  have b2 := rd_byte l hb (p + 2) (by omega)
  have b3 := rd_byte l hb (p + 3) (by omega)
  simp only [serO, hwl]
  rw [show 4 + 4 * (K : Int) = 4 * (K : Int) + 4 by omega, hx, be1 l (p + 2) (by omega), be1 l (p + 3) (by omega), words_flat l hb (p + 4) K (by omega), Int.emod_eq_of_lt b2.1 b2.2, Int.emod_eq_of_lt b3.1 b3.2, rd_get l (p + 2) (by omega), rd_get l (p + 3) (by omega)]
  rw [show 4 * K + 4 = 2 + (2 + 4 * K) by omega, List.take_add, List.take_add, List.drop_drop, List.drop_drop]
  congr 1
  rw [show p + (2 + 2) = p + 4 by omega]
  congr 1
  rw [List.drop_eq_getElem_cons (by omega), List.drop_eq_getElem_cons (by omega)]
  simp only [List.take_succ_cons, List.take_zero]

theorem mayB_at (l : List Int) (hb : Bytes l) (p K : Nat) (hK1 : 1 ≤ K) (hK2 : K ≤ 64) (h : p + (4 * K + 4) ≤ l.length) :
    mayB ⟨beNum ((l.drop (p + 2)).take 1), beNum ((l.drop (p + 3)).take 1), wordsAt l (p + 4) K⟩ = true := by
  have hwl : (wordsAt l (p + 4) K).length = K := by simp [wordsAt]
  have b2 := rd_byte l hb (p + 2) (by omega)
  have b3 := rd_byte l hb (p + 3) (by omega)
  have hbw : badWords (wordsAt l (p + 4) K) = false := by
    unfold badWords
    rw [List.any_eq_false]
    intro x hx
    simp only [wordsAt, List.mem_map, List.mem_range] at hx
    obtain ⟨j, hj, rfl⟩ := hx
    have hn := beNum_bound ((l.drop (p + 4 + 4 * j)).take 4) (fun x hx => hb x (List.mem_of_mem_drop (List.mem_of_mem_take hx)))
    rw [show ((l.drop (p + 4 + 4 * j)).take 4).length = 4 by simp; omega] at hn
    simp [inB]
    omega
  simp only [mayB, be1 l (p + 2) (by omega), be1 l (p + 3) (by omega), hwl, hbw, inB]
  generalize rd l ((p + 2 : Nat) : Int) = x at *
  generalize rd l ((p + 3 : Nat) : Int) = y at *
  simp
  omega

theorem scan_ser (l : List Int) (hb : Bytes l) : ∀ n p os, p ≤ l.length → scanAt l n p = (os, true) → serL os = l.drop p ∧ badObjs os = false := by
  intro n
  induction n with
  | zero => intro p os _ h; simp [scanAt] at h
  | succ n ih =>
    intro p os hp h
    rw [scanAt] at h
    split at h
    · split at h
      · cases h
      · rename_i o p' ho
        obtain ⟨K, hK1, hK2, rfl, hp', hN, rfl⟩ := oneAt_some hb ho
        injection h with h1 h2
        obtain ⟨i1, i2⟩ := ih (p + (4 * K + 4)) (scanAt l n (p + (4 * K + 4))).1 hp' (by rw [← h2])
        subst h1
        refine ⟨?_, ?_⟩
        · show serO _ ++ serL _ = _
          rw [i1, serO_at l hb p K hp' hN]
          rw [← List.drop_drop, List.take_append_drop]
        · simp only [badObjs, List.any_cons, mayB_at l hb p K hK1 hK2 hp'] at i2 ⊢
          simpa using i2
    · injection h with h1 h2
      subst h1
      exact ⟨by simp [serL]; omega, rfl⟩


set_option maxHeartbeats 4000000 in
theorem parse_l1 (l : List Int) (hb : Bytes l) (hl : l.length ≤ 65536) (acc : List S32) (hacc : acc.length ≤ 40) (p K : Nat) (h : p + (4 * K + 4) ≤ l.length) (hK : K ≤ 64) (c t : Int) (R : List S32 × Bool) (B : Nat)
    (hnext : ∀ k, B ≤ k → postroadref07_Parse.l0 k l (acc ++ [⟨c, t, wordsAt l (p + 4) K⟩]) ((p + (4 * K + 4) : Nat) : Int) = some R) :
    ∀ d j, d = K - j → j ≤ K → ∀ k, B + d + 1 ≤ k → postroadref07_Parse.l1 k l acc (p : Int) (4 * (K : Int) + 4) ((p + 4 + 4 * j : Nat) : Int) c t (wordsAt l (p + 4) j) = some R := by
  intro d
  induction d with
  | zero =>
    intro j hd hj k hk
    obtain ⟨k, rfl⟩ : ∃ k', k = k' + 1 := ⟨k - 1, by omega⟩
    obtain rfl : j = K := by omega
    have w1 := Lib.hid (show wrap64 ((p : Int) + (4 * (j : Int) + 4)) = ((p + (4 * j + 4) : Nat) : Int) from (by rw [IntWalk.wrap64_in _ (by omega)]; omega))
    rw [postroadref07_Parse.l1, w1.out, if_neg (by omega), if_pos (by omega)]
    exact hnext k (by omega)
  | succ d ih =>
    intro j hd hj k hk
    obtain ⟨k, rfl⟩ : ∃ k', k = k' + 1 := ⟨k - 1, by omega⟩
    have w1 := Lib.hid (show wrap64 ((p : Int) + (4 * (K : Int) + 4)) = ((p + (4 * K + 4) : Nat) : Int) from (by rw [IntWalk.wrap64_in _ (by omega)]; omega))
    have x1 := Lib.hid (show wrap64 (((p + 4 + 4 * j : Nat) : Int) + 1) = ((p + 4 + 4 * j + 1 : Nat) : Int) from (by rw [IntWalk.wrap64_in _ (by omega)]; omega))
    have x2 := Lib.hid (show wrap64 (((p + 4 + 4 * j : Nat) : Int) + 2) = ((p + 4 + 4 * j + 2 : Nat) : Int) from (by rw [IntWalk.wrap64_in _ (by omega)]; omega))
    have x3 := Lib.hid (show wrap64 (((p + 4 + 4 * j : Nat) : Int) + 3) = ((p + 4 + 4 * j + 3 : Nat) : Int) from (by rw [IntWalk.wrap64_in _ (by omega)]; omega))
    have x4 := Lib.hid (show wrap64 (((p + 4 + 4 * j : Nat) : Int) + 4) = ((p + 4 + 4 * (j + 1) : Nat) : Int) from (by rw [IntWalk.wrap64_in _ (by omega)]; omega))
    have r0 := rd_byte l hb (p + 4 + 4 * j) (by omega)
    have r1 := rd_byte l hb (p + 4 + 4 * j + 1) (by omega)
    have r2 := rd_byte l hb (p + 4 + 4 * j + 2) (by omega)
    have r3 := rd_byte l hb (p + 4 + 4 * j + 3) (by omega)
    have hv := be4 l (p + 4 + 4 * j) (by omega)
    have hwl : (wordsAt l (p + 4) j).length = j := by simp [wordsAt]
    have := ih (j + 1) (by omega) (by omega) k (by omega)
    rw [wordsAt_succ, hv] at this
    rw [postroadref07_Parse.l1, w1.out, x1.out, x2.out, x3.out, x4.out, if_pos (by omega), if_pos (by omega), if_pos (by omega), if_pos (by omega), if_pos (by omega), if_pos (by omega), if_pos (by omega), if_pos (by omega), if_pos (by omega), if_pos (by omega)]
    generalize rd l ((p + 4 + 4 * j : Nat) : Int) = y0 at *
    generalize rd l ((p + 4 + 4 * j + 1 : Nat) : Int) = y1 at *
    generalize rd l ((p + 4 + 4 * j + 2 : Nat) : Int) = y2 at *
    generalize rd l ((p + 4 + 4 * j + 3 : Nat) : Int) = y3 at *
    rw [IntWalk.wrap64_in y0 (by omega), IntWalk.wrap64_in y1 (by omega), IntWalk.wrap64_in y2 (by omega), IntWalk.wrap64_in y3 (by omega), IntWalk.wrap64_in (16777216 * y0) (by omega), IntWalk.wrap64_in (65536 * y1) (by omega), IntWalk.wrap64_in (256 * y2) (by omega), IntWalk.wrap64_in (16777216 * y0 + 65536 * y1) (by omega), IntWalk.wrap64_in (16777216 * y0 + 65536 * y1 + 256 * y2) (by omega), IntWalk.wrap64_in _ (by omega)]
    exact this

/-- What the reference gives from a place on. -/
def refAt (l : List Int) (n p : Nat) (acc : List S32) : List S32 × Bool :=
  if (scanAt l n p).2 = true ∧ acc.length + (scanAt l n p).1.length ≤ 40 then (acc ++ (scanAt l n p).1, true) else ([], false)

theorem refAt_bad (l : List Int) (n p : Nat) (acc : List S32) (hp : p < l.length) (h : oneAt l p = none ∨ 40 ≤ acc.length) : refAt l (n + 1) p acc = ([], false) := by
  unfold refAt
  rw [if_neg]
  rw [scanAt, if_pos hp]
  rintro ⟨h1, h2⟩
  split at h1
  · cases h1
  · rename_i o p' ho
    rcases h with h | h
    · rw [h] at ho; cases ho
    · rw [ho] at h2
      simp at h2
      omega

set_option maxHeartbeats 4000000 in
theorem parse_l0 (l : List Int) (hb : Bytes l) (hl : l.length ≤ 65536) : ∀ n p acc, p ≤ l.length → l.length - p < n → acc.length ≤ 40 → ∃ B, ∀ k, B ≤ k → postroadref07_Parse.l0 k l acc (p : Int) = some (refAt l n p acc) := by
  intro n
  induction n with
  | zero => intro p acc _ h; omega
  | succ n ih =>
    intro p acc hp hn hacc
    by_cases hpl : p < l.length
    · have hj1 : ∀ k, 1 ≤ k → postroadref07_Parse.j1 k l acc (p : Int) true = some ([], false) := by
        intro k hk
        obtain ⟨k, rfl⟩ : ∃ k', k = k' + 1 := ⟨k - 1, by omega⟩
        rw [postroadref07_Parse.j1, if_pos rfl]
      have w0 := Lib.hid (show wrap64 ((l.length : Int) - (p : Int)) = (l.length : Int) - (p : Int) from (IntWalk.wrap64_in _ (by omega)))
      by_cases h40 : acc.length = 40
      · refine ⟨2, fun k hk => ?_⟩
        obtain ⟨k, rfl⟩ : ∃ k', k = k' + 1 := ⟨k - 1, by omega⟩
        rw [postroadref07_Parse.l0, if_pos (by omega), if_pos (by omega), hj1 k (by omega), refAt_bad l n p acc hpl (.inr (by omega))]
      · by_cases h8 : l.length - p < 8
        · have hno : oneAt l p = none := by
            cases ho : oneAt l p with
            | none => rfl
            | some ob =>
              obtain ⟨K, hK1, hK2, hp', hp'', _, _⟩ := oneAt_some (p' := ob.2) (o := ob.1) hb ho
              omega
          refine ⟨2, fun k hk => ?_⟩
          obtain ⟨k, rfl⟩ : ∃ k', k = k' + 1 := ⟨k - 1, by omega⟩
          rw [postroadref07_Parse.l0, if_pos (by omega), if_neg (by omega), w0.out, show decide ((l.length : Int) - (p : Int) < 8) = true by simp; omega, hj1 k (by omega), refAt_bad l n p acc hpl (.inl hno)]
        · have x1 := Lib.hid (show wrap64 ((p : Int) + 1) = ((p + 1 : Nat) : Int) from (by rw [IntWalk.wrap64_in _ (by omega)]; omega))
          have r0 := rd_byte l hb p (by omega)
          have r1 := rd_byte l hb (p + 1) (by omega)
          have hN := be2 l p (by omega)
          obtain ⟨N, hNe⟩ : ∃ N, beNum ((l.drop p).take 2) = N := ⟨_, rfl⟩
          rw [hNe] at hN
          have hNb : 0 ≤ N ∧ N < 65536 := by omega
          have hv := Lib.hid (show wrap64 (wrap64 (256 * wrap64 (rd l (p : Int))) + wrap64 (rd l ((p + 1 : Nat) : Int))) = N from (by
            rw [hN, IntWalk.wrap64_in (rd l (p : Int)) (by omega), IntWalk.wrap64_in (rd l ((p + 1 : Nat) : Int)) (by omega), IntWalk.wrap64_in (256 * _) (by omega), IntWalk.wrap64_in _ (by omega)]))
          have hj2 : ∀ k M, 1 ≤ k → postroadref07_Parse.j2 k l acc (p : Int) M true = some ([], false) := by
            intro k M hk
            obtain ⟨k, rfl⟩ : ∃ k', k = k' + 1 := ⟨k - 1, by omega⟩
            rw [postroadref07_Parse.j2, if_pos rfl]
          have hstart : ∀ k, postroadref07_Parse.l0 (k + 1 + 1) l acc (p : Int) = (if (Int.tmod N 4) = 0 then (if N < 8 then (postroadref07_Parse.j2 k l acc (p : Int) N true) else (if N > 260 then (postroadref07_Parse.j2 k l acc (p : Int) N true) else (postroadref07_Parse.j2 k l acc (p : Int) N (decide (N > (l.length : Int) - (p : Int)))))) else (postroadref07_Parse.j2 k l acc (p : Int) N true)) := by
            intro k
            rw [postroadref07_Parse.l0, if_pos (by omega), if_neg (by omega), w0.out, show decide ((l.length : Int) - (p : Int) < 8) = false by simp; omega, postroadref07_Parse.j1, if_neg (by simp), if_pos (by omega), if_pos (by omega), x1.out, if_pos (by omega), if_pos (by omega), hv.out, w0.out]
          have e1 : Int.tmod N 4 = N % 4 := Int.tmod_eq_emod_of_nonneg hNb.1
          have e2 : Int.tdiv N 4 = N / 4 := Int.tdiv_eq_ediv_of_nonneg hNb.1
          by_cases hgood : N % 4 = 0 ∧ 8 ≤ N ∧ N ≤ 260 ∧ N ≤ (l.length : Int) - (p : Int)
          · obtain ⟨g1, g2, g3, g4⟩ := hgood
            obtain ⟨K, hK⟩ : ∃ K : Nat, N = 4 * (K : Int) + 4 := ⟨(N / 4 - 1).toNat, by omega⟩
            have hin : inB (Int.tdiv N 4) 2 65 = true := by rw [e2]; simp [inB]; omega
            have hone : oneAt l p = some (⟨beNum ((l.drop (p + 2)).take 1), beNum ((l.drop (p + 3)).take 1), wordsAt l (p + 4) K⟩, p + (4 * K + 4)) := by
              unfold oneAt
              rw [if_pos (by omega), hNe, if_pos ⟨by rw [e1]; exact g1, hin⟩, if_pos (by omega), show N.toNat / 4 - 1 = K by omega, show N.toNat = 4 * K + 4 by omega]
            obtain ⟨B, hB⟩ := ih (p + (4 * K + 4)) (acc ++ [⟨beNum ((l.drop (p + 2)).take 1), beNum ((l.drop (p + 3)).take 1), wordsAt l (p + 4) K⟩]) (by omega) (by omega) (by simp; omega)
            have href : refAt l n (p + (4 * K + 4)) (acc ++ [⟨beNum ((l.drop (p + 2)).take 1), beNum ((l.drop (p + 3)).take 1), wordsAt l (p + 4) K⟩]) = refAt l (n + 1) p acc := by
              unfold refAt
              rw [show scanAt l (n + 1) p = (_ :: (scanAt l n (p + (4 * K + 4))).1, (scanAt l n (p + (4 * K + 4))).2) by rw [scanAt, if_pos hpl, hone]]
              simp [Nat.add_assoc, Nat.add_comm 1]
            rw [href] at hB
            refine ⟨B + K + 10, fun k hk => ?_⟩
            obtain ⟨k, rfl⟩ : ∃ k', k = k' + 1 + 1 + 1 := ⟨k - 3, by omega⟩
            have y2 := Lib.hid (show wrap64 ((p : Int) + 2) = ((p + 2 : Nat) : Int) from (by rw [IntWalk.wrap64_in _ (by omega)]; omega))
            have y3 := Lib.hid (show wrap64 ((p : Int) + 3) = ((p + 3 : Nat) : Int) from (by rw [IntWalk.wrap64_in _ (by omega)]; omega))
            have y4 := Lib.hid (show wrap64 ((p : Int) + 4) = ((p + 4 + 4 * 0 : Nat) : Int) from (by rw [IntWalk.wrap64_in _ (by omega)]; omega))
            have s2 := rd_byte l hb (p + 2) (by omega)
            have s3 := rd_byte l hb (p + 3) (by omega)
            rw [hstart, e1, if_pos g1, if_neg (by omega), if_neg (by omega), show decide (N > (l.length : Int) - (p : Int)) = false by simp; omega, postroadref07_Parse.j2, if_neg (by simp), y2.out, y3.out, y4.out, if_pos (by omega), if_pos (by omega), if_pos (by omega), if_pos (by omega)]
            rw [be1 l (p + 2) (by omega), be1 l (p + 3) (by omega)] at hB
            rw [IntWalk.wrap64_in _ (by omega), IntWalk.wrap64_in _ (by omega), hK]
            exact parse_l1 l hb hl acc hacc p K (by omega) (by omega) _ _ _ B hB K 0 (by omega) (by omega) k (by omega)
          · have hno : oneAt l p = none := by
              cases ho : oneAt l p with
              | none => rfl
              | some ob =>
                obtain ⟨K, hK1, hK2, hp', hp'', hNK, _⟩ := oneAt_some (p' := ob.2) (o := ob.1) hb ho
                rw [hNe] at hNK
                exact absurd ⟨by omega, by omega, by omega, by omega⟩ hgood
            refine ⟨3, fun k hk => ?_⟩
            obtain ⟨k, rfl⟩ : ∃ k', k = k' + 1 + 1 := ⟨k - 2, by omega⟩
            rw [hstart, refAt_bad l n p acc hpl (.inl hno), e1]
            split
            · split
              · exact hj2 k N (by omega)
              · split
                · exact hj2 k N (by omega)
                · rw [show decide (N > (l.length : Int) - (p : Int)) = true by simp; omega]
                  exact hj2 k N (by omega)
            · exact hj2 k N (by omega)
    · refine ⟨1, fun k hk => ?_⟩
      obtain ⟨k, rfl⟩ : ∃ k', k = k' + 1 := ⟨k - 1, by omega⟩
      have hsc : scanAt l (n + 1) p = ([], true) := by simp [scanAt, hpl]
      rw [postroadref07_Parse.l0, if_neg (by omega), refAt, hsc]
      simp [hacc]

end Go.Proofs.Ytecghmlojllkdaa.Pure

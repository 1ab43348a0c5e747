import Derived.Test.YtecghmlojllkdaaA4
namespace Go.Proofs.Ytecghmlojllkdaa.P
open Go.RowKit Go.Proofs.YtecghmlojllkdaaW.PrintWords Go.Proofs.YtecghmlojllkdaaW.PrintLast Go.Proofs.YtecghmlojllkdaaW.PrintMore
set_option linter.unusedVariables false
set_option linter.unusedSimpArgs false

/-- Equal's answer. -/
theorem equal_tells (xs ys : List Int) (hm : xs.length ≤ 9223372036854775807) : ∃ k, slices_Equal_int64_int64.f k xs ys = some (decide (xs = ys)) := by
  unfold slices_Equal_int64_int64.f
  by_cases hl : (xs.length : Int) = (ys.length : Int)
  · simp only [if_pos hl]
    have key : ∀ d k i : Nat, i + d = xs.length → d < k → slices_Equal_int64_int64.l0 k xs ys xs.length i = some (decide (xs.drop i = ys.drop i)) := by
      intro d
      induction d with
      | zero =>
        intro k i hi hk
        obtain ⟨k, rfl⟩ : ∃ m, k = m + 1 := ⟨k - 1, by omega⟩
        simp only [slices_Equal_int64_int64.l0]
        rw [if_neg (by omega), List.drop_eq_nil_of_le (by omega), List.drop_eq_nil_of_le (by omega)]
        simp
      | succ d ih =>
        intro k i hi hk
        obtain ⟨k, rfl⟩ : ∃ m, k = m + 1 := ⟨k - 1, by omega⟩
        simp only [slices_Equal_int64_int64.l0]
        rw [if_pos (by omega), if_pos (by omega), if_pos (by omega), if_pos (by omega)]
        have hw : wrap64 ((i : Int) + 1) = ((i + 1 : Nat) : Int) := by unfold wrap64; omega
        have d1 := List.drop_eq_getElem_cons (show i < xs.length by omega)
        have d2 := List.drop_eq_getElem_cons (show i < ys.length by omega)
        rw [hw]
        have e1 : rd xs (i : Int) = xs[i] := by simp [rd, List.getElem?_eq_getElem (show i < xs.length by omega)]
        have e2 : rd ys (i : Int) = ys[i] := by simp [rd, List.getElem?_eq_getElem (show i < ys.length by omega)]
        rw [e1, e2]
        by_cases he : xs[i] = ys[i]
        · rw [if_pos he, ih k (i + 1) (by omega) (by omega), d1, d2, he]
          exact congrArg some (decide_eq_decide.2 ⟨fun h => by rw [h], fun h => (List.cons.inj h).2⟩)
        · rw [if_neg he, d1, d2]
          exact congrArg some (decide_eq_false (fun h => he (List.cons.inj h).1)).symm
    refine ⟨xs.length + 1, ?_⟩
    have := key xs.length (xs.length + 1) 0 (by omega) (by omega)
    simpa using this
  · simp only [if_neg hl]
    refine ⟨0, ?_⟩
    have : xs ≠ ys := fun h => hl (by rw [h])
    simp [this]

theorem equal_calls (A B : Option Addr) (c d : Nat) (xs ys : List Int) (w : World) (hx : Kd.C (Kd.int .i64) w A xs.length xs) (hc : xs.length ≤ c) (hy : Kd.C (Kd.int .i64) w B ys.length ys) (hd : ys.length ≤ d) :
    Calls Try.prog 38 #[.slice A xs.length c, .slice B ys.length d] w fun e w' => e = .returned (.bool (decide (xs = ys))) ∧ Drawn0 w w' := by
  obtain ⟨k, hk⟩ := equal_tells xs ys hx.2.1
  exact slices_Equal_int64_int64.calls k A c xs B d ys _ w hx hc hy hd hk

set_option maxHeartbeats 6400000 in
set_option maxRecDepth 100000 in
theorem objectSes (a b : Int) (w : World) :
    Calls Try.prog 29 #[.agg #[.int .i64 1, .int .i64 1, .int .i64 2, .func (.func 40) #[] #[], .func (.func 42) #[] #[], .func (.func 43) #[] #[]], .agg #[.int .i64 a, .int .i64 b]] w (if maySes a b then ObjR 1 1 (wordsSes a b) 0 w else ObjR 0 0 [] 2 w) := by
  have hsz_ : ∀ W : World, Below w.heap.size w W → True := fun _ _ => trivial
  clear hsz_
  cases hin : maySes a b with
  | false =>
    simp only [Bool.false_eq_true, if_false]
    go_enter Try.func29, Try.ntmps29
    go_wp2_with fail
    refine (sesMay _ _ _).mono ?_
    rintro e w1 ⟨rfl, hb⟩
    obtain ⟨hc, hf⟩ := bcell hb
    have HB : Below w.heap.size w w1 := below_call ((((Below.refl _ _).alloc (by simp) _).alloc (by simp) _).alloc (by simp; omega) _) hb
    have hz : w.heap.size + 3 ≤ w1.heap.size := by have := hb.size; simp at this; omega
    have hz0 : w.heap.size < w1.heap.size := by omega
    have hz1 : w.heap.size + 1 < w1.heap.size := by omega
    have hz2 : w.heap.size + 1 + 1 < w1.heap.size := by omega
    have ce0 : w1.cell? ⟨w.heap.size, 0, none⟩ = some (.int .i64 1) := by rw [hc _ _ (by simp; try omega)]; simp [go_sem]
    have ce1 : w1.cell? ⟨w.heap.size, 1, none⟩ = some (.int .i64 1) := by rw [hc _ _ (by simp; try omega)]; simp [go_sem]
    have ce3 : w1.cell? ⟨w.heap.size, 3, none⟩ = some (.func (.func 40) #[] #[]) := by rw [hc _ _ (by simp; try omega)]; simp [go_sem]
    have cx0 : w1.cell? ⟨w.heap.size + 1, 0, none⟩ = some (.int .i64 a) := by rw [hc _ _ (by simp; try omega)]; simp [go_sem]
    have cx1 : w1.cell? ⟨w.heap.size + 1, 1, none⟩ = some (.int .i64 b) := by rw [hc _ _ (by simp; try omega)]; simp [go_sem]
    have cr0 : w1.cell? ⟨w.heap.size + 1 + 1, 0, none⟩ = some (.int .i64 0) := by rw [hc _ _ (by simp; try omega)]; simp [go_sem]
    have cr1 : w1.cell? ⟨w.heap.size + 1 + 1, 1, none⟩ = some (.int .i64 0) := by rw [hc _ _ (by simp; try omega)]; simp [go_sem]
    have cr2 : w1.cell? ⟨w.heap.size + 1 + 1, 2, none⟩ = some (.slice none 0 0) := by rw [hc _ _ (by simp; try omega)]; simp [go_sem]
    have fz0 : w1.frozen? ⟨w.heap.size + 1 + 1, 0, none⟩ = false := by rw [hf _ _ (by simp; try omega)]; simp [go_sem]
    have fz1 : w1.frozen? ⟨w.heap.size + 1 + 1, 1, none⟩ = false := by rw [hf _ _ (by simp; try omega)]; simp [go_sem]
    have fz2 : w1.frozen? ⟨w.heap.size + 1 + 1, 2, none⟩ = false := by rw [hf _ _ (by simp; try omega)]; simp [go_sem]
    clear hc hf hb
    go_wp2_with fail
    refine bodyPost_ret (v := .tuple #[.agg #[.int .i64 0, .int .i64 0, .slice none 0 0], .int .i64 2]) (by simp [results, Try.results29, go_sem, cr0, cr1, cr2]) rfl ⟨_, rfl, Kd.R_nil _ _ _ _ _, ?_⟩
    iterate 3 (refine Below.setCell (p := ⟨w.heap.size + 1 + 1, _, none⟩) ?_ (by simp; try omega) _)
    exact HB
  | true =>
    simp only [if_true]
    go_enter Try.func29, Try.ntmps29
    go_wp2_with fail
    refine (sesMay _ _ _).mono ?_
    rintro e w1 ⟨rfl, hb⟩
    obtain ⟨hc, hf⟩ := bcell hb
    have HB : Below w.heap.size w w1 := below_call ((((Below.refl _ _).alloc (by simp) _).alloc (by simp) _).alloc (by simp; omega) _) hb
    have hz : w.heap.size + 3 ≤ w1.heap.size := by have := hb.size; simp at this; omega
    have hz0 : w.heap.size < w1.heap.size := by omega
    have hz1 : w.heap.size + 1 < w1.heap.size := by omega
    have hz2 : w.heap.size + 1 + 1 < w1.heap.size := by omega
    have ce0 : w1.cell? ⟨w.heap.size, 0, none⟩ = some (.int .i64 1) := by rw [hc _ _ (by simp; try omega)]; simp [go_sem]
    have ce1 : w1.cell? ⟨w.heap.size, 1, none⟩ = some (.int .i64 1) := by rw [hc _ _ (by simp; try omega)]; simp [go_sem]
    have ce3 : w1.cell? ⟨w.heap.size, 3, none⟩ = some (.func (.func 40) #[] #[]) := by rw [hc _ _ (by simp; try omega)]; simp [go_sem]
    have cx0 : w1.cell? ⟨w.heap.size + 1, 0, none⟩ = some (.int .i64 a) := by rw [hc _ _ (by simp; try omega)]; simp [go_sem]
    have cx1 : w1.cell? ⟨w.heap.size + 1, 1, none⟩ = some (.int .i64 b) := by rw [hc _ _ (by simp; try omega)]; simp [go_sem]
    have cr0 : w1.cell? ⟨w.heap.size + 1 + 1, 0, none⟩ = some (.int .i64 0) := by rw [hc _ _ (by simp; try omega)]; simp [go_sem]
    have cr1 : w1.cell? ⟨w.heap.size + 1 + 1, 1, none⟩ = some (.int .i64 0) := by rw [hc _ _ (by simp; try omega)]; simp [go_sem]
    have cr2 : w1.cell? ⟨w.heap.size + 1 + 1, 2, none⟩ = some (.slice none 0 0) := by rw [hc _ _ (by simp; try omega)]; simp [go_sem]
    have fz0 : w1.frozen? ⟨w.heap.size + 1 + 1, 0, none⟩ = false := by rw [hf _ _ (by simp; try omega)]; simp [go_sem]
    have fz1 : w1.frozen? ⟨w.heap.size + 1 + 1, 1, none⟩ = false := by rw [hf _ _ (by simp; try omega)]; simp [go_sem]
    have fz2 : w1.frozen? ⟨w.heap.size + 1 + 1, 2, none⟩ = false := by rw [hf _ _ (by simp; try omega)]; simp [go_sem]
    clear hc hf hb
    go_wp2_with fail
    have HBd := HB.drew
    have n0 : w.heap.size + 1 + 1 ≠ w.heap.size := by omega
    have n1 : w.heap.size + 1 + 1 ≠ w.heap.size + 1 := by omega
    go_region_held3 (fun w' => w'.cell? ⟨w.heap.size, 0, none⟩ = some (.int .i64 1) ∧ w'.cell? ⟨w.heap.size, 1, none⟩ = some (.int .i64 1) ∧ w'.cell? ⟨w.heap.size, 3, none⟩ = some (.func (.func 40) #[] #[]) ∧ w'.cell? ⟨w.heap.size + 1, 0, none⟩ = some (.int .i64 a) ∧ w'.cell? ⟨w.heap.size + 1, 1, none⟩ = some (.int .i64 b)) (first | exact ⟨(hc2 _ _ hz0).trans ce0, (hc2 _ _ hz0).trans ce1, (hc2 _ _ hz0).trans ce3, (hc2 _ _ hz1).trans cx0, (hc2 _ _ hz1).trans cx1⟩ | exact ⟨(far3 n0 _ _ _).trans ((hc2 _ _ hz0).trans ce0), (far3 n0 _ _ _).trans ((hc2 _ _ hz0).trans ce1), (far3 n0 _ _ _).trans ((hc2 _ _ hz0).trans ce3), (far3 n1 _ _ _).trans ((hc2 _ _ hz1).trans cx0), (far3 n1 _ _ _).trans ((hc2 _ _ hz1).trans cx1)⟩ | go_keep)
      ((go_at_call 40; refine (sesWords _ _ _).mono ?_; rintro e w2 ⟨A, c, rfl, hr, hb2⟩; have HR := Lib.hid hr; clear hr; obtain ⟨hc2, hf2⟩ := bcell hb2; have r0 := (hc2 _ _ hz2).trans cr0; have f0 := (hf2 _ _ hz2).trans fz0; have r1 := (hc2 _ _ hz2).trans cr1; have f1 := (hf2 _ _ hz2).trans fz1; have r2 := (hc2 _ _ hz2).trans cr2; have f2 := (hf2 _ _ hz2).trans fz2))
    go_wp2
    refine bodyPost_ret (v := .tuple #[.agg #[.int .i64 1, .int .i64 1, .slice A 2 c], .int .i64 0]) (by simp [results, Try.results29, go_sem, r0, r1, r2]) rfl ⟨_, rfl, ?_, ?_⟩
    · refine Kd.R_lower (base := w1.heap.size) ?_ (by omega)
      iterate 3 (refine R_old (p := ⟨w.heap.size + 1 + 1, _, none⟩) ?_ (by simp; omega) _)
      exact HR.out
    · iterate 3 (refine Below.setCell (p := ⟨w.heap.size + 1 + 1, _, none⟩) ?_ (by simp; try omega) _)
      exact below_call HBd hb2


end Go.Proofs.Ytecghmlojllkdaa.P

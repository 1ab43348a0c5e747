import Derived.Test.YtecghmlojllkdaaA5
namespace Go.Proofs.Ytecghmlojllkdaa.P
open Go.RowKit Go.Proofs.YtecghmlojllkdaaW.PrintWords Go.Proofs.YtecghmlojllkdaaW.PrintLast Go.Proofs.YtecghmlojllkdaaW.PrintMore
set_option linter.unusedVariables false
set_option linter.unusedSimpArgs false

set_option maxHeartbeats 6400000 in
set_option maxRecDepth 100000 in
theorem wrapSes (a b : Int) (w : World) :
    Calls Try.prog 15 #[.agg #[.int .i64 a, .int .i64 b]] w (if maySes a b then ObjR 1 1 (wordsSes a b) 0 w else ObjR 0 0 [] 2 w) := by
  cases hin : maySes a b with
  | false =>
    simp only [Bool.false_eq_true, if_false]
    go_enter Try.func15, Try.ntmps15
    go_wp2_with fail
    have n0 : w.heap.size + 1 ≠ w.heap.size := by omega
    go_region_held3 (fun w' => w'.cell? ⟨w.heap.size, 0, none⟩ = some (.int .i64 a) ∧ w'.cell? ⟨w.heap.size, 1, none⟩ = some (.int .i64 b)) (first | exact ⟨cx0, cx1⟩ | exact ⟨(hc2 _ _ hz0).trans cx0, (hc2 _ _ hz0).trans cx1⟩ | exact ⟨(far3 n0 _ _ _).trans ((hc2 _ _ hz0).trans cx0), (far3 n0 _ _ _).trans ((hc2 _ _ hz0).trans cx1)⟩ | go_keep)
      ((first | (go_at_call 28; refine (sessions _).mono ?_; rintro e w1 ⟨rfl, hb⟩; obtain ⟨hc, hf⟩ := bcell hb; have HB : Below w.heap.size w w1 := below_call (((Below.refl _ _).alloc (by simp) _).alloc (by simp) _).drew hb; have hz : w.heap.size + 1 + 1 ≤ w1.heap.size := (by simpa using hb.size); have hz0 : w.heap.size < w1.heap.size := (by omega); have hz1 : w.heap.size + 1 < w1.heap.size := (by omega); have cx0 : w1.cell? ⟨w.heap.size, 0, none⟩ = some (.int .i64 a) := (by rw [hc _ _ (by simp; try omega)]; simp [go_sem]); have cx1 : w1.cell? ⟨w.heap.size, 1, none⟩ = some (.int .i64 b) := (by rw [hc _ _ (by simp; try omega)]; simp [go_sem]); have cr0 : w1.cell? ⟨w.heap.size + 1, 0, none⟩ = some (.int .i64 0) := (by rw [hc _ _ (by simp; try omega)]; simp [go_sem]); have cr1 : w1.cell? ⟨w.heap.size + 1, 1, none⟩ = some (.int .i64 0) := (by rw [hc _ _ (by simp; try omega)]; simp [go_sem]); have cr2 : w1.cell? ⟨w.heap.size + 1, 2, none⟩ = some (.slice none 0 0) := (by rw [hc _ _ (by simp; try omega)]; simp [go_sem]); have fz0 : w1.frozen? ⟨w.heap.size + 1, 0, none⟩ = false := (by rw [hf _ _ (by simp; try omega)]; simp [go_sem]); have fz1 : w1.frozen? ⟨w.heap.size + 1, 1, none⟩ = false := (by rw [hf _ _ (by simp; try omega)]; simp [go_sem]); have fz2 : w1.frozen? ⟨w.heap.size + 1, 2, none⟩ = false := (by rw [hf _ _ (by simp; try omega)]; simp [go_sem]); clear hc hf hb) | (go_at_call 29; refine (objectSes a b _).mono ?_; rw [if_neg (by simp [hin])]; rintro e w2 ⟨v, rfl, hr, hb2⟩; obtain ⟨A, c, rfl, _, _⟩ := Kd.R_reads hr; have HR := Lib.hid hr; clear hr; obtain ⟨hc2, hf2⟩ := bcell hb2; have r0 := (hc2 _ _ hz1).trans cr0; have f0 := (hf2 _ _ hz1).trans fz0; have r1 := (hc2 _ _ hz1).trans cr1; have f1 := (hf2 _ _ hz1).trans fz1; have r2 := (hc2 _ _ hz1).trans cr2; have f2 := (hf2 _ _ hz1).trans fz2)))
    go_wp2
    refine bodyPost_ret (v := .tuple #[.agg #[.int .i64 0, .int .i64 0, .slice A 0 c], .int .i64 2]) (by simp [results, Try.results15, go_sem, r0, r1, r2]) rfl ⟨_, rfl, ?_, ?_⟩
    · refine Kd.R_lower (base := w1.heap.size) ?_ (by omega)
      iterate 3 (refine R_old (p := ⟨w.heap.size + 1, _, none⟩) ?_ (by simp; omega) _)
      exact HR.out
    · iterate 3 (refine Below.setCell (p := ⟨w.heap.size + 1, _, none⟩) ?_ (by simp) _)
      exact below_call HB hb2
  | true =>
    simp only [if_true]
    go_enter Try.func15, Try.ntmps15
    go_wp2_with fail
    have n0 : w.heap.size + 1 ≠ w.heap.size := by omega
    go_region_held3 (fun w' => w'.cell? ⟨w.heap.size, 0, none⟩ = some (.int .i64 a) ∧ w'.cell? ⟨w.heap.size, 1, none⟩ = some (.int .i64 b)) (first | exact ⟨cx0, cx1⟩ | exact ⟨(hc2 _ _ hz0).trans cx0, (hc2 _ _ hz0).trans cx1⟩ | exact ⟨(far3 n0 _ _ _).trans ((hc2 _ _ hz0).trans cx0), (far3 n0 _ _ _).trans ((hc2 _ _ hz0).trans cx1)⟩ | go_keep)
      ((first | (go_at_call 28; refine (sessions _).mono ?_; rintro e w1 ⟨rfl, hb⟩; obtain ⟨hc, hf⟩ := bcell hb; have HB : Below w.heap.size w w1 := below_call (((Below.refl _ _).alloc (by simp) _).alloc (by simp) _).drew hb; have hz : w.heap.size + 1 + 1 ≤ w1.heap.size := (by simpa using hb.size); have hz0 : w.heap.size < w1.heap.size := (by omega); have hz1 : w.heap.size + 1 < w1.heap.size := (by omega); have cx0 : w1.cell? ⟨w.heap.size, 0, none⟩ = some (.int .i64 a) := (by rw [hc _ _ (by simp; try omega)]; simp [go_sem]); have cx1 : w1.cell? ⟨w.heap.size, 1, none⟩ = some (.int .i64 b) := (by rw [hc _ _ (by simp; try omega)]; simp [go_sem]); have cr0 : w1.cell? ⟨w.heap.size + 1, 0, none⟩ = some (.int .i64 0) := (by rw [hc _ _ (by simp; try omega)]; simp [go_sem]); have cr1 : w1.cell? ⟨w.heap.size + 1, 1, none⟩ = some (.int .i64 0) := (by rw [hc _ _ (by simp; try omega)]; simp [go_sem]); have cr2 : w1.cell? ⟨w.heap.size + 1, 2, none⟩ = some (.slice none 0 0) := (by rw [hc _ _ (by simp; try omega)]; simp [go_sem]); have fz0 : w1.frozen? ⟨w.heap.size + 1, 0, none⟩ = false := (by rw [hf _ _ (by simp; try omega)]; simp [go_sem]); have fz1 : w1.frozen? ⟨w.heap.size + 1, 1, none⟩ = false := (by rw [hf _ _ (by simp; try omega)]; simp [go_sem]); have fz2 : w1.frozen? ⟨w.heap.size + 1, 2, none⟩ = false := (by rw [hf _ _ (by simp; try omega)]; simp [go_sem]); clear hc hf hb) | (go_at_call 29; refine (objectSes a b _).mono ?_; rw [if_pos hin]; rintro e w2 ⟨v, rfl, hr, hb2⟩; obtain ⟨A, c, rfl, _, _⟩ := Kd.R_reads hr; have HR := Lib.hid hr; clear hr; obtain ⟨hc2, hf2⟩ := bcell hb2; have r0 := (hc2 _ _ hz1).trans cr0; have f0 := (hf2 _ _ hz1).trans fz0; have r1 := (hc2 _ _ hz1).trans cr1; have f1 := (hf2 _ _ hz1).trans fz1; have r2 := (hc2 _ _ hz1).trans cr2; have f2 := (hf2 _ _ hz1).trans fz2)))
    go_wp2
    refine bodyPost_ret (v := .tuple #[.agg #[.int .i64 1, .int .i64 1, .slice A (wordsSes a b).length c], .int .i64 0]) (by simp [results, Try.results15, go_sem, r0, r1, r2]) rfl ⟨_, rfl, ?_, ?_⟩
    · refine Kd.R_lower (base := w1.heap.size) ?_ (by omega)
      iterate 3 (refine R_old (p := ⟨w.heap.size + 1, _, none⟩) ?_ (by simp; omega) _)
      exact HR.out
    · iterate 3 (refine Below.setCell (p := ⟨w.heap.size + 1, _, none⟩) ?_ (by simp) _)
      exact below_call HB hb2


end Go.Proofs.Ytecghmlojllkdaa.P

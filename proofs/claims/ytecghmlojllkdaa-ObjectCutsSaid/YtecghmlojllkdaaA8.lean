import Derived.Test.YtecghmlojllkdaaA6
import Derived.Test.YtecghmlojllkdaaA7
namespace Go.Proofs.Ytecghmlojllkdaa.P
open Go.RowKit Go.Proofs.YtecghmlojllkdaaW.PrintWords Go.Proofs.YtecghmlojllkdaaW.PrintLast Go.Proofs.YtecghmlojllkdaaW.PrintMore
set_option linter.unusedVariables false
set_option linter.unusedSimpArgs false

theorem far2 {W : World} {b g i j o : Nat} {u v : Value} (hne : b ≠ g) : ((W.setCell ⟨b, i, none⟩ u).setCell ⟨b, j, none⟩ v).cell? ⟨g, o, none⟩ = W.cell? ⟨g, o, none⟩ := by
  rw [World.cell?_of_block (Below.heap_setCell _ _ _ g (Ne.symm hne)), World.cell?_of_block (Below.heap_setCell _ _ _ g (Ne.symm hne))]

set_option maxHeartbeats 6400000 in
set_option maxRecDepth 100000 in
theorem asSession (c t : Int) (A0 : Option Addr) (c0 : Nat) (ws : List Int) (w : World) (hr : Kd.C (Kd.int .i64) w A0 ws.length ws) (hc0 : ws.length ≤ c0) (hok : okSes c t ws = true) :
    Calls Try.prog 16 #[.agg #[.int .i64 c, .int .i64 t, .slice A0 ws.length c0]] w (SaidOf (.agg #[.int .i64 (th0Ses ws), .int .i64 (th1Ses ws)]) 0 w) := by
  have HR := Lib.hid hr
  have HC := Lib.hid hc0
  clear hr hc0
  go_enter Try.func16, Try.ntmps16
  go_wp2_with fail
  have n0 : w.heap.size + 1 ≠ w.heap.size := by omega
  go_region_held3 (fun w' => w'.cell? ⟨w.heap.size, 0, none⟩ = some (.int .i64 c) ∧ w'.cell? ⟨w.heap.size, 1, none⟩ = some (.int .i64 t) ∧ w'.cell? ⟨w.heap.size, 2, none⟩ = some (.slice A0 ws.length c0)) (first | exact ⟨cx0, cx1, cx2⟩ | exact ⟨(hc2 _ _ hz0).trans cx0, (hc2 _ _ hz0).trans cx1, (hc2 _ _ hz0).trans cx2⟩ | exact ⟨(far2 n0).trans ((hc2 _ _ hz0).trans cx0), (far2 n0).trans ((hc2 _ _ hz0).trans cx1), (far2 n0).trans ((hc2 _ _ hz0).trans cx2)⟩ | go_keep)
    ((first | (go_at_call 28; refine (sessions _).mono ?_; rintro e w1 ⟨rfl, hb⟩; obtain ⟨hc, hf⟩ := bcell hb; have HB : Below w.heap.size w w1 := below_call (((Below.refl _ _).alloc (by simp) _).alloc (by simp) _).drew hb; have hz : w.heap.size + 1 + 1 ≤ w1.heap.size := (by simpa using hb.size); have hz0 : w.heap.size < w1.heap.size := (by omega); have hz1 : w.heap.size + 1 < w1.heap.size := (by omega); have cx0 : w1.cell? ⟨w.heap.size, 0, none⟩ = some (.int .i64 c) := (by rw [hc _ _ (by simp; try omega)]; simp [go_sem]); have cx1 : w1.cell? ⟨w.heap.size, 1, none⟩ = some (.int .i64 t) := (by rw [hc _ _ (by simp; try omega)]; simp [go_sem]); have cx2 : w1.cell? ⟨w.heap.size, 2, none⟩ = some (.slice A0 ws.length c0) := (by rw [hc _ _ (by simp; try omega)]; simp [go_sem]); have cr0 : w1.cell? ⟨w.heap.size + 1, 0, none⟩ = some (.int .i64 0) := (by rw [hc _ _ (by simp; try omega)]; simp [go_sem]); have cr1 : w1.cell? ⟨w.heap.size + 1, 1, none⟩ = some (.int .i64 0) := (by rw [hc _ _ (by simp; try omega)]; simp [go_sem]); have fz0 : w1.frozen? ⟨w.heap.size + 1, 0, none⟩ = false := (by rw [hf _ _ (by simp; try omega)]; simp [go_sem]); have fz1 : w1.frozen? ⟨w.heap.size + 1, 1, none⟩ = false := (by rw [hf _ _ (by simp; try omega)]; simp [go_sem]); clear hc hf hb) | (go_at_call 30; have key := asSes c t A0 c0 ws w1 (Kd.C_below HR.out HB) HC.out; rw [if_pos hok] at key; refine key.mono ?_; rintro e w2 ⟨rfl, hb2⟩; clear key; obtain ⟨hc2, hf2⟩ := bcell hb2; have r0 := (hc2 _ _ hz1).trans cr0; have f0 := (hf2 _ _ hz1).trans fz0; have r1 := (hc2 _ _ hz1).trans cr1; have f1 := (hf2 _ _ hz1).trans fz1)))
  go_wp2
  refine bodyPost_ret (v := .tuple #[.agg #[.int .i64 (th0Ses ws), .int .i64 (th1Ses ws)], .int .i64 0]) (by simp [results, Try.results16, go_sem, r0, r1]) rfl ⟨rfl, ?_⟩
  iterate 2 (refine Below.setCell (p := ⟨w.heap.size + 1, _, none⟩) ?_ (by simp) _)
  exact below_call HB hb2

end Go.Proofs.Ytecghmlojllkdaa.P

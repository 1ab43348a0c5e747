import Derived.Test.YtecghmlojllkdaaA2
import Derived.Deep.RegionHeld3
namespace Go.Proofs.Ytecghmlojllkdaa.P
open Go.RowKit Go.Proofs.YtecghmlojllkdaaW.PrintWords Go.Proofs.YtecghmlojllkdaaW.PrintLast Go.Proofs.YtecghmlojllkdaaW.PrintMore
set_option linter.unusedVariables false
set_option linter.unusedSimpArgs false

set_option maxHeartbeats 3200000 in
theorem numObject (cls lo hi n : Int) (b1 b2 : Nat) (w : World) (h1 : w.cell? ⟨b1, 0, none⟩ = some (.int .i64 lo)) (h2 : w.cell? ⟨b2, 0, none⟩ = some (.int .i64 hi)) :
    Calls Try.prog 27 #[.agg #[.int .i64 cls, .int .i64 1, .int .i64 1, .func (.func 47) #[] #[], .func (.func 48) #[] #[], .func (.func 49) #[] #[.pointer (some ⟨b1, 0, none⟩), .pointer (some ⟨b2, 0, none⟩)]], .int .i64 n] w
      (if inB n lo hi then ObjR cls 1 [n] 0 w else ObjR 0 0 [] 2 w) := by
  have hn1 := World.block_lt_of_cell? w _ h1
  have hn2 := World.block_lt_of_cell? w _ h2
  simp at hn1 hn2
  have hm : ∀ W : World, Below w.heap.size w W → Calls Try.prog 49 #[.int .i64 n, .pointer (some ⟨b1, 0, none⟩), .pointer (some ⟨b2, 0, none⟩)] W fun e w' => e = .returned (.bool (inB n lo hi)) ∧ W = w' := fun W hW =>
    numMay n lo hi b1 b2 W ((hW.cell (p := ⟨b1, 0, none⟩) hn1).trans h1) ((hW.cell (p := ⟨b2, 0, none⟩) hn2).trans h2)
  have HM := Lib.hid hm
  clear hm
  cases hin : inB n lo hi with
  | false =>
    simp only [Bool.false_eq_true, if_false]
    go_enter Try.func27, Try.ntmps27
    go_wp2_with (go_at_call 49; refine (HM.out _ (((Below.refl _ _).alloc (Nat.le_refl _) _).alloc (by simp) _)).mono ?_; rintro e w' ⟨rfl, rfl⟩)
    exact bodyPost_ret (v := .tuple #[.agg #[.int .i64 0, .int .i64 0, .slice none 0 0], .int .i64 2]) (by simp [results, Try.results27, go_sem]) rfl
      ⟨_, rfl, Kd.R_nil _ _ _ _ _, ((Below.refl _ _).alloc (Nat.le_refl _) _).alloc (by simp) _⟩
  | true =>
    simp only [if_true]
    go_enter Try.func27, Try.ntmps27
    go_wp2_with (go_at_call 49; refine (HM.out _ (((Below.refl _ _).alloc (Nat.le_refl _) _).alloc (by simp) _)).mono ?_; rintro e w' ⟨rfl, rfl⟩)
    go_region_held3 (fun w' => w'.cell? ⟨w.heap.size, 0, none⟩ = some (.int .i64 cls) ∧ w'.cell? ⟨w.heap.size, 1, none⟩ = some (.int .i64 1) ∧ w'.cell? ⟨w.heap.size, 3, none⟩ = some (.func (.func 47) #[] #[])) (first | go_keep | (refine ⟨?_, ?_, ?_⟩ <;> simp [hc, go_sem]))
      ((go_at_call 47; refine (numWords _ _).mono ?_; rintro e w1 ⟨v, rfl, hr, hb⟩; obtain ⟨A, c, rfl, _, _⟩ := Kd.R_reads hr; have HR := Lib.hid hr; clear hr; obtain ⟨hc, hf⟩ := bcell hb))
    go_wp2
    refine bodyPost_ret (v := .tuple #[.agg #[.int .i64 cls, .int .i64 1, .slice A 1 c], .int .i64 0]) (by simp [results, Try.results27, go_sem, hc]) rfl ⟨_, rfl, ?_, ?_⟩
    · refine Kd.R_lower (base := w.heap.size + 2) ?_ (by omega)
      iterate 3 (refine R_old (p := ⟨w.heap.size + 1, _, none⟩) ?_ (by simp) _)
      exact Kd.R_lower HR.out (by simp)
    · iterate 3 (refine Below.setCell (p := ⟨w.heap.size + 1, _, none⟩) ?_ (by simp) _)
      exact below_call (((Below.refl _ _).alloc (Nat.le_refl _) _).alloc (by simp) _).drew hb

end Go.Proofs.Ytecghmlojllkdaa.P

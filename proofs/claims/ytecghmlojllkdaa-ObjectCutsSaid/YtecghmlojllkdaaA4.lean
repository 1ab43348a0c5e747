import Derived.Test.YtecghmlojllkdaaA3
namespace Go.Proofs.Ytecghmlojllkdaa.P
open Go.RowKit Go.Proofs.YtecghmlojllkdaaW.PrintWords Go.Proofs.YtecghmlojllkdaaW.PrintLast Go.Proofs.YtecghmlojllkdaaW.PrintMore
set_option linter.unusedVariables false
set_option linter.unusedSimpArgs false

def Period.obj (n : Int) (w : World) : Ending → World → Prop := if inB n 1 1000000 then ObjR 5 1 [n] 0 w else ObjR 0 0 [] 2 w

set_option maxHeartbeats 3200000 in
theorem period (n : Int) (w : World) : Calls Try.prog 14 #[.int .i64 n] w (Period.obj n w) := by
  unfold Period.obj
  cases hin : inB n 1 1000000 with
  | false =>
    simp only [Bool.false_eq_true, if_false]
    go_enter Try.func14, Try.ntmps14
    go_wp2_with (first
      | (go_at_call 26; refine (periods _).mono ?_; rintro e w1 ⟨b1, b2, rfl, hb1, hb2, h1, h2, hb⟩; obtain ⟨hc, hf⟩ := bcell hb; have hz : w.heap.size < w1.heap.size := by have := hb.size; simp at this; omega)
      | (go_at_call 27; refine (numObject _ _ _ _ _ _ _ h1 h2).mono ?_; rw [if_neg (by simp [hin])]; rintro e w2 ⟨v, rfl, hr, hb'⟩; obtain ⟨A, c, rfl, _, _⟩ := Kd.R_reads hr; have HR := Lib.hid hr; clear hr; obtain ⟨hc', hf'⟩ := bcell hb'))
    refine bodyPost_ret (v := .tuple #[.agg #[.int .i64 0, .int .i64 0, .slice A 0 c], .int .i64 2]) (by simp [results, Try.results14, go_sem, hc', hc, hz]) rfl ⟨_, rfl, ?_, ?_⟩
    · refine Kd.R_lower (base := w1.heap.size) ?_ (by omega)
      iterate 3 (refine R_old (p := ⟨w.heap.size, _, none⟩) ?_ (by simp; omega) _)
      exact HR.out
    · iterate 3 (refine Below.setCell (p := ⟨w.heap.size, _, none⟩) ?_ (by simp) _)
      exact below_call (below_call ((Below.refl _ _).alloc (Nat.le_refl _) _) hb) hb'
  | true =>
    simp only [if_true]
    go_enter Try.func14, Try.ntmps14
    go_wp2_with (first
      | (go_at_call 26; refine (periods _).mono ?_; rintro e w1 ⟨b1, b2, rfl, hb1, hb2, h1, h2, hb⟩; obtain ⟨hc, hf⟩ := bcell hb; have hz : w.heap.size < w1.heap.size := by have := hb.size; simp at this; omega)
      | (go_at_call 27; refine (numObject _ _ _ _ _ _ _ h1 h2).mono ?_; rw [if_pos (by simp [hin])]; rintro e w2 ⟨v, rfl, hr, hb'⟩; obtain ⟨A, c, rfl, _, _⟩ := Kd.R_reads hr; have HR := Lib.hid hr; clear hr; obtain ⟨hc', hf'⟩ := bcell hb'))
    refine bodyPost_ret (v := .tuple #[.agg #[.int .i64 5, .int .i64 1, .slice A 1 c], .int .i64 0]) (by simp [results, Try.results14, go_sem, hc', hc, hz]) rfl ⟨_, rfl, ?_, ?_⟩
    · refine Kd.R_lower (base := w1.heap.size) ?_ (by omega)
      iterate 3 (refine R_old (p := ⟨w.heap.size, _, none⟩) ?_ (by simp; omega) _)
      exact HR.out
    · iterate 3 (refine Below.setCell (p := ⟨w.heap.size, _, none⟩) ?_ (by simp) _)
      exact below_call (below_call ((Below.refl _ _).alloc (Nat.le_refl _) _) hb) hb'

/-- A session's value. -/
def sesVal : Value := .agg #[.int .i64 1, .int .i64 1, .int .i64 2, .func (.func 40) #[] #[], .func (.func 42) #[] #[], .func (.func 43) #[] #[]]

set_option maxHeartbeats 3200000 in
theorem sessions (w : World) : Calls Try.prog 28 #[] w fun e w' => e = .returned sesVal ∧ Below w.heap.size w w' := by
  go_enter Try.func28, Try.ntmps28
  go_wp2
  exact bodyPost_ret (v := sesVal) (by simp [sesVal, results, Try.results28, go_sem]) rfl ⟨rfl, (Below.refl _ _).alloc (Nat.le_refl _) _⟩

def mayNode (n : Int) : Bool := inB n 0 15
def mayPort (n : Int) : Bool := inB n 1 65535

def maySes (a b : Int) : Bool := mayNode a && mayPort b
def wordsSes (a b : Int) : List Int := [a, wrap64 (285212672 + b)]

set_option maxHeartbeats 3200000 in
theorem sesMay (a b : Int) (w : World) : Calls Try.prog 43 #[.agg #[.int .i64 a, .int .i64 b]] w fun e w' => e = .returned (.bool (maySes a b)) ∧ Below w.heap.size w w' := by
  cases h1 : inB a 0 15 with
  | false =>
    go_enter Try.func43, Try.ntmps43
    go_wp2_with (go_at_call 44; refine (node _ _).mono ?_; rintro e w' ⟨rfl, rfl⟩)
    go_ret
    exact ⟨ret_bool (by simp [maySes, mayNode, h1]), (Below.refl _ _).alloc (Nat.le_refl _) _⟩
  | true =>
    go_enter Try.func43, Try.ntmps43
    go_wp2_with (first | (go_at_call 44; refine (node _ _).mono ?_; rintro e w' ⟨rfl, rfl⟩) | (go_at_call 45; refine (port _ _).mono ?_; rintro e w' ⟨rfl, rfl⟩))
    go_ret
    exact ⟨ret_bool (by simp [maySes, mayNode, mayPort, h1]), (Below.refl _ _).alloc (Nat.le_refl _) _⟩

theorem Reps_nums {k : IntKind} {W : World} {base : Nat} {ok : Nat → Prop} (xs : List Int) : Reps ((Kd.int k).M W base ok) 1 xs (nums k xs) :=
  ⟨by simp [nums], fun j p h => by
    show ((nums k xs).drop (j * 1)).take 1 = [Value.int k p]
    obtain ⟨hj, rfl⟩ := List.getElem?_eq_some_iff.1 h
    rw [Nat.mul_one, nums]
    rw [List.drop_eq_getElem_cons (by simpa using hj)]
    simp⟩
theorem R_ints (W : World) (xs : List Int) (hm : xs.length ≤ 9223372036854775807) : Kd.R (Kd.int .i64) 2 (W.alloc (.cells (nums .i64 xs).toArray 2)) W.heap.size (fun _ => True) (.slice (some ⟨W.heap.size, 0, none⟩) xs.length xs.length) xs :=
  ⟨fun _ _ => trivial, _, own_lit W W.heap.size 2 .i64 xs (Nat.le_refl _) hm, Reps_nums xs⟩

set_option maxHeartbeats 3200000 in
theorem sesWords (a b : Int) (w : World) : Calls Try.prog 40 #[.agg #[.int .i64 a, .int .i64 b]] w fun e w' => ∃ A c, e = .returned (.slice A 2 c) ∧ Kd.R (Kd.int .i64) 2 w' w.heap.size (fun _ => True) (.slice A 2 c) (wordsSes a b) ∧ Below w.heap.size w w' := by
  go_enter Try.func40, Try.ntmps40
  go_wp2_with (go_at_call 41; refine (list_ _ _).mono ?_; rintro e w' ⟨rfl, rfl⟩)
  go_ret
  refine ⟨_, _, rfl, ?_, ((Below.refl _ _).alloc (Nat.le_refl _) _).alloc (by simp) _⟩
  refine Kd.R_lower (base := w.heap.size + 1) ?_ (by omega)
  simpa [nums, wordsSes] using R_ints (w.alloc (.cells #[.int .i64 a, .int .i64 b] 45)) [a, wrap64 (285212672 + b)] (by simp)

def th0Ses (ws : List Int) : Int := rd ws 0
def th1Ses (ws : List Int) : Int := wrap64 (rd ws 1 - 285212672)

set_option maxHeartbeats 3200000 in
theorem sesThing (A : Option Addr) (c : Nat) (ws : List Int) (w : World) (hl : ws.length = 2) (hr : Kd.C (Kd.int .i64) w A ws.length ws) :
    Calls Try.prog 42 #[.slice A ws.length c] w fun e w' => e = .returned (.agg #[.int .i64 (th0Ses ws), .int .i64 (th1Ses ws)]) ∧ Below w.heap.size w w' := by
  obtain ⟨ad, hA, h0⟩ := Kd.at_int hr 0 (by omega) (by omega)
  obtain ⟨ad', hA', h1⟩ := Kd.at_int hr 1 (by omega) (by omega)
  subst hA
  injection hA' with hA'
  subst hA'
  simp [Addr.add] at h0 h1
  have g0 := Below.cell (((Below.refl _ w).alloc (Nat.le_refl _) (.cells #[.int .i64 0, .int .i64 0] 45))) (World.block_lt_of_cell? w _ h0)
  have g1 := Below.cell (((Below.refl _ w).alloc (Nat.le_refl _) (.cells #[.int .i64 0, .int .i64 0] 45))) (World.block_lt_of_cell? w _ h1)
  rw [h0] at g0
  rw [h1] at g1
  clear hr
  unfold th0Ses th1Ses
  rw [hl]
  go_enter Try.func42, Try.ntmps42
  go_wp2
  go_region_held3 (fun w' => w'.cell? ad = some (.int .i64 (rd ws 0)) ∧ w'.cell? ⟨ad.block, ad.off + 1, none⟩ = some (.int .i64 (rd ws 1))) (go_keep) (fail)
  go_wp2
  exact bodyPost_ret (v := .agg #[.int .i64 (rd ws 0), .int .i64 (wrap64 (rd ws 1 - 285212672))]) (by simp [results, Try.results42, go_sem, i64_w]) rfl
    ⟨rfl, (((Below.refl _ _).alloc (Nat.le_refl _) _).drew)⟩

end Go.Proofs.Ytecghmlojllkdaa.P

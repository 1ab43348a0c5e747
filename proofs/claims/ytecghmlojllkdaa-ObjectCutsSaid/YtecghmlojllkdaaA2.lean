import Derived.Test.YtecghmlojllkdaaA1
import Derived.Test.YtecghmlojllkdaaP12
import Derived.Laws.EntriesVeiled
import Derived.Deep.RegionHeld3
import Derived.Deep.RegionHeld3
namespace Go.Proofs.Ytecghmlojllkdaa.P
open Go.RowKit Go.Proofs.YtecghmlojllkdaaW.PrintWords Go.Proofs.YtecghmlojllkdaaW.PrintLast Go.Proofs.YtecghmlojllkdaaW.PrintMore
set_option linter.unusedVariables false
set_option linter.unusedSimpArgs false

theorem bcell {W w1 : World} (hb : Below W.heap.size W w1) : (∀ b o, b < W.heap.size → w1.cell? ⟨b, o, none⟩ = W.cell? ⟨b, o, none⟩) ∧ (∀ b o, b < W.heap.size → w1.frozen? ⟨b, o, none⟩ = W.frozen? ⟨b, o, none⟩) :=
  ⟨fun b o h => hb.cell (p := ⟨b, o, none⟩) h, fun b o h => hb.frozen (p := ⟨b, o, none⟩) h⟩

/-- numbers' value: its bounds lie in two boxes. -/
def NumSays (cls least most : Int) (w : World) (e : Ending) (w' : World) : Prop :=
  ∃ b1 b2 : Nat, e = .returned (.agg #[.int .i64 cls, .int .i64 1, .int .i64 1, .func (.func 47) #[] #[], .func (.func 48) #[] #[], .func (.func 49) #[] #[.pointer (some ⟨b1, 0, none⟩), .pointer (some ⟨b2, 0, none⟩)]]) ∧
    w.heap.size ≤ b1 ∧ w.heap.size ≤ b2 ∧ w'.cell? ⟨b1, 0, none⟩ = some (.int .i64 least) ∧ w'.cell? ⟨b2, 0, none⟩ = some (.int .i64 most) ∧ Below w.heap.size w w'

set_option maxHeartbeats 1600000 in
theorem numbers (cls least most : Int) (w : World) : Calls Try.prog 39 #[.int .i64 cls, .int .i64 least, .int .i64 most] w (NumSays cls least most w) := by
  have hmf : ∀ (fn : Fn) (first cap : Array Value) (w : World), (Instr.makeFunc fn first cap).run Try.prog w = .ok (.func fn first cap) w := fun _ _ _ _ => rfl
  go_enter Try.func39, Try.ntmps39
  go_wp2
  exact bodyPost_ret (v := .agg #[.int .i64 cls, .int .i64 1, .int .i64 1, .func (.func 47) #[] #[], .func (.func 48) #[] #[], .func (.func 49) #[] #[.pointer (some ⟨w.heap.size, 0, none⟩), .pointer (some ⟨w.heap.size + 1, 0, none⟩)]]) (by simp [results, Try.results39, go_sem]) rfl
    ⟨_, _, rfl, by simp, by simp, by simp [go_sem], by simp [go_sem], ((((Below.refl _ _).alloc (Nat.le_refl _) _).alloc (by simp) _).alloc (by simp; omega) _)⟩

set_option maxHeartbeats 1600000 in
theorem periods (w : World) : Calls Try.prog 26 #[] w (NumSays 5 1 1000000 w) := by
  go_enter Try.func26, Try.ntmps26
  go_wp2_with (go_at_call 39; refine (numbers _ _ _ _).mono ?_; rintro e w' ⟨b1, b2, rfl, hb1, hb2, h1, h2, hb⟩; obtain ⟨hc, hf⟩ := bcell hb)
  have n1 : w.heap.size ≠ b1 := by simp at hb1; omega
  have n2 : w.heap.size ≠ b2 := by simp at hb2; omega
  refine bodyPost_ret (v := .agg #[.int .i64 5, .int .i64 1, .int .i64 1, .func (.func 47) #[] #[], .func (.func 48) #[] #[], .func (.func 49) #[] #[.pointer (some ⟨b1, 0, none⟩), .pointer (some ⟨b2, 0, none⟩)]]) (by simp [results, Try.results26, go_sem, hc]) rfl
    ⟨b1, b2, rfl, by simp at hb1; omega, by simp at hb2; omega, by simp [go_sem, h1], by simp [go_sem, h2], ?_⟩
  iterate 6 (refine Below.setCell (p := ⟨w.heap.size, _, none⟩) ?_ (Nat.le_refl w.heap.size) _)
  exact ((Below.refl _ _).alloc (Nat.le_refl _) _).trans (hb.mono (by simp))

/-- A slice literal of one number. -/
theorem R_one (W : World) (n : Int) : Kd.R (Kd.int .i64) 2 (W.alloc (.cells #[.int .i64 n] 2)) W.heap.size (fun _ => True) (.slice (some ⟨W.heap.size, 0, none⟩) 1 1) [n] :=
  ⟨fun _ _ => trivial, _, own_lit W W.heap.size 2 .i64 [n] (Nat.le_refl _) (by simp), by
    show Reps _ 1 ([] ++ [n]) ([] ++ [.int .i64 n])
    exact (Reps.none _ _).snoc rfl rfl⟩

/-- numbers' closures -/
theorem numWords (n : Int) (w : World) : Calls Try.prog 47 #[.int .i64 n] w fun e w' => ∃ v, e = .returned v ∧ Kd.R (Kd.int .i64) 2 w' w.heap.size (fun _ => True) v [n] ∧ Below w.heap.size w w' := by
  go_enter Try.func47, Try.ntmps47
  go_wp2_with (go_at_call 41; refine (list_ _ _).mono ?_; rintro e w' ⟨rfl, rfl⟩)
  go_ret
  exact ⟨_, rfl, R_one w n, (Below.refl _ _).alloc (Nat.le_refl _) _⟩

theorem numMay (n lo hi : Int) (b1 b2 : Nat) (w : World) (h1 : w.cell? ⟨b1, 0, none⟩ = some (.int .i64 lo)) (h2 : w.cell? ⟨b2, 0, none⟩ = some (.int .i64 hi)) :
    Calls Try.prog 49 #[.int .i64 n, .pointer (some ⟨b1, 0, none⟩), .pointer (some ⟨b2, 0, none⟩)] w fun e w' => e = .returned (.bool (inB n lo hi)) ∧ w = w' := by
  go_enter Try.func49, Try.ntmps49
  go_wp2_with (go_at_call 33; refine (within64 _ _ _ _).mono ?_; rintro e w' ⟨rfl, rfl⟩)
  go_ret
  exact ⟨rfl, rfl⟩


theorem far3 {w : World} {g : Nat} {a : Addr} (h : g ≠ a.block) (u0 u1 u2 : Value) : (((w.setCell ⟨g, 0, none⟩ u0).setCell ⟨g, 1, none⟩ u1).setCell ⟨g, 2, none⟩ u2).cell? a = w.cell? a := by
  rw [World.cell?_setCell_far _ _ _ _ h, World.cell?_setCell_far _ _ _ _ h, World.cell?_setCell_far _ _ _ _ h]
theorem below_call {w W w1 : World} (h : Below w.heap.size w W) (hb : Below W.heap.size W w1) : Below w.heap.size w w1 := h.trans (hb.mono h.size)
/-- A store into an elder block leaves a row that was made later. -/
theorem R_old {α : Type} {d : Kd α} {e base : Nat} {ok : Nat → Prop} {w : World} {v : Value} {xs : List α} (h : Kd.R d e w base ok v xs) {p : Addr} (hp : p.block < base) (u : Value) : Kd.R d e (w.setCell p u) base ok v xs :=
  Kd.R_mono (Kd.R_far (Kd.R_bound h) (p := p) (fun _ hk => by have := hk.2.1; omega) u) (fun _ hk => hk.1)

/-- An object that is handed back: its words are new. -/
def ObjR (c t : Int) (ws : List Int) (n : Int) (w : World) (e : Ending) (w' : World) : Prop :=
  ∃ v, e = .returned (.tuple #[.agg #[.int .i64 c, .int .i64 t, v], .int .i64 n]) ∧ Kd.R (Kd.int .i64) 2 w' w.heap.size (fun _ => True) v ws ∧ Below w.heap.size w w'

end Go.Proofs.Ytecghmlojllkdaa.P

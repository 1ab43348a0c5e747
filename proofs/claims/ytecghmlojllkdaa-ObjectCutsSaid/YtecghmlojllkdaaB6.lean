import Derived.Test.YtecghmlojllkdaaB5
namespace Go.Proofs.Ytecghmlojllkdaa.P
open Go.RowKit Go.Proofs.YtecghmlojllkdaaW.PrintWords Go.Proofs.YtecghmlojllkdaaW.PrintLast Go.Proofs.YtecghmlojllkdaaW.PrintMore
set_option linter.unusedVariables false
set_option linter.unusedSimpArgs false

def bytesB (l : List Int) : Bool := l.all (fun x => decide (0 ≤ x) && decide (x < 256))
theorem bytesB_iff (l : List Int) : bytesB l = true ↔ Bytes l := by simp [bytesB, Bytes]

def object_Parse.f (l : List Int) : Option (List S32 × Int) := if bytesB l = true then some (parseO l) else none

/-- The fence: every function of the program. -/
def allFns : Fence := { fn := fun f => ∃ fn, Try.prog.funcs[f]? = some fn, depth := none, alive := false }

theorem object_Parse.calls (A0 : Option Addr) (c0 : Nat) (l0 : List Int) (r1 : List S32) (r2 : Int) (w : World) (hr0 : Kd.C (Kd.int .u8) w A0 l0.length l0) (hc0 : l0.length ≤ c0) (h : object_Parse.f l0 = some (r1, r2)) :
    Calls Try.prog 11 #[.slice A0 l0.length c0] w fun e w' => ∃ v0_, e = .returned (.tuple #[v0_, .int .i64 r2]) ∧ Kd.S k32 32 w' w.heap.size (fun _ => True) v0_ r1 ∧ Below w.heap.size w w' := by
  unfold object_Parse.f at h
  split at h
  · rename_i hb
    injection h with h
    have h1 : (parseO l0).1 = r1 := by rw [h]
    have h2 : (parseO l0).2 = r2 := by rw [h]
    rw [← h1, ← h2]
    exact (parse_in allFns 6 ⟨_, rfl⟩ ⟨_, rfl⟩ ⟨_, rfl⟩ ⟨_, rfl⟩ ⟨_, rfl⟩ ⟨_, rfl⟩ ⟨_, rfl⟩ (fun _ h => h) rfl (Nat.le_refl _) l0 ((bytesB_iff l0).1 hb) A0 c0 w hr0).calls (fun k d h => by cases h)
  · cases h

end Go.Proofs.Ytecghmlojllkdaa.P

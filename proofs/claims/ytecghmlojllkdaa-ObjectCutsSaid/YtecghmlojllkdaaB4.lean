import Derived.Test.YtecghmlojllkdaaB2
namespace Go.Proofs.Ytecghmlojllkdaa.P
open Go.RowKit Go.Shelf Go.Proofs.Ytecghmlojllkdaa.RangePanic Go.Proofs.YtecghmlojllkdaaW.PrintWords Go.Proofs.YtecghmlojllkdaaW.PrintLast Go.Proofs.YtecghmlojllkdaaW.PrintMore
set_option linter.unusedVariables false

attribute [local go_sem] Oper.semAt_some
set_option linter.unusedSimpArgs false

theorem assert_fail (w : World) : Sem.run Try.prog (Instr.typeAssert (.iface 51 (.agg #[])) 20 51 true) w = .ok (.tuple #[.agg #[], .bool true]) w := by
  simp [Instr.typeAssert, run_underlying Try.underlying51]

set_option maxRecDepth 100000 in
set_option maxHeartbeats 2000000 in
theorem maker_in (F : Fence) (n : Nat) (h22 : F.fn 22) (hro : F.round = none) (v : Value) (A0 : Option Addr) (m c0 : Nat) (hv : v = .slice A0 m c0) (w : World) :
    CallsIn F n Try.prog 22 #[v] w fun e w' => e = .returned (.func (.func 36) #[] #[.pointer (some ⟨w.heap.size, 0, none⟩)]) ∧ w' = w.alloc (.cells #[v] 25) := by
  subst hv
  refine callsIn_of_wp Try.func22 rfl h22 ?_ hro
  simp only [Try.ntmps22, List.size_toArray, List.length_cons, List.length_nil, Nat.reduceAdd, Nat.reduceSub, Array.replicate_succ, Array.replicate_zero, List.push_toArray, List.append_toArray, List.nil_append, List.cons_append]
  gi_wp2
  exact bodyPost_ret (results_tmp rfl _ _ _) rfl ⟨rfl, rfl⟩

set_option maxRecDepth 100000 in
set_option maxHeartbeats 2000000 in
/-- The deferred call where nothing panics. -/
theorem calm_in (F : Fence) (n : Nat) (h21 : F.fn 21) (hro : F.round = none) (a b : Addr) (w : World) :
    CallsDIn F n Try.prog 21 #[.pointer (some a), .pointer (some b)] .returning w fun e u w' => (∃ v, e = .returned v) ∧ u = .returning ∧ w' = w := by
  refine callsDIn_of_wpSIn Try.func21 rfl h21 ?_
  intro c0 cs hu
  simp only [Try.ntmps21, List.size_toArray, List.length_cons, List.length_nil, Nat.reduceAdd, Nat.reduceSub, Array.replicate_succ, Array.replicate_zero, List.push_toArray, List.append_toArray, List.nil_append, List.cons_append]
  refine wpSIn_seq (wpSIn_region ?_)
  simp only [wpOpsSIn, List.range, List.range.loop]
  refine ⟨by intro f hf; simp [Oper.about, resolve, Target.leads, Sem.run_pure] at hf, ?_⟩
  rw [if_pos (by rfl)]
  go_simp
  have hrec : recoverD (c0 :: cs) = none := by simp [recoverD, hu]
  rw [hrec]
  simp only [wpOpsSIn, Exit.thenS, Act.put, List.setIfInBounds_toArray, List.set_cons_zero, List.set_cons_succ]
  refine wpSIn_of_wpIn hro ?_
  gi_wp2
  refine ⟨rfl, .returning, ?_, _, results_none rfl _ _ _, ⟨_, rfl⟩, rfl, rfl⟩
  cases c0; simp at hu; subst hu; rfl

set_option maxRecDepth 100000 in
set_option maxHeartbeats 2000000 in
/-- The deferred call where the objects end amiss. -/
theorem caught_in (F : Fence) (n : Nat) (h21 : F.fn 21) (hro : F.round = none) (R1 R2 : Nat) (v1 v2 : Value) (w : World) (b1 : Boxed w R1 22 v1) (b2 : Boxed w R2 26 v2) (hne : R1 ≠ R2) (hv1 : v1.cells.size = 1) (hv2 : v2.cells.size = 1) :
    CallsDIn F n Try.prog 21 #[.pointer (some ⟨R1, 0, none⟩), .pointer (some ⟨R2, 0, none⟩)] (.panicking failCh) w fun e u w' => (∃ v, e = .returned v) ∧ u = .panicking [{ v := .iface 51 (.agg #[]), recovered := true }] ∧
      Boxed w' R1 22 (.slice none 0 0) ∧ Boxed w' R2 26 (.int .i64 170) ∧ Below (min R1 R2) w w' := by
  refine callsDIn_of_wpSIn Try.func21 rfl h21 ?_
  intro c0 cs hu
  simp only [Try.ntmps21, List.size_toArray, List.length_cons, List.length_nil, Nat.reduceAdd, Nat.reduceSub, Array.replicate_succ, Array.replicate_zero, List.push_toArray, List.append_toArray, List.nil_append, List.cons_append]
  refine wpSIn_seq (wpSIn_region ?_)
  simp only [wpOpsSIn, List.range, List.range.loop]
  refine ⟨by intro f hf; simp [Oper.about, resolve, Target.leads, Sem.run_pure] at hf, ?_⟩
  rw [if_pos (by rfl)]
  go_simp
  have hrec : recoverD (c0 :: cs) = some (.iface 51 (.agg #[]), { c0 with mode := .panicking [{ v := .iface 51 (.agg #[]), recovered := true }] } :: cs) := by simp [recoverD, hu, failCh]
  rw [hrec]
  simp only [wpOpsSIn, Exit.thenS, Act.put, List.setIfInBounds_toArray, List.set_cons_zero, List.set_cons_succ]
  refine wpSIn_of_wpIn hro ?_
  have c1 := b1.cell
  have f1 := b1.frozen
  have c2 := b2.cell
  have f2 := b2.frozen
  have hta := assert_fail
  have l1 := b1.lt
  have l2 := b2.lt
  gi_wp2
  refine ⟨rfl, _, rfl, _, results_none rfl _ _ _, ⟨_, rfl⟩, rfl, ((b1.set _).other hne _).alloc _, ((b2.other hne.symm _).set _).alloc _, ?_⟩
  exact (((Below.refl _ w).setCell (p := ⟨R1, 0, none⟩) (Nat.min_le_left _ _) _).setCell (p := ⟨R2, 0, none⟩) (Nat.min_le_right _ _) _).alloc (by rw [size_setCell', size_setCell']; exact Nat.le_of_lt (Nat.lt_of_le_of_lt (Nat.min_le_left _ _) b1.lt)) _

end Go.Proofs.Ytecghmlojllkdaa.P

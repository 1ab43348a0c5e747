import Derived.Test.YtecghmlojllkdaaGreatTl29
import Derived.Test.YtecghmlojllkdaaGreatTl1
import Derived.Test.YtecghmlojllkdaaGreatTl2
import Derived.Test.YtecghmlojllkdaaGreatTl3
import Derived.Test.YtecghmlojllkdaaGreatTl30
import Derived.Test.YtecghmlojllkdaaGreatTl31
import Derived.Test.YtecghmlojllkdaaGreatTl32
import Derived.Test.YtecghmlojllkdaaGreatTl33
namespace Go.Proofs.YtecghmlojllkdaaGreat.P
open Go.RowKit Go.Proofs.YtecghmlojllkdaaGreatW.PrintWords Go.Proofs.YtecghmlojllkdaaGreatW.PrintLast
set_option linter.unusedVariables false
set_option linter.unusedSimpArgs false
set_option maxRecDepth 100000
theorem or_low (a b : Int) (h0 : 0 ≤ a) (h1 : a ≤ 255) (h2 : 0 ≤ b) (h3 : b ≤ 65535) : Go.bits .or .i64 (a * 65536) b = a * 65536 + b := by
 obtain ⟨A, rfl⟩ := Int.eq_ofNat_of_zero_le h0
 obtain ⟨B, rfl⟩ := Int.eq_ofNat_of_zero_le h2
 have e1 : ((A : Int) * 65536) = ((A * 65536 : Nat) : Int) := by omega
 rw [e1]
 unfold bits
 dsimp only
 rw [BitVec.toNat_or]
 simp only [IntKind.bits, BitVec.ofInt_natCast, BitVec.toNat_ofNat]
 rw [Nat.mod_eq_of_lt (by omega), Nat.mod_eq_of_lt (by omega), show A * 65536 = A <<< 16 by rw [Nat.shiftLeft_eq], ← Nat.shiftLeft_add_eq_or_of_lt (by omega : B < 2 ^ 16), Nat.shiftLeft_eq]
 rw [IntWalk.i64_in _ (by omega)]
 omega
theorem and_low (a : Int) (h0 : 0 ≤ a) (h1 : a ≤ 9223372036854775807) : Go.bits .and .i64 a 65535 = a % 65536 := by
 obtain ⟨A, rfl⟩ := Int.eq_ofNat_of_zero_le h0
 have e1 : (65535 : Int) = ((65535 : Nat) : Int) := rfl
 rw [e1]
 unfold bits
 dsimp only
 rw [BitVec.toNat_and]
 simp only [IntKind.bits, BitVec.ofInt_natCast, BitVec.toNat_ofNat]
 rw [Nat.mod_eq_of_lt (by omega), Nat.mod_eq_of_lt (by omega), show (65535 : Nat) = 2 ^ 16 - 1 from rfl, Nat.and_two_pow_sub_one_eq_mod]
 rw [IntWalk.i64_in _ (by omega)]
 omega
def S_ (x0 x1 x2 x3 x4 : Int) : Bool := (decide (1 ≤ x1) && decide (x1 ≤ x0) && decide (x0 ≤ 1000000) && decide (1 ≤ x4) && decide (x4 ≤ x3) && decide (x3 ≤ 2000) && decide (x3 ≤ x2) && decide (x2 ≤ 10000000))
theorem f1_ (x0 x1 x2 x3 x4 : Int) : tspec_flaws_1.f x0 x1 x2 x3 x4 = some (!((decide (1 ≤ x1) && decide (x1 ≤ 1000000)) && (decide (x1 ≤ x0) && decide (x0 ≤ 1000000)))) := by
 simp only [tspec_flaws_1.f, tspec_within.f]
 repeat' (first | split | simp only [Option.bind_some])
 all_goals first | (simp_all; done) | (simp_all; omega) | omega
theorem f2_ (x0 x1 x2 x3 x4 : Int) : tspec_flaws_2.f x0 x1 x2 x3 x4 = some (!((decide (1 ≤ x3) && decide (x3 ≤ 2000)) && (decide (1 ≤ x4) && decide (x4 ≤ x3)))) := by
 simp only [tspec_flaws_2.f, tspec_within.f]
 repeat' (first | split | simp only [Option.bind_some])
 all_goals first | (simp_all; done) | (simp_all; omega) | omega
theorem f3_ (x0 x1 x2 x3 x4 : Int) : tspec_flaws_3.f x0 x1 x2 x3 x4 = some (!(decide (x3 ≤ x2) && decide (x2 ≤ 10000000))) := by
 simp only [tspec_flaws_3.f, tspec_within.f]
 repeat' (first | split | simp only [Option.bind_some])
 all_goals first | (simp_all; done) | (simp_all; omega) | omega
theorem tc_ (x0 x1 x2 x3 x4 : Int) : tspec_Check.f x0 x1 x2 x3 x4 = some (if S_ x0 x1 x2 x3 x4 = true then 0 else 2) := by
 rw [tspec_Check.f, f1_, f2_, f3_, Option.bind_some, Option.bind_some, Option.bind_some]
 refine congrArg some ?_
 by_cases h : S_ x0 x1 x2 x3 x4 = true
 ·rw [if_pos h]
  simp [S_] at h
  rw [if_neg (by simp; omega)]
 ·rw [if_neg h]
  simp [S_] at h
  rw [if_pos (by simp; omega)]
theorem rs_ (x0 x1 x2 x3 x4 : Int) : postroadref02_Right.f x0 x1 x2 x3 x4 = some (S_ x0 x1 x2 x3 x4) := by
 simp only [postroadref02_Right.f]
 repeat' split
 all_goals first | (simp_all [S_]; done) | (simp_all [S_]; omega) | omega
def M_Session (x0 x1 : Int) : Bool := (decide (0 ≤ x0) && decide (x0 ≤ 15)) && (decide (1 ≤ x1) && decide (x1 ≤ 65535))
theorem cm_Session (x0 x1 : Int) : object_sessions_3.f x0 x1 = some (M_Session x0 x1) := by
 simp only [object_sessions_3.f, object_node.f, object_port.f, object_within_int64.f, postroadref07_within.f, tc_, rs_, bound_Check.f, bound_within.f, postroadref05_Right.f, object_list.f, object_spec.f, object_specOf.f, postroadref07_object.f]
 repeat' (first | split | simp only [Option.bind_some])
 all_goals first | (simp_all [M_Session]; done) | (simp_all [M_Session]; omega) | omega
theorem rm_Session (x0 x1 : Int) : postroadref07_MaySession.f x0 x1 = some (M_Session x0 x1) := by
 simp only [postroadref07_MaySession.f, object_node.f, object_port.f, object_within_int64.f, postroadref07_within.f, tc_, rs_, bound_Check.f, bound_within.f, postroadref05_Right.f, object_list.f, object_spec.f, object_specOf.f, postroadref07_object.f]
 repeat' (first | split | simp only [Option.bind_some])
 all_goals first | (simp_all [M_Session]; done) | (simp_all [M_Session]; omega) | omega
theorem cw_Session (x0 x1 : Int) : object_sessions_1.f x0 x1 = some [x0, wrap64 (285212672 + x1)] := by
 rfl
theorem rw_Session (x0 x1 : Int) (h : M_Session x0 x1 = true) : postroadref07_Session.f x0 x1 = some (1, 1, [x0, wrap64 (285212672 + x1)]) := by
 rfl
theorem ct_Session (l : List Int) (h : ((l.length : Nat) : Int) = 2) : object_sessions_2.f l = some (rd l 0, wrap64 (rd l 1 - 285212672)) := by
 simp only [object_sessions_2.f, object_node.f, object_port.f, object_within_int64.f, postroadref07_within.f, tc_, rs_, bound_Check.f, bound_within.f, postroadref05_Right.f, object_list.f, object_spec.f, object_specOf.f, postroadref07_object.f]
 repeat' (first | rw [if_pos (by omega)] | simp only [Option.bind_some])
theorem rt_Session (x0 x1 : Int) (h : M_Session x0 x1 = true) : ((rd [x0, wrap64 (285212672 + x1)] 0, wrap64 (rd [x0, wrap64 (285212672 + x1)] 1 - 285212672))) = (((x0, x1)) : Int × Int) := by
 simp [M_Session] at h
 have e : wrap64 (285212672 + x1) = 285212672 + x1 := IntWalk.wrap64_in _ (by omega)
 have e2 : wrap64 (285212672 + x1 - 285212672) = x1 := by rw [show 285212672 + x1 - 285212672 = x1 by omega]; exact IntWalk.wrap64_in _ (by omega)
 simp [rd, e, e2]
theorem good_Session (x0 x1 : Int) : ∃ (m : Bool) (C T E F : Int) (l : List Int) (y0 y1 : Int), object_Session.f x0 x1 = some (C, T, l, E) ∧ postroadref07_MaySession.f x0 x1 = some m ∧ l.length ≤ 70 ∧ object_AsSession.f C T l = some (y0, y1, F) ∧
  ((m = true ∧ E = 0 ∧ F = 0 ∧ x0 = y0 ∧ x1 = y1 ∧ postroadref07_Session.f x0 x1 = some (C, T, l)) ∨ (m = false ∧ E = 2 ∧ F = 171 ∧ y0 = 0 ∧ y1 = 0 ∧ C = 0 ∧ T = 0 ∧ l = [])) := by
 cases hm : M_Session x0 x1 with
 | true =>
  refine ⟨true, 1, 1, 0, 0, [x0, wrap64 (285212672 + x1)], x0, x1, ?_, by rw [rm_Session, hm], by simp, ?_, .inl ⟨rfl, rfl, rfl, rfl, rfl, rw_Session x0 x1 hm⟩⟩
  ·rw [object_Session.f, cm_Session, Option.bind_some, cw_Session, Option.bind_some, hm]
   rfl
  ·rw [object_AsSession.f, if_pos (by first | exact ⟨rfl, rfl, rfl⟩ | simp), ct_Session _ rfl, Option.bind_some]
   have hr := rt_Session x0 x1 hm
   simp only [Prod.mk.injEq] at hr
   obtain ⟨r0, r1⟩ := hr
   simp only [r0, r1]
   rw [cm_Session, Option.bind_some, cw_Session, Option.bind_some, hm]
   simp
 | false =>
  refine ⟨false, 0, 0, 2, 171, [], 0, 0, ?_, by rw [rm_Session, hm], by simp, ?_, .inr ⟨rfl, rfl, rfl, rfl, rfl, rfl, rfl, rfl⟩⟩
  ·rw [object_Session.f, cm_Session, Option.bind_some, cw_Session, Option.bind_some, hm]
   rfl
  ·rw [object_AsSession.f, if_neg (by simp)]
def M_Hop (x0 x1 : Int) : Bool := (decide (0 ≤ x0) && decide (x0 ≤ 15)) && (decide (0 ≤ x1) && decide (x1 ≤ 47))
theorem cm_Hop (x0 x1 : Int) : object_hops_3.f x0 x1 = some (M_Hop x0 x1) := by
 simp only [object_hops_3.f, object_node.f, object_port.f, object_within_int64.f, postroadref07_within.f, tc_, rs_, bound_Check.f, bound_within.f, postroadref05_Right.f, object_list.f, object_spec.f, object_specOf.f, postroadref07_object.f]
 repeat' (first | split | simp only [Option.bind_some])
 all_goals first | (simp_all [M_Hop]; done) | (simp_all [M_Hop]; omega) | omega
theorem rm_Hop (x0 x1 : Int) : postroadref07_MayHop.f x0 x1 = some (M_Hop x0 x1) := by
 simp only [postroadref07_MayHop.f, object_node.f, object_port.f, object_within_int64.f, postroadref07_within.f, tc_, rs_, bound_Check.f, bound_within.f, postroadref05_Right.f, object_list.f, object_spec.f, object_specOf.f, postroadref07_object.f]
 repeat' (first | split | simp only [Option.bind_some])
 all_goals first | (simp_all [M_Hop]; done) | (simp_all [M_Hop]; omega) | omega
theorem cw_Hop (x0 x1 : Int) : object_hops_1.f x0 x1 = some [x0, x1] := by
 rfl
theorem rw_Hop (x0 x1 : Int) (h : M_Hop x0 x1 = true) : postroadref07_Hop.f x0 x1 = some (3, 1, [x0, x1]) := by
 rfl
theorem ct_Hop (l : List Int) (h : ((l.length : Nat) : Int) = 2) : object_hops_2.f l = some (rd l 0, rd l 1) := by
 simp only [object_hops_2.f, object_node.f, object_port.f, object_within_int64.f, postroadref07_within.f, tc_, rs_, bound_Check.f, bound_within.f, postroadref05_Right.f, object_list.f, object_spec.f, object_specOf.f, postroadref07_object.f]
 repeat' (first | rw [if_pos (by omega)] | simp only [Option.bind_some])
theorem rt_Hop (x0 x1 : Int) (h : M_Hop x0 x1 = true) : ((rd [x0, x1] 0, rd [x0, x1] 1)) = (((x0, x1)) : Int × Int) := by
 rfl
theorem good_Hop (x0 x1 : Int) : ∃ (m : Bool) (C T E F : Int) (l : List Int) (y0 y1 : Int), object_Hop.f x0 x1 = some (C, T, l, E) ∧ postroadref07_MayHop.f x0 x1 = some m ∧ l.length ≤ 70 ∧ object_AsHop.f C T l = some (y0, y1, F) ∧
  ((m = true ∧ E = 0 ∧ F = 0 ∧ x0 = y0 ∧ x1 = y1 ∧ postroadref07_Hop.f x0 x1 = some (C, T, l)) ∨ (m = false ∧ E = 2 ∧ F = 171 ∧ y0 = 0 ∧ y1 = 0 ∧ C = 0 ∧ T = 0 ∧ l = [])) := by
 cases hm : M_Hop x0 x1 with
 | true =>
  refine ⟨true, 3, 1, 0, 0, [x0, x1], x0, x1, ?_, by rw [rm_Hop, hm], by simp, ?_, .inl ⟨rfl, rfl, rfl, rfl, rfl, rw_Hop x0 x1 hm⟩⟩
  ·rw [object_Hop.f, cm_Hop, Option.bind_some, cw_Hop, Option.bind_some, hm]
   rfl
  ·rw [object_AsHop.f, if_pos (by first | exact ⟨rfl, rfl, rfl⟩ | simp), ct_Hop _ rfl, Option.bind_some]
   have hr := rt_Hop x0 x1 hm
   simp only [Prod.mk.injEq] at hr
   obtain ⟨r0, r1⟩ := hr
   simp only [r0, r1]
   rw [cm_Hop, Option.bind_some, cw_Hop, Option.bind_some, hm]
   simp
 | false =>
  refine ⟨false, 0, 0, 2, 171, [], 0, 0, ?_, by rw [rm_Hop, hm], by simp, ?_, .inr ⟨rfl, rfl, rfl, rfl, rfl, rfl, rfl, rfl⟩⟩
  ·rw [object_Hop.f, cm_Hop, Option.bind_some, cw_Hop, Option.bind_some, hm]
   rfl
  ·rw [object_AsHop.f, if_neg (by simp)]
def M_Period (x0 : Int) : Bool := (decide (1 ≤ x0) && decide (x0 ≤ 1000000))
theorem rm_Period (x0 : Int) : postroadref07_MayPeriod.f x0 = some (M_Period x0) := by
 simp only [postroadref07_MayPeriod.f, object_node.f, object_port.f, object_within_int64.f, postroadref07_within.f, tc_, rs_, bound_Check.f, bound_within.f, postroadref05_Right.f, object_list.f, object_spec.f, object_specOf.f, postroadref07_object.f]
 repeat' (first | split | simp only [Option.bind_some])
 all_goals first | (simp_all [M_Period]; done) | (simp_all [M_Period]; omega) | omega
theorem cw_Period (x0 : Int) : object_numbers_1.f x0 = some [x0] := by
 rfl
theorem rw_Period (x0 : Int) (h : M_Period x0 = true) : postroadref07_Period.f x0 = some (5, 1, [x0]) := by
 rfl
theorem ct_Period (l : List Int) (h : ((l.length : Nat) : Int) = 1) : object_numbers_2.f l = some (rd l 0) := by
 simp only [object_numbers_2.f, object_node.f, object_port.f, object_within_int64.f, postroadref07_within.f, tc_, rs_, bound_Check.f, bound_within.f, postroadref05_Right.f, object_list.f, object_spec.f, object_specOf.f, postroadref07_object.f]
 repeat' (first | rw [if_pos (by omega)] | simp only [Option.bind_some])
theorem rt_Period (x0 : Int) (h : M_Period x0 = true) : ((rd [x0] 0)) = (((x0)) : Int) := by
 rfl
theorem good_Period (x0 : Int) : ∃ (m : Bool) (C T E F : Int) (l : List Int) (y0 : Int), object_Period.f x0 = some (C, T, l, E) ∧ postroadref07_MayPeriod.f x0 = some m ∧ l.length ≤ 70 ∧ object_AsPeriod.f C T l = some (y0, F) ∧
  ((m = true ∧ E = 0 ∧ F = 0 ∧ x0 = y0 ∧ postroadref07_Period.f x0 = some (C, T, l)) ∨ (m = false ∧ E = 2 ∧ F = 171 ∧ y0 = 0 ∧ C = 0 ∧ T = 0 ∧ l = [])) := by
 cases hm : M_Period x0 with
 | true =>
  refine ⟨true, 5, 1, 0, 0, [x0], x0, ?_, by rw [rm_Period, hm], by simp, ?_, .inl ⟨rfl, rfl, rfl, rfl, rw_Period x0 hm⟩⟩
  ·rw [object_Period.f, show (some (inB x0 1 1000000) : Option Bool) = some (M_Period x0) from rfl, Option.bind_some, cw_Period, Option.bind_some, hm]
   rfl
  ·rw [object_AsPeriod.f, if_pos (by first | exact ⟨rfl, rfl, rfl⟩ | simp), ct_Period _ rfl, Option.bind_some]
   have hr := rt_Period x0 hm
   rw [hr]
   rw [show (some (inB x0 1 1000000) : Option Bool) = some (M_Period x0) from rfl, Option.bind_some, cw_Period, Option.bind_some, hm]
   simp
 | false =>
  refine ⟨false, 0, 0, 2, 171, [], 0, ?_, by rw [rm_Period, hm], by simp, ?_, .inr ⟨rfl, rfl, rfl, rfl, rfl, rfl, rfl⟩⟩
  ·rw [object_Period.f, show (some (inB x0 1 1000000) : Option Bool) = some (M_Period x0) from rfl, Option.bind_some, cw_Period, Option.bind_some, hm]
   rfl
  ·rw [object_AsPeriod.f, if_neg (by simp)]
def M_Fault (x0 x1 x2 : Int) : Bool := (decide (0 ≤ x0) && decide (x0 ≤ 15)) && (decide (0 ≤ x1) && decide (x1 ≤ 255)) && (decide (0 ≤ x2) && decide (x2 ≤ 65535))
theorem cm_Fault (x0 x1 x2 : Int) : object_faults_3.f x0 x1 x2 = some (M_Fault x0 x1 x2) := by
 simp only [object_faults_3.f, object_node.f, object_port.f, object_within_int64.f, postroadref07_within.f, tc_, rs_, bound_Check.f, bound_within.f, postroadref05_Right.f, object_list.f, object_spec.f, object_specOf.f, postroadref07_object.f]
 repeat' (first | split | simp only [Option.bind_some])
 all_goals first | (simp_all [M_Fault]; done) | (simp_all [M_Fault]; omega) | omega
theorem rm_Fault (x0 x1 x2 : Int) : postroadref07_MayFault.f x0 x1 x2 = some (M_Fault x0 x1 x2) := by
 simp only [postroadref07_MayFault.f, object_node.f, object_port.f, object_within_int64.f, postroadref07_within.f, tc_, rs_, bound_Check.f, bound_within.f, postroadref05_Right.f, object_list.f, object_spec.f, object_specOf.f, postroadref07_object.f]
 repeat' (first | split | simp only [Option.bind_some])
 all_goals first | (simp_all [M_Fault]; done) | (simp_all [M_Fault]; omega) | omega
theorem cw_Fault (x0 x1 x2 : Int) : object_faults_1.f x0 x1 x2 = some [x0, Go.bits .or .i64 (wrap64 (x1 * 65536)) x2] := by
 rfl
theorem rw_Fault (x0 x1 x2 : Int) (h : M_Fault x0 x1 x2 = true) : postroadref07_Fault.f x0 x1 x2 = some (6, 1, [x0, Go.bits .or .i64 (wrap64 (x1 * 65536)) x2]) := by
 have e : Go.bits .or .i64 (wrap64 (x1 * 65536)) x2 = wrap64 ((wrap64 (65536 * x1)) + x2) := by
  simp [M_Fault] at h
  rw [IntWalk.wrap64_in (x1 * 65536) (by omega), IntWalk.wrap64_in (65536 * x1) (by omega), IntWalk.wrap64_in _ (by omega), or_low x1 x2 (by omega) (by omega) (by omega) (by omega)]
  omega
 rw [e]
 rfl
theorem ct_Fault (l : List Int) (h : ((l.length : Nat) : Int) = 2) : object_faults_2.f l = some (rd l 0, rd l 1 / 65536, Go.bits .and .i64 (rd l 1) 65535) := by
 simp only [object_faults_2.f, object_node.f, object_port.f, object_within_int64.f, postroadref07_within.f, tc_, rs_, bound_Check.f, bound_within.f, postroadref05_Right.f, object_list.f, object_spec.f, object_specOf.f, postroadref07_object.f]
 repeat' (first | rw [if_pos (by omega)] | simp only [Option.bind_some])
theorem rt_Fault (x0 x1 x2 : Int) (h : M_Fault x0 x1 x2 = true) : ((rd [x0, Go.bits .or .i64 (wrap64 (x1 * 65536)) x2] 0, rd [x0, Go.bits .or .i64 (wrap64 (x1 * 65536)) x2] 1 / 65536, Go.bits .and .i64 (rd [x0, Go.bits .or .i64 (wrap64 (x1 * 65536)) x2] 1) 65535)) = (((x0, x1, x2)) : Int × Int × Int) := by
 simp [M_Fault] at h
 have e : Go.bits .or .i64 (wrap64 (x1 * 65536)) x2 = x1 * 65536 + x2 := by rw [IntWalk.wrap64_in (x1 * 65536) (by omega), or_low x1 x2 (by omega) (by omega) (by omega) (by omega)]
 rw [e]
 have e1 : (x1 * 65536 + x2) / 65536 = x1 := by omega
 have e2 : Go.bits .and .i64 (x1 * 65536 + x2) 65535 = x2 := by rw [and_low _ (by omega) (by omega)]; omega
 simp [rd, e1, e2]
theorem good_Fault (x0 x1 x2 : Int) : ∃ (m : Bool) (C T E F : Int) (l : List Int) (y0 y1 y2 : Int), object_Fault.f x0 x1 x2 = some (C, T, l, E) ∧ postroadref07_MayFault.f x0 x1 x2 = some m ∧ l.length ≤ 70 ∧ object_AsFault.f C T l = some (y0, y1, y2, F) ∧
  ((m = true ∧ E = 0 ∧ F = 0 ∧ x0 = y0 ∧ x1 = y1 ∧ x2 = y2 ∧ postroadref07_Fault.f x0 x1 x2 = some (C, T, l)) ∨ (m = false ∧ E = 2 ∧ F = 171 ∧ y0 = 0 ∧ y1 = 0 ∧ y2 = 0 ∧ C = 0 ∧ T = 0 ∧ l = [])) := by
 cases hm : M_Fault x0 x1 x2 with
 | true =>
  refine ⟨true, 6, 1, 0, 0, [x0, Go.bits .or .i64 (wrap64 (x1 * 65536)) x2], x0, x1, x2, ?_, by rw [rm_Fault, hm], by simp, ?_, .inl ⟨rfl, rfl, rfl, rfl, rfl, rfl, rw_Fault x0 x1 x2 hm⟩⟩
  ·rw [object_Fault.f, cm_Fault, Option.bind_some, cw_Fault, Option.bind_some, hm]
   rfl
  ·rw [object_AsFault.f, if_pos (by first | exact ⟨rfl, rfl, rfl⟩ | simp), ct_Fault _ rfl, Option.bind_some]
   have hr := rt_Fault x0 x1 x2 hm
   simp only [Prod.mk.injEq] at hr
   obtain ⟨r0, r1, r2⟩ := hr
   simp only [r0, r1, r2]
   rw [cm_Fault, Option.bind_some, cw_Fault, Option.bind_some, hm]
   simp
 | false =>
  refine ⟨false, 0, 0, 2, 171, [], 0, 0, 0, ?_, by rw [rm_Fault, hm], by simp, ?_, .inr ⟨rfl, rfl, rfl, rfl, rfl, rfl, rfl, rfl, rfl⟩⟩
  ·rw [object_Fault.f, cm_Fault, Option.bind_some, cw_Fault, Option.bind_some, hm]
   rfl
  ·rw [object_AsFault.f, if_neg (by simp)]
def M_Style (x0 : Int) : Bool := (decide (1 ≤ x0) && decide (x0 ≤ 3))
theorem cm_Style (x0 : Int) : object_styles_3.f x0 = some (M_Style x0) := by
 simp only [object_styles_3.f, object_node.f, object_port.f, object_within_int64.f, postroadref07_within.f, tc_, rs_, bound_Check.f, bound_within.f, postroadref05_Right.f, object_list.f, object_spec.f, object_specOf.f, postroadref07_object.f]
 simp only [styW, M_Style]
 by_cases h1 : x0 = 1
 ·subst h1; rfl
 ·by_cases h2 : x0 = 2
  ·subst h2; rfl
  ·by_cases h3 : x0 = 3
   ·subst h3; rfl
   ·simp [h1, h2, h3]; omega
theorem rm_Style (x0 : Int) : postroadref07_MayStyle.f x0 = some (M_Style x0) := by
 simp only [postroadref07_MayStyle.f, object_node.f, object_port.f, object_within_int64.f, postroadref07_within.f, tc_, rs_, bound_Check.f, bound_within.f, postroadref05_Right.f, object_list.f, object_spec.f, object_specOf.f, postroadref07_object.f]
 repeat' (first | split | simp only [Option.bind_some])
 all_goals first | (simp_all [M_Style]; done) | (simp_all [M_Style]; omega) | omega
theorem cw_Style (x0 : Int) : object_styles_1.f x0 = some [styW x0] := by
 rfl
theorem rw_Style (x0 : Int) (h : M_Style x0 = true) : postroadref07_Style.f x0 = some (8, 1, [styW x0]) := by
 simp [M_Style] at h
 have h3 : x0 = 1 ∨ x0 = 2 ∨ x0 = 3 := by omega
 rcases h3 with rfl | rfl | rfl <;> rfl
theorem ct_Style (l : List Int) (h : ((l.length : Nat) : Int) = 1) : object_styles_2.f l = some (styT (rd l 0)) := by
 simp only [object_styles_2.f, object_node.f, object_port.f, object_within_int64.f, postroadref07_within.f, tc_, rs_, bound_Check.f, bound_within.f, postroadref05_Right.f, object_list.f, object_spec.f, object_specOf.f, postroadref07_object.f]
 repeat' (first | rw [if_pos (by omega)] | simp only [Option.bind_some])
theorem rt_Style (x0 : Int) (h : M_Style x0 = true) : ((styT (rd [styW x0] 0))) = (((x0)) : Int) := by
 simp [M_Style] at h
 have h3 : x0 = 1 ∨ x0 = 2 ∨ x0 = 3 := by omega
 rcases h3 with rfl | rfl | rfl <;> rfl
theorem good_Style (x0 : Int) : ∃ (m : Bool) (C T E F : Int) (l : List Int) (y0 : Int), object_Style.f x0 = some (C, T, l, E) ∧ postroadref07_MayStyle.f x0 = some m ∧ l.length ≤ 70 ∧ object_AsStyle.f C T l = some (y0, F) ∧
  ((m = true ∧ E = 0 ∧ F = 0 ∧ x0 = y0 ∧ postroadref07_Style.f x0 = some (C, T, l)) ∨ (m = false ∧ E = 2 ∧ F = 171 ∧ y0 = 0 ∧ C = 0 ∧ T = 0 ∧ l = [])) := by
 cases hm : M_Style x0 with
 | true =>
  refine ⟨true, 8, 1, 0, 0, [styW x0], x0, ?_, by rw [rm_Style, hm], by simp, ?_, .inl ⟨rfl, rfl, rfl, rfl, rw_Style x0 hm⟩⟩
  ·rw [object_Style.f, cm_Style, Option.bind_some, cw_Style, Option.bind_some, hm]
   rfl
  ·rw [object_AsStyle.f, if_pos (by first | exact ⟨rfl, rfl, rfl⟩ | simp), ct_Style _ rfl, Option.bind_some]
   have hr := rt_Style x0 hm
   rw [hr]
   rw [cm_Style, Option.bind_some, cw_Style, Option.bind_some, hm]
   simp
 | false =>
  refine ⟨false, 0, 0, 2, 171, [], 0, ?_, by rw [rm_Style, hm], by simp, ?_, .inr ⟨rfl, rfl, rfl, rfl, rfl, rfl, rfl⟩⟩
  ·rw [object_Style.f, cm_Style, Option.bind_some, cw_Style, Option.bind_some, hm]
   rfl
  ·rw [object_AsStyle.f, if_neg (by simp)]
def M_Wish (x0 x1 x2 x3 x4 x5 x6 : Int) : Bool := S_ x0 x1 x2 x3 x4 && (decide (x1 ≤ x5) && decide (x5 ≤ 1000000)) && (decide (0 ≤ x6) && decide (x6 ≤ 1000000))
theorem cm_Wish (x0 x1 x2 x3 x4 x5 x6 : Int) : object_wishes_3.f x0 x1 x2 x3 x4 x5 x6 = some (M_Wish x0 x1 x2 x3 x4 x5 x6) := by
 simp only [object_wishes_3.f, object_node.f, object_port.f, object_within_int64.f, postroadref07_within.f, tc_, rs_, bound_Check.f, bound_within.f, postroadref05_Right.f, object_list.f, object_spec.f, object_specOf.f, postroadref07_object.f]
 try simp only [Option.bind_some]
 cases h : S_ x0 x1 x2 x3 x4 with
 | false => simp [M_Wish, h]
 | true =>
  simp only [if_true, M_Wish, h, Bool.true_and]
  repeat' (first | split | simp only [Option.bind_some])
  all_goals first | (simp_all [M_Wish]; done) | (simp_all [M_Wish]; omega) | omega
theorem rm_Wish (x0 x1 x2 x3 x4 x5 x6 : Int) : postroadref07_MayWish.f x0 x1 x2 x3 x4 x5 x6 = some (M_Wish x0 x1 x2 x3 x4 x5 x6) := by
 simp only [postroadref07_MayWish.f, rs_, postroadref07_within.f, Option.bind_some]
 cases h : S_ x0 x1 x2 x3 x4 with
 | false => simp [M_Wish, h]
 | true =>
  simp only [if_true, M_Wish, h, Bool.true_and]
  repeat' (first | split | simp only [Option.bind_some])
  all_goals first | (simp_all [M_Wish]; done) | (simp_all [M_Wish]; omega) | omega
theorem cw_Wish (x0 x1 x2 x3 x4 x5 x6 : Int) : object_wishes_1.f x0 x1 x2 x3 x4 x5 x6 = some [x1, x2, x0, x4, x3, x5, x6] := by
 simp [object_wishes_1.f, object_spec.f, object_list.f]
theorem rw_Wish (x0 x1 x2 x3 x4 x5 x6 : Int) (h : M_Wish x0 x1 x2 x3 x4 x5 x6 = true) : postroadref07_Wish.f x0 x1 x2 x3 x4 x5 x6 = some (9, 2, [x1, x2, x0, x4, x3, x5, x6]) := by
 rfl
theorem ct_Wish (l : List Int) (h : ((l.length : Nat) : Int) = 7) : object_wishes_2.f l = some (rd l 2, rd l 0, rd l 1, rd l 4, rd l 3, rd l 5, rd l 6) := by
 simp only [object_wishes_2.f, object_node.f, object_port.f, object_within_int64.f, postroadref07_within.f, tc_, rs_, bound_Check.f, bound_within.f, postroadref05_Right.f, object_list.f, object_spec.f, object_specOf.f, postroadref07_object.f]
 repeat' (first | rw [if_pos (by omega)] | simp only [Option.bind_some])
theorem rt_Wish (x0 x1 x2 x3 x4 x5 x6 : Int) (h : M_Wish x0 x1 x2 x3 x4 x5 x6 = true) : ((rd [x1, x2, x0, x4, x3, x5, x6] 2, rd [x1, x2, x0, x4, x3, x5, x6] 0, rd [x1, x2, x0, x4, x3, x5, x6] 1, rd [x1, x2, x0, x4, x3, x5, x6] 4, rd [x1, x2, x0, x4, x3, x5, x6] 3, rd [x1, x2, x0, x4, x3, x5, x6] 5, rd [x1, x2, x0, x4, x3, x5, x6] 6)) = (((x0, x1, x2, x3, x4, x5, x6)) : Int × Int × Int × Int × Int × Int × Int) := by
 rfl
theorem good_Wish (x0 x1 x2 x3 x4 x5 x6 : Int) : ∃ (m : Bool) (C T E F : Int) (l : List Int) (y0 y1 y2 y3 y4 y5 y6 : Int), object_Wish.f x0 x1 x2 x3 x4 x5 x6 = some (C, T, l, E) ∧ postroadref07_MayWish.f x0 x1 x2 x3 x4 x5 x6 = some m ∧ l.length ≤ 70 ∧ object_AsWish.f C T l = some (y0, y1, y2, y3, y4, y5, y6, F) ∧
  ((m = true ∧ E = 0 ∧ F = 0 ∧ x0 = y0 ∧ x1 = y1 ∧ x2 = y2 ∧ x3 = y3 ∧ x4 = y4 ∧ x5 = y5 ∧ x6 = y6 ∧ postroadref07_Wish.f x0 x1 x2 x3 x4 x5 x6 = some (C, T, l)) ∨ (m = false ∧ E = 2 ∧ F = 171 ∧ y0 = 0 ∧ y1 = 0 ∧ y2 = 0 ∧ y3 = 0 ∧ y4 = 0 ∧ y5 = 0 ∧ y6 = 0 ∧ C = 0 ∧ T = 0 ∧ l = [])) := by
 cases hm : M_Wish x0 x1 x2 x3 x4 x5 x6 with
 | true =>
  refine ⟨true, 9, 2, 0, 0, [x1, x2, x0, x4, x3, x5, x6], x0, x1, x2, x3, x4, x5, x6, ?_, by rw [rm_Wish, hm], by simp, ?_, .inl ⟨rfl, rfl, rfl, rfl, rfl, rfl, rfl, rfl, rfl, rfl, rw_Wish x0 x1 x2 x3 x4 x5 x6 hm⟩⟩
  ·rw [object_Wish.f, cm_Wish, Option.bind_some, cw_Wish, Option.bind_some, hm]
   rfl
  ·rw [object_AsWish.f, if_pos (by first | exact ⟨rfl, rfl, rfl⟩ | simp), ct_Wish _ rfl, Option.bind_some]
   have hr := rt_Wish x0 x1 x2 x3 x4 x5 x6 hm
   simp only [Prod.mk.injEq] at hr
   obtain ⟨r0, r1, r2, r3, r4, r5, r6⟩ := hr
   simp only [r0, r1, r2, r3, r4, r5, r6]
   rw [cm_Wish, Option.bind_some, cw_Wish, Option.bind_some, hm]
   simp
 | false =>
  refine ⟨false, 0, 0, 2, 171, [], 0, 0, 0, 0, 0, 0, 0, ?_, by rw [rm_Wish, hm], by simp, ?_, .inr ⟨rfl, rfl, rfl, rfl, rfl, rfl, rfl, rfl, rfl, rfl, rfl, rfl, rfl⟩⟩
  ·rw [object_Wish.f, cm_Wish, Option.bind_some, cw_Wish, Option.bind_some, hm]
   rfl
  ·rw [object_AsWish.f, if_neg (by simp)]
def M_Filter (x0 x1 : Int) : Bool := (decide (0 ≤ x0) && decide (x0 ≤ 15)) && (decide (1 ≤ x1) && decide (x1 ≤ 65535))
theorem cm_Filter (x0 x1 : Int) : object_senders_3.f x0 x1 = some (M_Filter x0 x1) := by
 simp only [object_senders_3.f, object_node.f, object_port.f, object_within_int64.f, postroadref07_within.f, tc_, rs_, bound_Check.f, bound_within.f, postroadref05_Right.f, object_list.f, object_spec.f, object_specOf.f, postroadref07_object.f]
 repeat' (first | split | simp only [Option.bind_some])
 all_goals first | (simp_all [M_Filter]; done) | (simp_all [M_Filter]; omega) | omega
theorem rm_Filter (x0 x1 : Int) : postroadref07_MaySender.f x0 x1 = some (M_Filter x0 x1) := by
 simp only [postroadref07_MaySender.f, object_node.f, object_port.f, object_within_int64.f, postroadref07_within.f, tc_, rs_, bound_Check.f, bound_within.f, postroadref05_Right.f, object_list.f, object_spec.f, object_specOf.f, postroadref07_object.f]
 repeat' (first | split | simp only [Option.bind_some])
 all_goals first | (simp_all [M_Filter]; done) | (simp_all [M_Filter]; omega) | omega
theorem cw_Filter (x0 x1 : Int) : object_senders_1.f x0 x1 = some [x0, x1] := by
 rfl
theorem rw_Filter (x0 x1 : Int) (h : M_Filter x0 x1 = true) : postroadref07_Filter.f x0 x1 = some (10, 1, [x0, x1]) := by
 rfl
theorem ct_Filter (l : List Int) (h : ((l.length : Nat) : Int) = 2) : object_senders_2.f l = some (rd l 0, rd l 1) := by
 simp only [object_senders_2.f, object_node.f, object_port.f, object_within_int64.f, postroadref07_within.f, tc_, rs_, bound_Check.f, bound_within.f, postroadref05_Right.f, object_list.f, object_spec.f, object_specOf.f, postroadref07_object.f]
 repeat' (first | rw [if_pos (by omega)] | simp only [Option.bind_some])
theorem rt_Filter (x0 x1 : Int) (h : M_Filter x0 x1 = true) : ((rd [x0, x1] 0, rd [x0, x1] 1)) = (((x0, x1)) : Int × Int) := by
 rfl
theorem good_Filter (x0 x1 : Int) : ∃ (m : Bool) (C T E F : Int) (l : List Int) (y0 y1 : Int), object_Filter.f x0 x1 = some (C, T, l, E) ∧ postroadref07_MaySender.f x0 x1 = some m ∧ l.length ≤ 70 ∧ object_AsFilter.f C T l = some (y0, y1, F) ∧
  ((m = true ∧ E = 0 ∧ F = 0 ∧ x0 = y0 ∧ x1 = y1 ∧ postroadref07_Filter.f x0 x1 = some (C, T, l)) ∨ (m = false ∧ E = 2 ∧ F = 171 ∧ y0 = 0 ∧ y1 = 0 ∧ C = 0 ∧ T = 0 ∧ l = [])) := by
 cases hm : M_Filter x0 x1 with
 | true =>
  refine ⟨true, 10, 1, 0, 0, [x0, x1], x0, x1, ?_, by rw [rm_Filter, hm], by simp, ?_, .inl ⟨rfl, rfl, rfl, rfl, rfl, rw_Filter x0 x1 hm⟩⟩
  ·rw [object_Filter.f, cm_Filter, Option.bind_some, cw_Filter, Option.bind_some, hm]
   rfl
  ·rw [object_AsFilter.f, if_pos (by first | exact ⟨rfl, rfl, rfl⟩ | simp), ct_Filter _ rfl, Option.bind_some]
   have hr := rt_Filter x0 x1 hm
   simp only [Prod.mk.injEq] at hr
   obtain ⟨r0, r1⟩ := hr
   simp only [r0, r1]
   rw [cm_Filter, Option.bind_some, cw_Filter, Option.bind_some, hm]
   simp
 | false =>
  refine ⟨false, 0, 0, 2, 171, [], 0, 0, ?_, by rw [rm_Filter, hm], by simp, ?_, .inr ⟨rfl, rfl, rfl, rfl, rfl, rfl, rfl, rfl⟩⟩
  ·rw [object_Filter.f, cm_Filter, Option.bind_some, cw_Filter, Option.bind_some, hm]
   rfl
  ·rw [object_AsFilter.f, if_neg (by simp)]
def M_Sender (x0 x1 : Int) : Bool := (decide (0 ≤ x0) && decide (x0 ≤ 15)) && (decide (1 ≤ x1) && decide (x1 ≤ 65535))
theorem cm_Sender (x0 x1 : Int) : object_senders_3.f x0 x1 = some (M_Sender x0 x1) := by
 simp only [object_senders_3.f, object_node.f, object_port.f, object_within_int64.f, postroadref07_within.f, tc_, rs_, bound_Check.f, bound_within.f, postroadref05_Right.f, object_list.f, object_spec.f, object_specOf.f, postroadref07_object.f]
 repeat' (first | split | simp only [Option.bind_some])
 all_goals first | (simp_all [M_Sender]; done) | (simp_all [M_Sender]; omega) | omega
theorem rm_Sender (x0 x1 : Int) : postroadref07_MaySender.f x0 x1 = some (M_Sender x0 x1) := by
 simp only [postroadref07_MaySender.f, object_node.f, object_port.f, object_within_int64.f, postroadref07_within.f, tc_, rs_, bound_Check.f, bound_within.f, postroadref05_Right.f, object_list.f, object_spec.f, object_specOf.f, postroadref07_object.f]
 repeat' (first | split | simp only [Option.bind_some])
 all_goals first | (simp_all [M_Sender]; done) | (simp_all [M_Sender]; omega) | omega
theorem cw_Sender (x0 x1 : Int) : object_senders_1.f x0 x1 = some [x0, x1] := by
 rfl
theorem rw_Sender (x0 x1 : Int) (h : M_Sender x0 x1 = true) : postroadref07_Sender.f x0 x1 = some (11, 1, [x0, x1]) := by
 rfl
theorem ct_Sender (l : List Int) (h : ((l.length : Nat) : Int) = 2) : object_senders_2.f l = some (rd l 0, rd l 1) := by
 simp only [object_senders_2.f, object_node.f, object_port.f, object_within_int64.f, postroadref07_within.f, tc_, rs_, bound_Check.f, bound_within.f, postroadref05_Right.f, object_list.f, object_spec.f, object_specOf.f, postroadref07_object.f]
 repeat' (first | rw [if_pos (by omega)] | simp only [Option.bind_some])
theorem rt_Sender (x0 x1 : Int) (h : M_Sender x0 x1 = true) : ((rd [x0, x1] 0, rd [x0, x1] 1)) = (((x0, x1)) : Int × Int) := by
 rfl
theorem good_Sender (x0 x1 : Int) : ∃ (m : Bool) (C T E F : Int) (l : List Int) (y0 y1 : Int), object_Sender.f x0 x1 = some (C, T, l, E) ∧ postroadref07_MaySender.f x0 x1 = some m ∧ l.length ≤ 70 ∧ object_AsSender.f C T l = some (y0, y1, F) ∧
  ((m = true ∧ E = 0 ∧ F = 0 ∧ x0 = y0 ∧ x1 = y1 ∧ postroadref07_Sender.f x0 x1 = some (C, T, l)) ∨ (m = false ∧ E = 2 ∧ F = 171 ∧ y0 = 0 ∧ y1 = 0 ∧ C = 0 ∧ T = 0 ∧ l = [])) := by
 cases hm : M_Sender x0 x1 with
 | true =>
  refine ⟨true, 11, 1, 0, 0, [x0, x1], x0, x1, ?_, by rw [rm_Sender, hm], by simp, ?_, .inl ⟨rfl, rfl, rfl, rfl, rfl, rw_Sender x0 x1 hm⟩⟩
  ·rw [object_Sender.f, cm_Sender, Option.bind_some, cw_Sender, Option.bind_some, hm]
   rfl
  ·rw [object_AsSender.f, if_pos (by first | exact ⟨rfl, rfl, rfl⟩ | simp), ct_Sender _ rfl, Option.bind_some]
   have hr := rt_Sender x0 x1 hm
   simp only [Prod.mk.injEq] at hr
   obtain ⟨r0, r1⟩ := hr
   simp only [r0, r1]
   rw [cm_Sender, Option.bind_some, cw_Sender, Option.bind_some, hm]
   simp
 | false =>
  refine ⟨false, 0, 0, 2, 171, [], 0, 0, ?_, by rw [rm_Sender, hm], by simp, ?_, .inr ⟨rfl, rfl, rfl, rfl, rfl, rfl, rfl, rfl⟩⟩
  ·rw [object_Sender.f, cm_Sender, Option.bind_some, cw_Sender, Option.bind_some, hm]
   rfl
  ·rw [object_AsSender.f, if_neg (by simp)]
def M_Spec (x0 x1 x2 x3 x4 : Int) : Bool := S_ x0 x1 x2 x3 x4
theorem cm_Spec (x0 x1 x2 x3 x4 : Int) : object_specs_1.f x0 x1 x2 x3 x4 = some (M_Spec x0 x1 x2 x3 x4) := by
 simp only [object_specs_1.f, object_node.f, object_port.f, object_within_int64.f, postroadref07_within.f, tc_, rs_, bound_Check.f, bound_within.f, postroadref05_Right.f, object_list.f, object_spec.f, object_specOf.f, postroadref07_object.f]
 try simp only [Option.bind_some]
 cases h : S_ x0 x1 x2 x3 x4 <;> simp [M_Spec, h]
theorem rm_Spec (x0 x1 x2 x3 x4 : Int) : postroadref02_Right.f x0 x1 x2 x3 x4 = some (M_Spec x0 x1 x2 x3 x4) := by
 exact rs_ _ _ _ _ _
theorem cw_Spec (x0 x1 x2 x3 x4 : Int) : object_spec.f x0 x1 x2 x3 x4 = some [x1, x2, x0, x4, x3] := by
 rfl
theorem rw_Spec (x0 x1 x2 x3 x4 : Int) (h : M_Spec x0 x1 x2 x3 x4 = true) : postroadref07_Spec.f x0 x1 x2 x3 x4 = some (12, 2, [x1, x2, x0, x4, x3]) := by
 rfl
theorem ct_Spec (l : List Int) (h : ((l.length : Nat) : Int) = 5) : object_specOf.f l = some (rd l 2, rd l 0, rd l 1, rd l 4, rd l 3) := by
 simp only [object_specOf.f, object_node.f, object_port.f, object_within_int64.f, postroadref07_within.f, tc_, rs_, bound_Check.f, bound_within.f, postroadref05_Right.f, object_list.f, object_spec.f, object_specOf.f, postroadref07_object.f]
 repeat' (first | rw [if_pos (by omega)] | simp only [Option.bind_some])
theorem rt_Spec (x0 x1 x2 x3 x4 : Int) (h : M_Spec x0 x1 x2 x3 x4 = true) : ((rd [x1, x2, x0, x4, x3] 2, rd [x1, x2, x0, x4, x3] 0, rd [x1, x2, x0, x4, x3] 1, rd [x1, x2, x0, x4, x3] 4, rd [x1, x2, x0, x4, x3] 3)) = (((x0, x1, x2, x3, x4)) : Int × Int × Int × Int × Int) := by
 rfl
theorem good_Spec (x0 x1 x2 x3 x4 : Int) : ∃ (m : Bool) (C T E F : Int) (l : List Int) (y0 y1 y2 y3 y4 : Int), object_Spec.f x0 x1 x2 x3 x4 = some (C, T, l, E) ∧ postroadref02_Right.f x0 x1 x2 x3 x4 = some m ∧ l.length ≤ 70 ∧ object_AsSpec.f C T l = some (y0, y1, y2, y3, y4, F) ∧
  ((m = true ∧ E = 0 ∧ F = 0 ∧ x0 = y0 ∧ x1 = y1 ∧ x2 = y2 ∧ x3 = y3 ∧ x4 = y4 ∧ postroadref07_Spec.f x0 x1 x2 x3 x4 = some (C, T, l)) ∨ (m = false ∧ E = 2 ∧ F = 171 ∧ y0 = 0 ∧ y1 = 0 ∧ y2 = 0 ∧ y3 = 0 ∧ y4 = 0 ∧ C = 0 ∧ T = 0 ∧ l = [])) := by
 cases hm : M_Spec x0 x1 x2 x3 x4 with
 | true =>
  refine ⟨true, 12, 2, 0, 0, [x1, x2, x0, x4, x3], x0, x1, x2, x3, x4, ?_, by rw [rm_Spec, hm], by simp, ?_, .inl ⟨rfl, rfl, rfl, rfl, rfl, rfl, rfl, rfl, rw_Spec x0 x1 x2 x3 x4 hm⟩⟩
  ·rw [object_Spec.f, cm_Spec, Option.bind_some, cw_Spec, Option.bind_some, hm]
   rfl
  ·rw [object_AsSpec.f, if_pos (by first | exact ⟨rfl, rfl, rfl⟩ | simp), ct_Spec _ rfl, Option.bind_some]
   have hr := rt_Spec x0 x1 x2 x3 x4 hm
   simp only [Prod.mk.injEq] at hr
   obtain ⟨r0, r1, r2, r3, r4⟩ := hr
   simp only [r0, r1, r2, r3, r4]
   rw [cm_Spec, Option.bind_some, cw_Spec, Option.bind_some, hm]
   simp
 | false =>
  refine ⟨false, 0, 0, 2, 171, [], 0, 0, 0, 0, 0, ?_, by rw [rm_Spec, hm], by simp, ?_, .inr ⟨rfl, rfl, rfl, rfl, rfl, rfl, rfl, rfl, rfl, rfl, rfl⟩⟩
  ·rw [object_Spec.f, cm_Spec, Option.bind_some, cw_Spec, Option.bind_some, hm]
   rfl
  ·rw [object_AsSpec.f, if_neg (by simp)]
def M_Terms (x0 x1 : Int) : Bool := (decide (0 ≤ x0) && decide (x0 ≤ 10000000)) && (decide (0 ≤ x1) && decide (x1 ≤ 1000000))
theorem cm_Terms (x0 x1 : Int) : object_terms_3.f x0 x1 = some (M_Terms x0 x1) := by
 simp only [object_terms_3.f, object_node.f, object_port.f, object_within_int64.f, postroadref07_within.f, tc_, rs_, bound_Check.f, bound_within.f, postroadref05_Right.f, object_list.f, object_spec.f, object_specOf.f, postroadref07_object.f]
 repeat' (first | split | simp only [Option.bind_some])
 all_goals first | (simp_all [M_Terms]; done) | (simp_all [M_Terms]; omega) | omega
theorem rm_Terms (x0 x1 : Int) : postroadref07_MayTerms.f x0 x1 = some (M_Terms x0 x1) := by
 simp only [postroadref07_MayTerms.f, object_node.f, object_port.f, object_within_int64.f, postroadref07_within.f, tc_, rs_, bound_Check.f, bound_within.f, postroadref05_Right.f, object_list.f, object_spec.f, object_specOf.f, postroadref07_object.f]
 repeat' (first | split | simp only [Option.bind_some])
 all_goals first | (simp_all [M_Terms]; done) | (simp_all [M_Terms]; omega) | omega
theorem cw_Terms (x0 x1 : Int) : object_terms_1.f x0 x1 = some [x0, x1] := by
 rfl
theorem rw_Terms (x0 x1 : Int) (h : M_Terms x0 x1 = true) : postroadref07_Terms.f x0 x1 = some (13, 2, [x0, x1]) := by
 rfl
theorem ct_Terms (l : List Int) (h : ((l.length : Nat) : Int) = 2) : object_terms_2.f l = some (rd l 0, rd l 1) := by
 simp only [object_terms_2.f, object_node.f, object_port.f, object_within_int64.f, postroadref07_within.f, tc_, rs_, bound_Check.f, bound_within.f, postroadref05_Right.f, object_list.f, object_spec.f, object_specOf.f, postroadref07_object.f]
 repeat' (first | rw [if_pos (by omega)] | simp only [Option.bind_some])
theorem rt_Terms (x0 x1 : Int) (h : M_Terms x0 x1 = true) : ((rd [x0, x1] 0, rd [x0, x1] 1)) = (((x0, x1)) : Int × Int) := by
 rfl
theorem good_Terms (x0 x1 : Int) : ∃ (m : Bool) (C T E F : Int) (l : List Int) (y0 y1 : Int), object_Terms.f x0 x1 = some (C, T, l, E) ∧ postroadref07_MayTerms.f x0 x1 = some m ∧ l.length ≤ 70 ∧ object_AsTerms.f C T l = some (y0, y1, F) ∧
  ((m = true ∧ E = 0 ∧ F = 0 ∧ x0 = y0 ∧ x1 = y1 ∧ postroadref07_Terms.f x0 x1 = some (C, T, l)) ∨ (m = false ∧ E = 2 ∧ F = 171 ∧ y0 = 0 ∧ y1 = 0 ∧ C = 0 ∧ T = 0 ∧ l = [])) := by
 cases hm : M_Terms x0 x1 with
 | true =>
  refine ⟨true, 13, 2, 0, 0, [x0, x1], x0, x1, ?_, by rw [rm_Terms, hm], by simp, ?_, .inl ⟨rfl, rfl, rfl, rfl, rfl, rw_Terms x0 x1 hm⟩⟩
  ·rw [object_Terms.f, cm_Terms, Option.bind_some, cw_Terms, Option.bind_some, hm]
   rfl
  ·rw [object_AsTerms.f, if_pos (by first | exact ⟨rfl, rfl, rfl⟩ | simp), ct_Terms _ rfl, Option.bind_some]
   have hr := rt_Terms x0 x1 hm
   simp only [Prod.mk.injEq] at hr
   obtain ⟨r0, r1⟩ := hr
   simp only [r0, r1]
   rw [cm_Terms, Option.bind_some, cw_Terms, Option.bind_some, hm]
   simp
 | false =>
  refine ⟨false, 0, 0, 2, 171, [], 0, 0, ?_, by rw [rm_Terms, hm], by simp, ?_, .inr ⟨rfl, rfl, rfl, rfl, rfl, rfl, rfl, rfl⟩⟩
  ·rw [object_Terms.f, cm_Terms, Option.bind_some, cw_Terms, Option.bind_some, hm]
   rfl
  ·rw [object_AsTerms.f, if_neg (by simp)]
def M_Tell (x0 : Int) : Bool := (decide (0 ≤ x0) && decide (x0 ≤ 15))
theorem rm_Tell (x0 : Int) : postroadref07_MayTell.f x0 = some (M_Tell x0) := by
 simp only [postroadref07_MayTell.f, object_node.f, object_port.f, object_within_int64.f, postroadref07_within.f, tc_, rs_, bound_Check.f, bound_within.f, postroadref05_Right.f, object_list.f, object_spec.f, object_specOf.f, postroadref07_object.f]
 repeat' (first | split | simp only [Option.bind_some])
 all_goals first | (simp_all [M_Tell]; done) | (simp_all [M_Tell]; omega) | omega
theorem cw_Tell (x0 : Int) : object_numbers_1.f x0 = some [x0] := by
 rfl
theorem rw_Tell (x0 : Int) (h : M_Tell x0 = true) : postroadref07_Tell.f x0 = some (15, 1, [x0]) := by
 rfl
theorem ct_Tell (l : List Int) (h : ((l.length : Nat) : Int) = 1) : object_numbers_2.f l = some (rd l 0) := by
 simp only [object_numbers_2.f, object_node.f, object_port.f, object_within_int64.f, postroadref07_within.f, tc_, rs_, bound_Check.f, bound_within.f, postroadref05_Right.f, object_list.f, object_spec.f, object_specOf.f, postroadref07_object.f]
 repeat' (first | rw [if_pos (by omega)] | simp only [Option.bind_some])
theorem rt_Tell (x0 : Int) (h : M_Tell x0 = true) : ((rd [x0] 0)) = (((x0)) : Int) := by
 rfl
theorem good_Tell (x0 : Int) : ∃ (m : Bool) (C T E F : Int) (l : List Int) (y0 : Int), object_Tell.f x0 = some (C, T, l, E) ∧ postroadref07_MayTell.f x0 = some m ∧ l.length ≤ 70 ∧ object_AsTell.f C T l = some (y0, F) ∧
  ((m = true ∧ E = 0 ∧ F = 0 ∧ x0 = y0 ∧ postroadref07_Tell.f x0 = some (C, T, l)) ∨ (m = false ∧ E = 2 ∧ F = 171 ∧ y0 = 0 ∧ C = 0 ∧ T = 0 ∧ l = [])) := by
 cases hm : M_Tell x0 with
 | true =>
  refine ⟨true, 15, 1, 0, 0, [x0], x0, ?_, by rw [rm_Tell, hm], by simp, ?_, .inl ⟨rfl, rfl, rfl, rfl, rw_Tell x0 hm⟩⟩
  ·rw [object_Tell.f, show (some (inB x0 0 15) : Option Bool) = some (M_Tell x0) from rfl, Option.bind_some, cw_Tell, Option.bind_some, hm]
   rfl
  ·rw [object_AsTell.f, if_pos (by first | exact ⟨rfl, rfl, rfl⟩ | simp), ct_Tell _ rfl, Option.bind_some]
   have hr := rt_Tell x0 hm
   rw [hr]
   rw [show (some (inB x0 0 15) : Option Bool) = some (M_Tell x0) from rfl, Option.bind_some, cw_Tell, Option.bind_some, hm]
   simp
 | false =>
  refine ⟨false, 0, 0, 2, 171, [], 0, ?_, by rw [rm_Tell, hm], by simp, ?_, .inr ⟨rfl, rfl, rfl, rfl, rfl, rfl, rfl⟩⟩
  ·rw [object_Tell.f, show (some (inB x0 0 15) : Option Bool) = some (M_Tell x0) from rfl, Option.bind_some, cw_Tell, Option.bind_some, hm]
   rfl
  ·rw [object_AsTell.f, if_neg (by simp)]
end Go.Proofs.YtecghmlojllkdaaGreat.P

import Derived.Test.YtecghmlojllkdaaGreatTl1
import Derived.Test.YtecghmlojllkdaaGreatTl26
namespace Go.Proofs.YtecghmlojllkdaaGreat.P
open Go.RowKit Go.Proofs.YtecghmlojllkdaaGreatW.PrintWords Go.Proofs.YtecghmlojllkdaaGreatW.PrintLast
set_option linter.unusedVariables false
set_option linter.unusedSimpArgs false
def bound_Check.f (a0_0 : Int) (a0_1 : Int) : Option (Int) := (bound_within.f a0_0 0 10000000).bind fun t1158 => (if t1158 = true then ((bound_within.f a0_1 0 1000000).bind fun t1159 => (if t1159 = true then (some 0) else (some 2))) else (some 2))
set_option maxHeartbeats 8000000 in
set_option maxRecDepth 100000 in
theorem bound_Check.calls (a0_0 : Int) (a0_1 : Int) (r : Int) (w : World) (h : bound_Check.f a0_0 a0_1 = some r) :
  Calls Tryz.prog 199 #[.agg #[.int .i64 a0_0, .int .i64 a0_1]] w fun e w' => e = .returned (.int .i64 r) ∧ Below w.heap.size w w' := by
 have hu68 := Tryz.underlying68
 have HB := Aside0.mk (Below.refl w.heap.size w)
 have H : ((bound_within.f a0_0 0 10000000).bind fun t1158 => (if t1158 = true then ((bound_within.f a0_1 0 1000000).bind fun t1159 => (if t1159 = true then (some 0) else (some 2))) else (some 2))) = some r := h
 clear h
 replace H := Option.bind_eq_some_iff.mp H
 obtain ⟨t1158, A20, H⟩ := H
 replace H : (if t1158 = true then ((bound_within.f a0_1 0 1000000).bind fun t1159 => (if t1159 = true then (some 0) else (some 2))) else (some 2)) = some r := H
 have A2 := Aside0.mk A20
 clear A20
 by_cases c3 : t1158 = true
 ·subst c3
  have H1 : ((bound_within.f a0_1 0 1000000).bind fun t1159 => (if t1159 = true then (some 0) else (some 2))) = some r := by rw [if_pos rfl] at H; exact H
  clear H
  have H := H1
  clear H1
  replace H := Option.bind_eq_some_iff.mp H
  obtain ⟨t1159, A40, H⟩ := H
  replace H : (if t1159 = true then (some 0) else (some 2)) = some r := H
  have A4 := Aside0.mk A40
  clear A40
  by_cases c5 : t1159 = true
  ·subst c5
   have H1 : (some 0) = some r := by rw [if_pos rfl] at H; exact H
   clear H
   have H := H1
   clear H1
   obtain rfl := Option.some.inj H
   go_enter Tryz.func199, Tryz.ntmps199
   go_wp2_with (first | ((with_reducible refine gate_dst (N := 1) rfl ?_); refine box_event ?hg (N := 1) ?hd (cs := #[.int .i64 a0_0, .int .i64 a0_1]) (t := 68) ?hr ?_; (case hd => rfl); (case hg => rfl); (case hr => first | (go_simp; done) | (go_simp; rfl)); intro gb1157 hg w6 hbox hb; have n0_ := Aside0.mk (below_step (by repeat (first | (with_reducible first | exact HB.out | apply below_alloc | apply pw_below_drewN | apply below_drew1) | exact HB.out)) hb); have n1_ := Aside0.mk (hbox); have n2_ := Aside0.mk ((by rw [hg]; exact (below_size (by repeat (first | (with_reducible first | exact HB.out | apply below_alloc | apply pw_below_drewN | apply below_drew1) | exact HB.out))) : w.heap.size ≤ gb1157)); have n3_ := Aside0.mk ((by rw [hg]; exact (below_size (by repeat (first | (with_reducible first | exact HB.out | apply below_alloc | apply pw_below_drewN | apply below_drew1) | exact HB.out))) : w.heap.size ≤ gb1157)); clear HB; have HB := n0_; have BK1157 := n1_; have GW1157 := n2_; have GE1157 := n3_; clear n0_ n1_ n2_ n3_; clear hb hbox hg; have hcz7_0 := cZ BK1157.out 0 (.int .i64 a0_0) rfl; have hcz7_1 := cZ BK1157.out 1 (.int .i64 a0_1) rfl; have hfz7_0 := blk_frozen BK1157.out 0; have hfz7_1 := blk_frozen BK1157.out 1) | ((with_reducible refine gate_callee (f := 260) rfl ?_); refine goesL_ (some 5) rfl rfl Tryz.func260 (by kernel_rfl) rfl #[.int .i64 a0_0, .int .i64 0, .int .i64 10000000] rfl (by (try simp only [mT, mC, mN]); first | done | rfl | (simp only [List.length_drop, List.length_take]; rfl)) ?_; (with_reducible refine (bound_within.calls a0_0 0 10000000 true _ A2.out).mono ?_); rintro e w' ⟨rfl, ⟨nd, rfl⟩⟩; refine ⟨_, rfl, ?_⟩) | (go_at_call 260; (with_reducible refine (bound_within.calls a0_1 0 1000000 true _ A4.out).mono ?_); rintro e w' ⟨rfl, ⟨nd, rfl⟩⟩))
   go_ret
   exact ⟨by first | rfl | (simp [errW_none, errW_some] <;> rfl) | (simp [*, errW_none, errW_some] <;> rfl), by repeat (first | (with_reducible first | exact HB.out | apply below_alloc | apply pw_below_drewN | apply below_drew1 | refine below_set ?_ GE1157.out) | exact HB.out)⟩
  ·replace c5 := Bool.eq_false_iff.mpr c5
   subst c5
   have H1 : (some 2) = some r := by rw [if_neg (show ¬ (false = true) by decide)] at H; exact H
   clear H
   have H := H1
   clear H1
   obtain rfl := Option.some.inj H
   go_enter Tryz.func199, Tryz.ntmps199
   go_wp2_with (first | ((with_reducible refine gate_dst (N := 1) rfl ?_); refine box_event ?hg (N := 1) ?hd (cs := #[.int .i64 a0_0, .int .i64 a0_1]) (t := 68) ?hr ?_; (case hd => rfl); (case hg => rfl); (case hr => first | (go_simp; done) | (go_simp; rfl)); intro gb1157 hg w8 hbox hb; have n0_ := Aside0.mk (below_step (by repeat (first | (with_reducible first | exact HB.out | apply below_alloc | apply pw_below_drewN | apply below_drew1) | exact HB.out)) hb); have n1_ := Aside0.mk (hbox); have n2_ := Aside0.mk ((by rw [hg]; exact (below_size (by repeat (first | (with_reducible first | exact HB.out | apply below_alloc | apply pw_below_drewN | apply below_drew1) | exact HB.out))) : w.heap.size ≤ gb1157)); have n3_ := Aside0.mk ((by rw [hg]; exact (below_size (by repeat (first | (with_reducible first | exact HB.out | apply below_alloc | apply pw_below_drewN | apply below_drew1) | exact HB.out))) : w.heap.size ≤ gb1157)); clear HB; have HB := n0_; have BK1157 := n1_; have GW1157 := n2_; have GE1157 := n3_; clear n0_ n1_ n2_ n3_; clear hb hbox hg; have hcz9_0 := cZ BK1157.out 0 (.int .i64 a0_0) rfl; have hcz9_1 := cZ BK1157.out 1 (.int .i64 a0_1) rfl; have hfz9_0 := blk_frozen BK1157.out 0; have hfz9_1 := blk_frozen BK1157.out 1) | ((with_reducible refine gate_callee (f := 260) rfl ?_); refine goesL_ (some 5) rfl rfl Tryz.func260 (by kernel_rfl) rfl #[.int .i64 a0_0, .int .i64 0, .int .i64 10000000] rfl (by (try simp only [mT, mC, mN]); first | done | rfl | (simp only [List.length_drop, List.length_take]; rfl)) ?_; (with_reducible refine (bound_within.calls a0_0 0 10000000 true _ A2.out).mono ?_); rintro e w' ⟨rfl, ⟨nd, rfl⟩⟩; refine ⟨_, rfl, ?_⟩) | (go_at_call 260; (with_reducible refine (bound_within.calls a0_1 0 1000000 false _ A4.out).mono ?_); rintro e w' ⟨rfl, ⟨nd, rfl⟩⟩))
   go_ret
   exact ⟨by first | rfl | (simp [errW_none, errW_some] <;> rfl) | (simp [*, errW_none, errW_some] <;> rfl), by repeat (first | (with_reducible first | exact HB.out | apply below_alloc | apply pw_below_drewN | apply below_drew1 | refine below_set ?_ GE1157.out) | exact HB.out)⟩
 ·replace c3 := Bool.eq_false_iff.mpr c3
  subst c3
  have H1 : (some 2) = some r := by rw [if_neg (show ¬ (false = true) by decide)] at H; exact H
  clear H
  have H := H1
  clear H1
  obtain rfl := Option.some.inj H
  go_enter Tryz.func199, Tryz.ntmps199
  go_wp2_with (first | ((with_reducible refine gate_dst (N := 1) rfl ?_); refine box_event ?hg (N := 1) ?hd (cs := #[.int .i64 a0_0, .int .i64 a0_1]) (t := 68) ?hr ?_; (case hd => rfl); (case hg => rfl); (case hr => first | (go_simp; done) | (go_simp; rfl)); intro gb1157 hg w10 hbox hb; have n0_ := Aside0.mk (below_step (by repeat (first | (with_reducible first | exact HB.out | apply below_alloc | apply pw_below_drewN | apply below_drew1) | exact HB.out)) hb); have n1_ := Aside0.mk (hbox); have n2_ := Aside0.mk ((by rw [hg]; exact (below_size (by repeat (first | (with_reducible first | exact HB.out | apply below_alloc | apply pw_below_drewN | apply below_drew1) | exact HB.out))) : w.heap.size ≤ gb1157)); have n3_ := Aside0.mk ((by rw [hg]; exact (below_size (by repeat (first | (with_reducible first | exact HB.out | apply below_alloc | apply pw_below_drewN | apply below_drew1) | exact HB.out))) : w.heap.size ≤ gb1157)); clear HB; have HB := n0_; have BK1157 := n1_; have GW1157 := n2_; have GE1157 := n3_; clear n0_ n1_ n2_ n3_; clear hb hbox hg; have hcz11_0 := cZ BK1157.out 0 (.int .i64 a0_0) rfl; have hcz11_1 := cZ BK1157.out 1 (.int .i64 a0_1) rfl; have hfz11_0 := blk_frozen BK1157.out 0; have hfz11_1 := blk_frozen BK1157.out 1) | ((with_reducible refine gate_callee (f := 260) rfl ?_); refine goesL_ (some 5) rfl rfl Tryz.func260 (by kernel_rfl) rfl #[.int .i64 a0_0, .int .i64 0, .int .i64 10000000] rfl (by (try simp only [mT, mC, mN]); first | done | rfl | (simp only [List.length_drop, List.length_take]; rfl)) ?_; (with_reducible refine (bound_within.calls a0_0 0 10000000 false _ A2.out).mono ?_); rintro e w' ⟨rfl, ⟨nd, rfl⟩⟩; refine ⟨_, rfl, ?_⟩))
  go_ret
  exact ⟨by first | rfl | (simp [errW_none, errW_some] <;> rfl) | (simp [*, errW_none, errW_some] <;> rfl), by repeat (first | (with_reducible first | exact HB.out | apply below_alloc | apply pw_below_drewN | apply below_drew1 | refine below_set ?_ GE1157.out) | exact HB.out)⟩
def object_terms_3.f (a0_0 : Int) (a0_1 : Int) : Option (Bool) := (bound_Check.f a0_0 a0_1).bind fun t1161 => (some (t1161 == 0))
set_option maxHeartbeats 8000000 in
set_option maxRecDepth 100000 in
theorem object_terms_3.calls (a0_0 : Int) (a0_1 : Int) (r : Bool) (w : World) (h : object_terms_3.f a0_0 a0_1 = some r) :
  Calls Tryz.prog 198 #[.agg #[.int .i64 a0_0, .int .i64 a0_1]] w fun e w' => e = .returned (.bool r) ∧ Below w.heap.size w w' := by
 have hu68 := Tryz.underlying68
 have HB := Aside0.mk (Below.refl w.heap.size w)
 have H : ((bound_Check.f a0_0 a0_1).bind fun t1161 => (some (t1161 == 0))) = some r := h
 clear h
 replace H := Option.bind_eq_some_iff.mp H
 obtain ⟨t1161, A20, H⟩ := H
 replace H : (some (t1161 == 0)) = some r := H
 have A2 := Aside0.mk A20
 clear A20
 obtain rfl := Option.some.inj H
 go_enter Tryz.func198, Tryz.ntmps198
 go_wp2_with (first | ((with_reducible refine gate_dst (N := 1) rfl ?_); refine box_event ?hg (N := 1) ?hd (cs := #[.int .i64 a0_0, .int .i64 a0_1]) (t := 68) ?hr ?_; (case hd => rfl); (case hg => rfl); (case hr => first | (go_simp; done) | (go_simp; rfl)); intro gb1160 hg w3 hbox hb; have n0_ := Aside0.mk (below_step (by repeat (first | (with_reducible first | exact HB.out | apply below_alloc | apply pw_below_drewN | apply below_drew1) | exact HB.out)) hb); have n1_ := Aside0.mk (hbox); have n2_ := Aside0.mk ((by rw [hg]; exact (below_size (by repeat (first | (with_reducible first | exact HB.out | apply below_alloc | apply pw_below_drewN | apply below_drew1) | exact HB.out))) : w.heap.size ≤ gb1160)); have n3_ := Aside0.mk ((by rw [hg]; exact (below_size (by repeat (first | (with_reducible first | exact HB.out | apply below_alloc | apply pw_below_drewN | apply below_drew1) | exact HB.out))) : w.heap.size ≤ gb1160)); clear HB; have HB := n0_; have BK1160 := n1_; have GW1160 := n2_; have GE1160 := n3_; clear n0_ n1_ n2_ n3_; clear hb hbox hg; have hcz4_0 := cZ BK1160.out 0 (.int .i64 a0_0) rfl; have hcz4_1 := cZ BK1160.out 1 (.int .i64 a0_1) rfl; have hfz4_0 := blk_frozen BK1160.out 0; have hfz4_1 := blk_frozen BK1160.out 1) | ((with_reducible refine gate_callee (f := 199) rfl ?_); refine goesL_ (some 4) rfl rfl Tryz.func199 (by kernel_rfl) rfl #[.agg #[.int .i64 a0_0, .int .i64 a0_1]] rfl (by (try simp only [mT, mC, mN]); first | done | rfl | (simp only [List.length_drop, List.length_take]; rfl)) ?_; (with_reducible refine (bound_Check.calls a0_0 a0_1 t1161 _ A2.out).mono ?_); rintro e w5 ⟨rfl, hb⟩; refine ⟨_, rfl, ?_⟩; have n0_ := Aside0.mk (blk_below (g := gb1160) (o := .cells #[.int .i64 a0_0, .int .i64 a0_1] 68 (0, 0)) (by (with_reducible repeat (first | refine blk_drewN ?_ _ | refine blk_drew ?_ | refine blk_alloc ?_ _)); exact BK1160.out) hb); have n1_ := Aside0.mk (below_step (by repeat (first | (with_reducible first | exact HB.out | apply below_alloc | apply pw_below_drewN | apply below_drew1 | refine below_set ?_ GE1160.out) | exact HB.out)) hb); clear BK1160; clear HB; have BK1160 := n0_; have HB := n1_; clear n0_ n1_; (try clear hb); (try clear hb2); (try clear hk); (try clear hi)))
 go_ret
 exact ⟨by first | rfl | (simp [errW_none, errW_some] <;> rfl) | (simp [*, errW_none, errW_some] <;> rfl), by repeat (first | (with_reducible first | exact HB.out | apply below_alloc | apply pw_below_drewN | apply below_drew1 | refine below_set ?_ GE1160.out) | exact HB.out)⟩
end Go.Proofs.YtecghmlojllkdaaGreat.P

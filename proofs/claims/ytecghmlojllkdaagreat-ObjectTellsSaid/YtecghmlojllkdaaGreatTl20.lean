import Derived.Test.YtecghmlojllkdaaGreatTl6
import Derived.Test.YtecghmlojllkdaaGreatTl19
import Derived.Test.YtecghmlojllkdaaGreatTl1
import Derived.Test.YtecghmlojllkdaaGreatTl8
namespace Go.Proofs.YtecghmlojllkdaaGreat.P
open Go.RowKit Go.Proofs.YtecghmlojllkdaaGreatW.PrintWords Go.Proofs.YtecghmlojllkdaaGreatW.PrintLast
set_option linter.unusedVariables false
set_option linter.unusedSimpArgs false
set_option maxRecDepth 100000
theorem chk0 (b : Nat) (x0 x1 x2 x3 x4 : Int) (r : Bool) (w : World) (hb : w.heap[b]? = some (.cells #[.int .i64 x0, .int .i64 x1, .int .i64 x2, .int .i64 x3, .int .i64 x4] 56 (0, 0))) (hf : tspec_flaws_1.f x0 x1 x2 x3 x4 = some r) :
  Calls Tryz.prog 191 #[.func (.func 256) #[] #[], .pointer (some ⟨b, 0, none⟩)] w fun e w' => e = .returned (.bool r) ∧ Below w.heap.size w w' := by
 have k0 : w.cell? ⟨b, 0, none⟩ = some (.int .i64 x0) := (blk_cell hb 0).trans rfl
 have k1 : w.cell? ⟨b, 1, none⟩ = some (.int .i64 x1) := (blk_cell hb 1).trans rfl
 have k2 : w.cell? ⟨b, 2, none⟩ = some (.int .i64 x2) := (blk_cell hb 2).trans rfl
 have k3 : w.cell? ⟨b, 3, none⟩ = some (.int .i64 x3) := (blk_cell hb 3).trans rfl
 have k4 : w.cell? ⟨b, 4, none⟩ = some (.int .i64 x4) := (blk_cell hb 4).trans rfl
 have HF := Lib.hid hf
 clear hf hb
 go_enter Tryz.func191, Tryz.ntmps191
 go_wp2_with (go_at_call 256; refine (tspec_flaws_1.calls _ _ _ _ _ _ _ HF.out).mono ?_; rintro e w' ⟨rfl, hb⟩)
 go_ret
 exact ⟨rfl, toBelow hb⟩
theorem chk1 (b : Nat) (x0 x1 x2 x3 x4 : Int) (r : Bool) (w : World) (hb : w.heap[b]? = some (.cells #[.int .i64 x0, .int .i64 x1, .int .i64 x2, .int .i64 x3, .int .i64 x4] 56 (0, 0))) (hf : tspec_flaws_2.f x0 x1 x2 x3 x4 = some r) :
  Calls Tryz.prog 191 #[.func (.func 258) #[] #[], .pointer (some ⟨b, 0, none⟩)] w fun e w' => e = .returned (.bool r) ∧ Below w.heap.size w w' := by
 have k0 : w.cell? ⟨b, 0, none⟩ = some (.int .i64 x0) := (blk_cell hb 0).trans rfl
 have k1 : w.cell? ⟨b, 1, none⟩ = some (.int .i64 x1) := (blk_cell hb 1).trans rfl
 have k2 : w.cell? ⟨b, 2, none⟩ = some (.int .i64 x2) := (blk_cell hb 2).trans rfl
 have k3 : w.cell? ⟨b, 3, none⟩ = some (.int .i64 x3) := (blk_cell hb 3).trans rfl
 have k4 : w.cell? ⟨b, 4, none⟩ = some (.int .i64 x4) := (blk_cell hb 4).trans rfl
 have HF := Lib.hid hf
 clear hf hb
 go_enter Tryz.func191, Tryz.ntmps191
 go_wp2_with (go_at_call 258; refine (tspec_flaws_2.calls _ _ _ _ _ _ _ HF.out).mono ?_; rintro e w' ⟨rfl, hb⟩)
 go_ret
 exact ⟨rfl, toBelow hb⟩
theorem chk2 (b : Nat) (x0 x1 x2 x3 x4 : Int) (r : Bool) (w : World) (hb : w.heap[b]? = some (.cells #[.int .i64 x0, .int .i64 x1, .int .i64 x2, .int .i64 x3, .int .i64 x4] 56 (0, 0))) (hf : tspec_flaws_3.f x0 x1 x2 x3 x4 = some r) :
  Calls Tryz.prog 191 #[.func (.func 259) #[] #[], .pointer (some ⟨b, 0, none⟩)] w fun e w' => e = .returned (.bool r) ∧ Below w.heap.size w w' := by
 have k0 : w.cell? ⟨b, 0, none⟩ = some (.int .i64 x0) := (blk_cell hb 0).trans rfl
 have k1 : w.cell? ⟨b, 1, none⟩ = some (.int .i64 x1) := (blk_cell hb 1).trans rfl
 have k2 : w.cell? ⟨b, 2, none⟩ = some (.int .i64 x2) := (blk_cell hb 2).trans rfl
 have k3 : w.cell? ⟨b, 3, none⟩ = some (.int .i64 x3) := (blk_cell hb 3).trans rfl
 have k4 : w.cell? ⟨b, 4, none⟩ = some (.int .i64 x4) := (blk_cell hb 4).trans rfl
 have HF := Lib.hid hf
 clear hf hb
 go_enter Tryz.func191, Tryz.ntmps191
 go_wp2_with (go_at_call 259; refine (tspec_flaws_3.calls _ _ _ _ _ _ _ HF.out).mono ?_; rintro e w' ⟨rfl, hb⟩)
 go_ret
 exact ⟨rfl, toBelow hb⟩
def flawCells : Array Value := #[.func (.func 256) #[] #[], .func (.func 258) #[] #[], .func (.func 259) #[] #[]]
theorem flaws_ (w : World) : Calls Tryz.prog 190 #[] w fun e w' => ∃ B, e = .returned (.slice (some ⟨B, 0, none⟩) 3 3) ∧ w'.heap[B]? = some (.cells flawCells 128 (0, 0)) ∧ Below w.heap.size w w' := by
 go_enter Tryz.func190, Tryz.ntmps190
 go_wp2
 go_ret
 exact ⟨_, rfl, blk_new _ _, (Below.refl _ _).alloc (Nat.le_refl _) _⟩
def flawAt (f0 f1 f2 : Bool) (k : Nat) : Bool := if k = 0 then f0 else if k = 1 then f1 else f2
def IdxB3 (f0 f1 f2 : Bool) (w : World) (e : Ending) (w' : World) : Prop := (∃ i : Int, e = .returned (.int .i64 i) ∧ (0 ≤ i ↔ (f0 || (f1 || f2)) = true)) ∧ Below w.heap.size w w'
set_option maxHeartbeats 3200000 in
theorem indexFlaws (b B : Nat) (x0 x1 x2 x3 x4 : Int) (f0 f1 f2 : Bool) (w : World) (hx : w.heap[b]? = some (.cells #[.int .i64 x0, .int .i64 x1, .int .i64 x2, .int .i64 x3, .int .i64 x4] 56 (0, 0))) (hB : w.heap[B]? = some (.cells flawCells 128 (0, 0)))
  (h0 : tspec_flaws_1.f x0 x1 x2 x3 x4 = some f0) (h1 : tspec_flaws_2.f x0 x1 x2 x3 x4 = some f1) (h2 : tspec_flaws_3.f x0 x1 x2 x3 x4 = some f2) :
  Calls Tryz.prog 255 #[.slice (some ⟨B, 0, none⟩) 3 3, .func (.func 191) #[] #[.pointer (some ⟨b, 0, none⟩)]] w (IdxB3 f0 f1 f2 w) := by
 have HX := Lib.hid hx
 have HS := Lib.hid hB
 have H0 := Lib.hid h0
 have H1 := Lib.hid h1
 have H2 := Lib.hid h2
 clear hx hB h0 h1 h2
 go_enter Tryz.func255, Tryz.ntmps255
 go_wp2
 go_loopw [8] (fun i wr => ∃ k : Nat, k ≤ 3 ∧ i = .int .i64 k ∧ (∀ j, j < k → flawAt f0 f1 f2 j = false) ∧ Below w.heap.size w wr) (fun i _ => 3 - (intOf i).toNat)
 case atStart => exact ⟨0, by omega, rfl, fun j hj => absurd hj (Nat.not_lt_zero j), Below.refl _ _⟩
 case round =>
  obtain ⟨k, hk, rfl, hall, hbel⟩ := hrel
  have HA := Lib.hid hall
  have HB := Lib.hid hbel
  clear hall hbel
  have c0 : wr.cell? ⟨B, 0, none⟩ = some (.func (.func 256) #[] #[]) := (blk_cell (blk_below HS.out HB.out) 0).trans rfl
  have c1 : wr.cell? ⟨B, 1, none⟩ = some (.func (.func 258) #[] #[]) := (blk_cell (blk_below HS.out HB.out) 1).trans rfl
  have c2 : wr.cell? ⟨B, 2, none⟩ = some (.func (.func 259) #[] #[]) := (blk_cell (blk_below HS.out HB.out) 2).trans rfl
  have hcase : k = 0 ∨ k = 1 ∨ k = 2 ∨ k = 3 := by omega
  rcases hcase with rfl | rfl | rfl | rfl
  ·go_wp2_with (go_at_call 191; refine (chk0 b x0 x1 x2 x3 x4 _ _ (blk_below HX.out HB.out) H0.out).mono ?_; rintro e w' ⟨rfl, hb⟩)
   ·have hx : f0 = true := by assumption
    go_ret
    exact ⟨⟨_, rfl, by simp [hx]⟩, HB.out.trans (hb.mono HB.out.size)⟩
   ·have hx : f0 = false := by assumption
    refine ⟨⟨1, by omega, by simp, fun j hj => ?_, HB.out.trans (hb.mono HB.out.size)⟩, by simp [intOf]⟩
    by_cases hjk : j < 0
    ·exact HA.out j hjk
    ·obtain rfl : j = 0 := by omega
     simpa [flawAt] using hx
  ·go_wp2_with (go_at_call 191; refine (chk1 b x0 x1 x2 x3 x4 _ _ (blk_below HX.out HB.out) H1.out).mono ?_; rintro e w' ⟨rfl, hb⟩)
   ·have hx : f1 = true := by assumption
    go_ret
    exact ⟨⟨_, rfl, by simp [hx]⟩, HB.out.trans (hb.mono HB.out.size)⟩
   ·have hx : f1 = false := by assumption
    refine ⟨⟨2, by omega, by simp, fun j hj => ?_, HB.out.trans (hb.mono HB.out.size)⟩, by simp [intOf]⟩
    by_cases hjk : j < 1
    ·exact HA.out j hjk
    ·obtain rfl : j = 1 := by omega
     simpa [flawAt] using hx
  ·go_wp2_with (go_at_call 191; refine (chk2 b x0 x1 x2 x3 x4 _ _ (blk_below HX.out HB.out) H2.out).mono ?_; rintro e w' ⟨rfl, hb⟩)
   ·have hx : f2 = true := by assumption
    go_ret
    exact ⟨⟨_, rfl, by simp [hx]⟩, HB.out.trans (hb.mono HB.out.size)⟩
   ·have hx : f2 = false := by assumption
    refine ⟨⟨3, by omega, by simp, fun j hj => ?_, HB.out.trans (hb.mono HB.out.size)⟩, by simp [intOf]⟩
    by_cases hjk : j < 2
    ·exact HA.out j hjk
    ·obtain rfl : j = 2 := by omega
     simpa [flawAt] using hx
  ·go_wp2
   go_ret
   refine ⟨⟨_, rfl, ?_⟩, HB.out⟩
   have e0 := HA.out 0 (by omega)
   have e1 := HA.out 1 (by omega)
   have e2 := HA.out 2 (by omega)
   simp [flawAt] at e0 e1 e2
   simp [e0, e1, e2]
theorem containsFlaws (b B : Nat) (x0 x1 x2 x3 x4 : Int) (f0 f1 f2 : Bool) (w : World) (hx : w.heap[b]? = some (.cells #[.int .i64 x0, .int .i64 x1, .int .i64 x2, .int .i64 x3, .int .i64 x4] 56 (0, 0))) (hB : w.heap[B]? = some (.cells flawCells 128 (0, 0)))
  (h0 : tspec_flaws_1.f x0 x1 x2 x3 x4 = some f0) (h1 : tspec_flaws_2.f x0 x1 x2 x3 x4 = some f1) (h2 : tspec_flaws_3.f x0 x1 x2 x3 x4 = some f2) :
  Calls Tryz.prog 189 #[.slice (some ⟨B, 0, none⟩) 3 3, .func (.func 191) #[] #[.pointer (some ⟨b, 0, none⟩)]] w fun e w' => e = .returned (.bool (f0 || (f1 || f2))) ∧ Below w.heap.size w w' := by
 have HI := Lib.hid (indexFlaws b B x0 x1 x2 x3 x4 f0 f1 f2 w hx hB h0 h1 h2)
 clear hx hB h0 h1 h2
 go_enter Tryz.func189, Tryz.ntmps189
 go_wp2_with (go_at_call 255; refine HI.out.mono ?_; rintro e w' ⟨⟨i, rfl, hi⟩, hb⟩)
 go_ret
 refine ⟨ret_bool ?_, hb⟩
 generalize (f0 || (f1 || f2)) = r at *
 cases r <;> simp_all
def tspec_Check.f (x0 x1 x2 x3 x4 : Int) : Option Int := (tspec_flaws_1.f x0 x1 x2 x3 x4).bind fun f0 => (tspec_flaws_2.f x0 x1 x2 x3 x4).bind fun f1 => (tspec_flaws_3.f x0 x1 x2 x3 x4).bind fun f2 => some (if (f0 || (f1 || f2)) = true then 2 else 0)
set_option maxHeartbeats 1600000 in
theorem tspec_Check.calls (x0 x1 x2 x3 x4 : Int) (r : Int) (w : World) (h : tspec_Check.f x0 x1 x2 x3 x4 = some r) :
  Calls Tryz.prog 136 #[.agg #[.int .i64 x0, .int .i64 x1, .int .i64 x2, .int .i64 x3, .int .i64 x4]] w fun e w' => e = .returned (.int .i64 r) ∧ Below w.heap.size w w' := by
 obtain ⟨f0, h0, h⟩ := Option.bind_eq_some_iff.mp h
 obtain ⟨f1, h1, h⟩ := Option.bind_eq_some_iff.mp h
 obtain ⟨f2, h2, h⟩ := Option.bind_eq_some_iff.mp h
 injection h with h
 subst h
 have H0 := Lib.hid h0
 have H1 := Lib.hid h1
 have H2 := Lib.hid h2
 clear h0 h1 h2
 have hmf : ∀ (fn : Fn) (first cap : Array Value) (w : World), (Instr.makeFunc fn first cap).run Tryz.prog w = .ok (.func fn first cap) w := fun _ _ _ _ => rfl
 cases hq : (f0 || (f1 || f2)) with
 | true =>
  have HQ := Lib.hid hq
  clear hq
  go_enter Tryz.func136, Tryz.ntmps136
  go_wp2_with (first
   | (go_at_call 190; have e0 := Lib.hid (blk_new w (.cells #[.int .i64 x0, .int .i64 x1, .int .i64 x2, .int .i64 x3, .int .i64 x4] 56)); refine (flaws_ _).mono ?_; rintro e w1 ⟨B, rfl, hB, hb⟩; have HBB := Lib.hid hB; have HBE := Lib.hid (below_call ((Below.refl _ _).alloc (Nat.le_refl _) _) hb); have HX := Lib.hid (blk_below e0.out hb); clear hB hb e0)
   | (go_at_call 189; refine (containsFlaws _ _ _ _ _ _ _ _ _ _ _ HX.out HBB.out H0.out H1.out H2.out).mono ?_; rw [HQ.out]; rintro e w2 ⟨rfl, hb⟩))
  go_ret
  exact ⟨rfl, below_call HBE.out hb⟩
 | false =>
  have HQ := Lib.hid hq
  clear hq
  go_enter Tryz.func136, Tryz.ntmps136
  go_wp2_with (first
   | (go_at_call 190; have e0 := Lib.hid (blk_new w (.cells #[.int .i64 x0, .int .i64 x1, .int .i64 x2, .int .i64 x3, .int .i64 x4] 56)); refine (flaws_ _).mono ?_; rintro e w1 ⟨B, rfl, hB, hb⟩; have HBB := Lib.hid hB; have HBE := Lib.hid (below_call ((Below.refl _ _).alloc (Nat.le_refl _) _) hb); have HX := Lib.hid (blk_below e0.out hb); clear hB hb e0)
   | (go_at_call 189; refine (containsFlaws _ _ _ _ _ _ _ _ _ _ _ HX.out HBB.out H0.out H1.out H2.out).mono ?_; rw [HQ.out]; rintro e w2 ⟨rfl, hb⟩))
  go_ret
  exact ⟨rfl, below_call HBE.out hb⟩
def object_wishes_3.f (a0_0 : Int) (a0_1 : Int) (a0_2 : Int) (a0_3 : Int) (a0_4 : Int) (a0_5 : Int) (a0_6 : Int) : Option (Bool) := (tspec_Check.f a0_0 a0_1 a0_2 a0_3 a0_4).bind fun t1129 => (if t1129 = 0 then ((object_within_int64.f a0_5 a0_1 1000000).bind fun t1130 => (if t1130 = true then ((object_within_int64.f a0_6 0 1000000).bind fun t1131 => (some t1131)) else (some false))) else (some false))
set_option maxHeartbeats 8000000 in
set_option maxRecDepth 100000 in
theorem object_wishes_3.calls (a0_0 : Int) (a0_1 : Int) (a0_2 : Int) (a0_3 : Int) (a0_4 : Int) (a0_5 : Int) (a0_6 : Int) (r : Bool) (w : World) (h : object_wishes_3.f a0_0 a0_1 a0_2 a0_3 a0_4 a0_5 a0_6 = some r) :
  Calls Tryz.prog 135 #[.agg #[.int .i64 a0_0, .int .i64 a0_1, .int .i64 a0_2, .int .i64 a0_3, .int .i64 a0_4, .int .i64 a0_5, .int .i64 a0_6]] w fun e w' => e = .returned (.bool r) ∧ Below w.heap.size w w' := by
 have hu58 := Tryz.underlying58
 have hu56 := Tryz.underlying56
 have HB := Aside0.mk (Below.refl w.heap.size w)
 have H : ((tspec_Check.f a0_0 a0_1 a0_2 a0_3 a0_4).bind fun t1129 => (if t1129 = 0 then ((object_within_int64.f a0_5 a0_1 1000000).bind fun t1130 => (if t1130 = true then ((object_within_int64.f a0_6 0 1000000).bind fun t1131 => (some t1131)) else (some false))) else (some false))) = some r := h
 clear h
 replace H := Option.bind_eq_some_iff.mp H
 obtain ⟨t1129, A20, H⟩ := H
 replace H : (if t1129 = 0 then ((object_within_int64.f a0_5 a0_1 1000000).bind fun t1130 => (if t1130 = true then ((object_within_int64.f a0_6 0 1000000).bind fun t1131 => (some t1131)) else (some false))) else (some false)) = some r := H
 have A2 := Aside0.mk A20
 clear A20
 by_cases c3 : t1129 = 0
 ·rw [if_pos c3] at H
  have c3b0 : (t1129 == 0) = true := beq_iff_eq.mpr c3
  have c3b1 : (t1129 != 0) = false := bne_eq_false_iff_eq.mpr c3
  clear c3
  replace H := Option.bind_eq_some_iff.mp H
  obtain ⟨t1130, A40, H⟩ := H
  replace H : (if t1130 = true then ((object_within_int64.f a0_6 0 1000000).bind fun t1131 => (some t1131)) else (some false)) = some r := H
  have A4 := Aside0.mk A40
  clear A40
  by_cases c5 : t1130 = true
  ·subst c5
   have H1 : ((object_within_int64.f a0_6 0 1000000).bind fun t1131 => (some t1131)) = some r := by rw [if_pos rfl] at H; exact H
   clear H
   have H := H1
   clear H1
   replace H := Option.bind_eq_some_iff.mp H
   obtain ⟨t1131, A60, H⟩ := H
   replace H : (some t1131) = some r := H
   have A6 := Aside0.mk A60
   clear A60
   obtain rfl := Option.some.inj H
   go_enter Tryz.func135, Tryz.ntmps135
   go_wp2_with (first | ((with_reducible refine gate_dst (N := 1) rfl ?_); refine box_event ?hg (N := 1) ?hd (cs := #[.int .i64 a0_0, .int .i64 a0_1, .int .i64 a0_2, .int .i64 a0_3, .int .i64 a0_4, .int .i64 a0_5, .int .i64 a0_6]) (t := 58) ?hr ?_; (case hd => rfl); (case hg => rfl); (case hr => first | (go_simp; done) | (go_simp; rfl)); intro gb1128 hg w7 hbox hb; have n0_ := Aside0.mk (below_step (by repeat (first | (with_reducible first | exact HB.out | apply below_alloc | apply pw_below_drewN | apply below_drew1) | exact HB.out)) hb); have n1_ := Aside0.mk (hbox); have n2_ := Aside0.mk ((by rw [hg]; exact (below_size (by repeat (first | (with_reducible first | exact HB.out | apply below_alloc | apply pw_below_drewN | apply below_drew1) | exact HB.out))) : w.heap.size ≤ gb1128)); have n3_ := Aside0.mk ((by rw [hg]; exact (below_size (by repeat (first | (with_reducible first | exact HB.out | apply below_alloc | apply pw_below_drewN | apply below_drew1) | exact HB.out))) : w.heap.size ≤ gb1128)); clear HB; have HB := n0_; have BK1128 := n1_; have GW1128 := n2_; have GE1128 := n3_; clear n0_ n1_ n2_ n3_; clear hb hbox hg; have hcz8_0 := cZ BK1128.out 0 (.int .i64 a0_0) rfl; have hcz8_1 := cZ BK1128.out 1 (.int .i64 a0_1) rfl; have hcz8_2 := cZ BK1128.out 2 (.int .i64 a0_2) rfl; have hcz8_3 := cZ BK1128.out 3 (.int .i64 a0_3) rfl; have hcz8_4 := cZ BK1128.out 4 (.int .i64 a0_4) rfl; have hcz8_5 := cZ BK1128.out 5 (.int .i64 a0_5) rfl; have hcz8_6 := cZ BK1128.out 6 (.int .i64 a0_6) rfl; have hfz8_0 := blk_frozen BK1128.out 0; have hfz8_1 := blk_frozen BK1128.out 1; have hfz8_2 := blk_frozen BK1128.out 2; have hfz8_3 := blk_frozen BK1128.out 3; have hfz8_4 := blk_frozen BK1128.out 4; have hfz8_5 := blk_frozen BK1128.out 5; have hfz8_6 := blk_frozen BK1128.out 6) | ((with_reducible refine gate_callee (f := 136) rfl ?_); refine goesL_ (some 5) rfl rfl Tryz.func136 (by kernel_rfl) rfl #[.agg #[.int .i64 a0_0, .int .i64 a0_1, .int .i64 a0_2, .int .i64 a0_3, .int .i64 a0_4]] rfl (by (try simp only [mT, mC, mN]); first | done | rfl | (simp only [List.length_drop, List.length_take]; rfl)) ?_; (with_reducible refine (tspec_Check.calls a0_0 a0_1 a0_2 a0_3 a0_4 t1129 _ A2.out).mono ?_); rintro e w9 ⟨rfl, hb⟩; refine ⟨_, rfl, ?_⟩; have n0_ := Aside0.mk (blk_below (g := gb1128) (o := .cells #[.int .i64 a0_0, .int .i64 a0_1, .int .i64 a0_2, .int .i64 a0_3, .int .i64 a0_4, .int .i64 a0_5, .int .i64 a0_6] 58 (0, 0)) (by (with_reducible repeat (first | refine blk_drewN ?_ _ | refine blk_drew ?_ | refine blk_alloc ?_ _)); exact BK1128.out) hb); have n1_ := Aside0.mk (below_step (by repeat (first | (with_reducible first | exact HB.out | apply below_alloc | apply pw_below_drewN | apply below_drew1 | refine below_set ?_ GE1128.out) | exact HB.out)) hb); clear BK1128; clear HB; have BK1128 := n0_; have HB := n1_; clear n0_ n1_; (try clear hb); (try clear hb2); (try clear hk); (try clear hi); have hcz10_0 := cZ BK1128.out 0 (.int .i64 a0_0) rfl; have hcz10_1 := cZ BK1128.out 1 (.int .i64 a0_1) rfl; have hcz10_2 := cZ BK1128.out 2 (.int .i64 a0_2) rfl; have hcz10_3 := cZ BK1128.out 3 (.int .i64 a0_3) rfl; have hcz10_4 := cZ BK1128.out 4 (.int .i64 a0_4) rfl; have hcz10_5 := cZ BK1128.out 5 (.int .i64 a0_5) rfl; have hcz10_6 := cZ BK1128.out 6 (.int .i64 a0_6) rfl; have hfz10_0 := blk_frozen BK1128.out 0; have hfz10_1 := blk_frozen BK1128.out 1; have hfz10_2 := blk_frozen BK1128.out 2; have hfz10_3 := blk_frozen BK1128.out 3; have hfz10_4 := blk_frozen BK1128.out 4; have hfz10_5 := blk_frozen BK1128.out 5; have hfz10_6 := blk_frozen BK1128.out 6) | (go_at_call 123; (with_reducible refine (object_within_int64.calls a0_5 a0_1 1000000 true _ A4.out).mono ?_); rintro e w' ⟨rfl, ⟨nd, rfl⟩⟩) | (go_at_call 123; (with_reducible refine (object_within_int64.calls a0_6 0 1000000 t1131 _ A6.out).mono ?_); rintro e w' ⟨rfl, ⟨nd, rfl⟩⟩))
   go_ret
   exact ⟨by first | rfl | (simp [errW_none, errW_some] <;> rfl) | (simp [*, errW_none, errW_some] <;> rfl), by repeat (first | (with_reducible first | exact HB.out | apply below_alloc | apply pw_below_drewN | apply below_drew1 | refine below_set ?_ GE1128.out) | exact HB.out)⟩
  ·replace c5 := Bool.eq_false_iff.mpr c5
   subst c5
   have H1 : (some false) = some r := by rw [if_neg (show ¬ (false = true) by decide)] at H; exact H
   clear H
   have H := H1
   clear H1
   obtain rfl := Option.some.inj H
   go_enter Tryz.func135, Tryz.ntmps135
   go_wp2_with (first | ((with_reducible refine gate_dst (N := 1) rfl ?_); refine box_event ?hg (N := 1) ?hd (cs := #[.int .i64 a0_0, .int .i64 a0_1, .int .i64 a0_2, .int .i64 a0_3, .int .i64 a0_4, .int .i64 a0_5, .int .i64 a0_6]) (t := 58) ?hr ?_; (case hd => rfl); (case hg => rfl); (case hr => first | (go_simp; done) | (go_simp; rfl)); intro gb1128 hg w11 hbox hb; have n0_ := Aside0.mk (below_step (by repeat (first | (with_reducible first | exact HB.out | apply below_alloc | apply pw_below_drewN | apply below_drew1) | exact HB.out)) hb); have n1_ := Aside0.mk (hbox); have n2_ := Aside0.mk ((by rw [hg]; exact (below_size (by repeat (first | (with_reducible first | exact HB.out | apply below_alloc | apply pw_below_drewN | apply below_drew1) | exact HB.out))) : w.heap.size ≤ gb1128)); have n3_ := Aside0.mk ((by rw [hg]; exact (below_size (by repeat (first | (with_reducible first | exact HB.out | apply below_alloc | apply pw_below_drewN | apply below_drew1) | exact HB.out))) : w.heap.size ≤ gb1128)); clear HB; have HB := n0_; have BK1128 := n1_; have GW1128 := n2_; have GE1128 := n3_; clear n0_ n1_ n2_ n3_; clear hb hbox hg; have hcz12_0 := cZ BK1128.out 0 (.int .i64 a0_0) rfl; have hcz12_1 := cZ BK1128.out 1 (.int .i64 a0_1) rfl; have hcz12_2 := cZ BK1128.out 2 (.int .i64 a0_2) rfl; have hcz12_3 := cZ BK1128.out 3 (.int .i64 a0_3) rfl; have hcz12_4 := cZ BK1128.out 4 (.int .i64 a0_4) rfl; have hcz12_5 := cZ BK1128.out 5 (.int .i64 a0_5) rfl; have hcz12_6 := cZ BK1128.out 6 (.int .i64 a0_6) rfl; have hfz12_0 := blk_frozen BK1128.out 0; have hfz12_1 := blk_frozen BK1128.out 1; have hfz12_2 := blk_frozen BK1128.out 2; have hfz12_3 := blk_frozen BK1128.out 3; have hfz12_4 := blk_frozen BK1128.out 4; have hfz12_5 := blk_frozen BK1128.out 5; have hfz12_6 := blk_frozen BK1128.out 6) | ((with_reducible refine gate_callee (f := 136) rfl ?_); refine goesL_ (some 5) rfl rfl Tryz.func136 (by kernel_rfl) rfl #[.agg #[.int .i64 a0_0, .int .i64 a0_1, .int .i64 a0_2, .int .i64 a0_3, .int .i64 a0_4]] rfl (by (try simp only [mT, mC, mN]); first | done | rfl | (simp only [List.length_drop, List.length_take]; rfl)) ?_; (with_reducible refine (tspec_Check.calls a0_0 a0_1 a0_2 a0_3 a0_4 t1129 _ A2.out).mono ?_); rintro e w13 ⟨rfl, hb⟩; refine ⟨_, rfl, ?_⟩; have n0_ := Aside0.mk (blk_below (g := gb1128) (o := .cells #[.int .i64 a0_0, .int .i64 a0_1, .int .i64 a0_2, .int .i64 a0_3, .int .i64 a0_4, .int .i64 a0_5, .int .i64 a0_6] 58 (0, 0)) (by (with_reducible repeat (first | refine blk_drewN ?_ _ | refine blk_drew ?_ | refine blk_alloc ?_ _)); exact BK1128.out) hb); have n1_ := Aside0.mk (below_step (by repeat (first | (with_reducible first | exact HB.out | apply below_alloc | apply pw_below_drewN | apply below_drew1 | refine below_set ?_ GE1128.out) | exact HB.out)) hb); clear BK1128; clear HB; have BK1128 := n0_; have HB := n1_; clear n0_ n1_; (try clear hb); (try clear hb2); (try clear hk); (try clear hi); have hcz14_0 := cZ BK1128.out 0 (.int .i64 a0_0) rfl; have hcz14_1 := cZ BK1128.out 1 (.int .i64 a0_1) rfl; have hcz14_2 := cZ BK1128.out 2 (.int .i64 a0_2) rfl; have hcz14_3 := cZ BK1128.out 3 (.int .i64 a0_3) rfl; have hcz14_4 := cZ BK1128.out 4 (.int .i64 a0_4) rfl; have hcz14_5 := cZ BK1128.out 5 (.int .i64 a0_5) rfl; have hcz14_6 := cZ BK1128.out 6 (.int .i64 a0_6) rfl; have hfz14_0 := blk_frozen BK1128.out 0; have hfz14_1 := blk_frozen BK1128.out 1; have hfz14_2 := blk_frozen BK1128.out 2; have hfz14_3 := blk_frozen BK1128.out 3; have hfz14_4 := blk_frozen BK1128.out 4; have hfz14_5 := blk_frozen BK1128.out 5; have hfz14_6 := blk_frozen BK1128.out 6) | (go_at_call 123; (with_reducible refine (object_within_int64.calls a0_5 a0_1 1000000 false _ A4.out).mono ?_); rintro e w' ⟨rfl, ⟨nd, rfl⟩⟩))
   go_ret
   exact ⟨by first | rfl | (simp [errW_none, errW_some] <;> rfl) | (simp [*, errW_none, errW_some] <;> rfl), by repeat (first | (with_reducible first | exact HB.out | apply below_alloc | apply pw_below_drewN | apply below_drew1 | refine below_set ?_ GE1128.out) | exact HB.out)⟩
 ·rw [if_neg c3] at H
  have c3b0 : (t1129 == 0) = false := beq_eq_false_iff_ne.mpr c3
  have c3b1 : (t1129 != 0) = true := bne_iff_ne.mpr c3
  obtain rfl := Option.some.inj H
  go_enter Tryz.func135, Tryz.ntmps135
  go_wp2_with (first | ((with_reducible refine gate_dst (N := 1) rfl ?_); refine box_event ?hg (N := 1) ?hd (cs := #[.int .i64 a0_0, .int .i64 a0_1, .int .i64 a0_2, .int .i64 a0_3, .int .i64 a0_4, .int .i64 a0_5, .int .i64 a0_6]) (t := 58) ?hr ?_; (case hd => rfl); (case hg => rfl); (case hr => first | (go_simp; done) | (go_simp; rfl)); intro gb1128 hg w15 hbox hb; have n0_ := Aside0.mk (below_step (by repeat (first | (with_reducible first | exact HB.out | apply below_alloc | apply pw_below_drewN | apply below_drew1) | exact HB.out)) hb); have n1_ := Aside0.mk (hbox); have n2_ := Aside0.mk ((by rw [hg]; exact (below_size (by repeat (first | (with_reducible first | exact HB.out | apply below_alloc | apply pw_below_drewN | apply below_drew1) | exact HB.out))) : w.heap.size ≤ gb1128)); have n3_ := Aside0.mk ((by rw [hg]; exact (below_size (by repeat (first | (with_reducible first | exact HB.out | apply below_alloc | apply pw_below_drewN | apply below_drew1) | exact HB.out))) : w.heap.size ≤ gb1128)); clear HB; have HB := n0_; have BK1128 := n1_; have GW1128 := n2_; have GE1128 := n3_; clear n0_ n1_ n2_ n3_; clear hb hbox hg; have hcz16_0 := cZ BK1128.out 0 (.int .i64 a0_0) rfl; have hcz16_1 := cZ BK1128.out 1 (.int .i64 a0_1) rfl; have hcz16_2 := cZ BK1128.out 2 (.int .i64 a0_2) rfl; have hcz16_3 := cZ BK1128.out 3 (.int .i64 a0_3) rfl; have hcz16_4 := cZ BK1128.out 4 (.int .i64 a0_4) rfl; have hcz16_5 := cZ BK1128.out 5 (.int .i64 a0_5) rfl; have hcz16_6 := cZ BK1128.out 6 (.int .i64 a0_6) rfl; have hfz16_0 := blk_frozen BK1128.out 0; have hfz16_1 := blk_frozen BK1128.out 1; have hfz16_2 := blk_frozen BK1128.out 2; have hfz16_3 := blk_frozen BK1128.out 3; have hfz16_4 := blk_frozen BK1128.out 4; have hfz16_5 := blk_frozen BK1128.out 5; have hfz16_6 := blk_frozen BK1128.out 6) | ((with_reducible refine gate_callee (f := 136) rfl ?_); refine goesL_ (some 5) rfl rfl Tryz.func136 (by kernel_rfl) rfl #[.agg #[.int .i64 a0_0, .int .i64 a0_1, .int .i64 a0_2, .int .i64 a0_3, .int .i64 a0_4]] rfl (by (try simp only [mT, mC, mN]); first | done | rfl | (simp only [List.length_drop, List.length_take]; rfl)) ?_; (with_reducible refine (tspec_Check.calls a0_0 a0_1 a0_2 a0_3 a0_4 t1129 _ A2.out).mono ?_); rintro e w17 ⟨rfl, hb⟩; refine ⟨_, rfl, ?_⟩; have n0_ := Aside0.mk (blk_below (g := gb1128) (o := .cells #[.int .i64 a0_0, .int .i64 a0_1, .int .i64 a0_2, .int .i64 a0_3, .int .i64 a0_4, .int .i64 a0_5, .int .i64 a0_6] 58 (0, 0)) (by (with_reducible repeat (first | refine blk_drewN ?_ _ | refine blk_drew ?_ | refine blk_alloc ?_ _)); exact BK1128.out) hb); have n1_ := Aside0.mk (below_step (by repeat (first | (with_reducible first | exact HB.out | apply below_alloc | apply pw_below_drewN | apply below_drew1 | refine below_set ?_ GE1128.out) | exact HB.out)) hb); clear BK1128; clear HB; have BK1128 := n0_; have HB := n1_; clear n0_ n1_; (try clear hb); (try clear hb2); (try clear hk); (try clear hi)))
  go_ret
  exact ⟨by first | rfl | (simp [errW_none, errW_some] <;> rfl) | (simp [*, errW_none, errW_some] <;> rfl), by repeat (first | (with_reducible first | exact HB.out | apply below_alloc | apply pw_below_drewN | apply below_drew1 | refine below_set ?_ GE1128.out) | exact HB.out)⟩
end Go.Proofs.YtecghmlojllkdaaGreat.P

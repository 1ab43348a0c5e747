-- PRINTED by print.py (a twelfth state) out of the translation. Not trusted: Lean checks it.
import Derived.Test.YtecghmlojllkdaaP0
import Derived.Test.YtecghmlojllkdaaP1
import Derived.Test.YtecghmlojllkdaaP4
import Derived.Test.YtecghmlojllkdaaP21
import Derived.Test.YtecghmlojllkdaaB6
import Derived.Test.YtecghmlojllkdaaA9
namespace Go.Proofs.Ytecghmlojllkdaa.P
open Go.RowKit Go.Proofs.YtecghmlojllkdaaW.PrintWords Go.Proofs.YtecghmlojllkdaaW.PrintLast Go.Proofs.YtecghmlojllkdaaW.PrintMore
attribute [local go_sem] max2_int min2_int max_two min_two max_three min_three max_four min_four   -- for this text's walks alone
set_option linter.unusedVariables false
set_option linter.unusedSimpArgs false

/-! ### postroadlaw07_ObjectCuts: function 5 -/
mutual
def postroadlaw07_ObjectCuts.j0 : Nat → List (S32) → Int → List Int → Bool → Option (Bool)
  | 0, _, _, _, _ => none
  | k + 1, x0, x1, x5, x35 => if x35 = true then ((law_known.f).bind fun t215 => (some t215)) else (postroadlaw07_ObjectCuts.l0 k x0 x1 x5 0 0)
def postroadlaw07_ObjectCuts.l0 : Nat → List (S32) → Int → List Int → Int → Int → Option (Bool)
  | 0, _, _, _, _, _ => none
  | k + 1, x0, x1, x5, x7, x8 => if x8 < (x0.length : Int) then (if x7 = x1 then (if 0 ≤ x1 then (if x1 ≤ (x5.length : Int) then ((object_Parse.f (x5.take (x1 : Int).toNat)).bind fun bt220 => ((object_Parse.f (x5.drop (x1 : Int).toNat)).bind fun bt228 => (if bt220.2 = 0 then (if 0 ≤ x8 then (if x8 ≤ (x0.length : Int) then ((postroadlaw07_same.f k bt220.1 (x0.take (x8 : Int).toNat)).bind fun t236 => (if t236 = true then (if bt228.2 = 0 then ((postroadlaw07_same.f k bt228.1 (x0.drop (x8 : Int).toNat)).bind fun t241 => (if t241 = true then ((law_known.f).bind fun t242 => (some t242)) else (some false))) else (some false)) else (some false))) else (none)) else (none)) else (some false)))) else (none)) else (none)) else (if 0 ≤ x8 then (postroadlaw07_ObjectCuts.l0 k x0 x1 x5 (wrap64 ((wrap64 (x7 + 4)) + (wrap64 (4 * (((rd_T32 x0 x8).f2).length : Int))))) (wrap64 (x8 + 1))) else (none))) else (if 0 ≤ x1 then (if x1 ≤ (x5.length : Int) then ((object_Parse.f (x5.take (x1 : Int).toNat)).bind fun bt248 => (if x7 = x1 then (if bt248.2 = 0 then ((postroadlaw07_same.f k bt248.1 x0).bind fun t252 => (if t252 = true then ((law_known.f).bind fun t253 => (some t253)) else (some false))) else (some false)) else (if (bt248.1.length : Int) = 0 then (if bt248.2 = 170 then ((law_known.f).bind fun t254 => (some t254)) else (some false)) else (some false)))) else (none)) else (none))
end
def postroadlaw07_ObjectCuts.f (k : Nat) (l0 : List (S32)) (a1 : Int) : Option (Bool) := (postroadlaw07_few.f k l0).bind fun t209 => (if t209 = true then ((object_Raw.f k l0).bind fun bt211 => (if bt211.2 = 0 then (if a1 < 0 then (postroadlaw07_ObjectCuts.j0 k l0 a1 bt211.1 true) else (postroadlaw07_ObjectCuts.j0 k l0 a1 bt211.1 (decide (a1 > (bt211.1.length : Int))))) else (postroadlaw07_ObjectCuts.j0 k l0 a1 bt211.1 true))) else ((law_known.f).bind fun t210 => (some t210)))
theorem postroadlaw07_ObjectCuts.mono_l : ∀ k, (∀ y0 y1 y2 y3, LeO (postroadlaw07_ObjectCuts.j0 k y0 y1 y2 y3) (postroadlaw07_ObjectCuts.j0 (k + 1) y0 y1 y2 y3)) ∧ (∀ y0 y1 y2 y3 y4, LeO (postroadlaw07_ObjectCuts.l0 k y0 y1 y2 y3 y4) (postroadlaw07_ObjectCuts.l0 (k + 1) y0 y1 y2 y3 y4))
  | 0 => ⟨fun _ _ _ _ r h => by simp [postroadlaw07_ObjectCuts.j0] at h, fun _ _ _ _ _ r h => by simp [postroadlaw07_ObjectCuts.l0] at h⟩
  | k + 1 => by
    obtain ⟨ih0, ih1⟩ := postroadlaw07_ObjectCuts.mono_l k
    refine ⟨?_, ?_⟩
    · intro y0 y1 y2 y3
      unfold postroadlaw07_ObjectCuts.j0
      repeat' first
      | (with_reducible exact ih0 _ _ _ _)
      | (with_reducible exact ih1 _ _ _ _ _)
      | (with_reducible exact object_Raw.mono _ _)
      | (with_reducible exact postroadlaw07_few.mono _ _)
      | (with_reducible exact postroadlaw07_same.mono _ _ _)
      | (with_reducible exact LeO.refl _)
      | (with_reducible exact LeO.none _)
      | (with_reducible refine LeO.ite ?_ ?_)
      | (with_reducible refine LeO.bind ?_ (fun _ => ?_))
      | exact ih0 _ _ _ _
      | exact ih1 _ _ _ _ _
      | exact object_Raw.mono _ _
      | exact postroadlaw07_few.mono _ _
      | exact postroadlaw07_same.mono _ _ _
      | exact LeO.none _
      | refine LeO.ite ?_ ?_
      | refine LeO.bind ?_ (fun _ => ?_)
    · intro y0 y1 y2 y3 y4
      unfold postroadlaw07_ObjectCuts.l0
      repeat' first
      | (with_reducible exact ih0 _ _ _ _)
      | (with_reducible exact ih1 _ _ _ _ _)
      | (with_reducible exact object_Raw.mono _ _)
      | (with_reducible exact postroadlaw07_few.mono _ _)
      | (with_reducible exact postroadlaw07_same.mono _ _ _)
      | (with_reducible exact LeO.refl _)
      | (with_reducible exact LeO.none _)
      | (with_reducible refine LeO.ite ?_ ?_)
      | (with_reducible refine LeO.bind ?_ (fun _ => ?_))
      | exact ih0 _ _ _ _
      | exact ih1 _ _ _ _ _
      | exact object_Raw.mono _ _
      | exact postroadlaw07_few.mono _ _
      | exact postroadlaw07_same.mono _ _ _
      | exact LeO.none _
      | refine LeO.ite ?_ ?_
      | refine LeO.bind ?_ (fun _ => ?_)
theorem postroadlaw07_ObjectCuts.mono : ∀ a0 a1 k, LeO (postroadlaw07_ObjectCuts.f k a0 a1) (postroadlaw07_ObjectCuts.f (k + 1) a0 a1) := by
  intro a0 a1 k
  obtain ⟨ih0, ih1⟩ := postroadlaw07_ObjectCuts.mono_l k
  unfold postroadlaw07_ObjectCuts.f
  repeat' first
      | (with_reducible exact ih0 _ _ _ _)
      | (with_reducible exact ih1 _ _ _ _ _)
      | (with_reducible exact object_Raw.mono _ _)
      | (with_reducible exact postroadlaw07_few.mono _ _)
      | (with_reducible exact postroadlaw07_same.mono _ _ _)
      | (with_reducible exact LeO.refl _)
      | (with_reducible exact LeO.none _)
      | (with_reducible refine LeO.ite ?_ ?_)
      | (with_reducible refine LeO.bind ?_ (fun _ => ?_))
      | exact ih0 _ _ _ _
      | exact ih1 _ _ _ _ _
      | exact object_Raw.mono _ _
      | exact postroadlaw07_few.mono _ _
      | exact postroadlaw07_same.mono _ _ _
      | exact LeO.none _
      | refine LeO.ite ?_ ?_
      | refine LeO.bind ?_ (fun _ => ?_)
set_option maxHeartbeats 8000000 in
set_option maxRecDepth 100000 in
theorem postroadlaw07_ObjectCuts.calls (k : Nat) (A0 : Option Addr) (c0 : Nat) (l0 : List (S32)) (a1 : Int) (r : Bool) (w : World) (hr0 : Kd.C k32 w A0 l0.length l0) (hc0 : l0.length ≤ c0) (h : postroadlaw07_ObjectCuts.f k l0 a1 = some r) :
    Calls Try.prog 5 #[.slice A0 l0.length c0, .int .i64 a1] w fun e w' => e = .returned (.bool r) ∧ Below w.heap.size w w' := by
  have HR0 := Aside0.mk hr0
  have HC0 := Aside0.mk hc0
  clear hr0 hc0
  have HB := Aside0.mk (Below.refl w.heap.size w)
  have H : ((postroadlaw07_few.f k l0).bind fun t209 => (if t209 = true then ((object_Raw.f k l0).bind fun bt211 => (if bt211.2 = 0 then (if a1 < 0 then (postroadlaw07_ObjectCuts.j0 k l0 a1 bt211.1 true) else (postroadlaw07_ObjectCuts.j0 k l0 a1 bt211.1 (decide (a1 > (bt211.1.length : Int))))) else (postroadlaw07_ObjectCuts.j0 k l0 a1 bt211.1 true))) else ((law_known.f).bind fun t210 => (some t210)))) = some r := h
  clear h
  replace H := Option.bind_eq_some_iff.mp H
  obtain ⟨t209, A30, H⟩ := H
  replace H : (if t209 = true then ((object_Raw.f k l0).bind fun bt211 => (if bt211.2 = 0 then (if a1 < 0 then (postroadlaw07_ObjectCuts.j0 k l0 a1 bt211.1 true) else (postroadlaw07_ObjectCuts.j0 k l0 a1 bt211.1 (decide (a1 > (bt211.1.length : Int))))) else (postroadlaw07_ObjectCuts.j0 k l0 a1 bt211.1 true))) else ((law_known.f).bind fun t210 => (some t210))) = some r := H
  have A3 := Aside0.mk A30
  clear A30
  by_cases c4 : t209 = true
  · subst c4
    have H1 : ((object_Raw.f k l0).bind fun bt211 => (if bt211.2 = 0 then (if a1 < 0 then (postroadlaw07_ObjectCuts.j0 k l0 a1 bt211.1 true) else (postroadlaw07_ObjectCuts.j0 k l0 a1 bt211.1 (decide (a1 > (bt211.1.length : Int))))) else (postroadlaw07_ObjectCuts.j0 k l0 a1 bt211.1 true))) = some r := by rw [if_pos rfl] at H; exact H
    clear H
    have H := H1
    clear H1
    replace H := Option.bind_eq_some_iff.mp H
    obtain ⟨⟨t211, t212⟩, A50, H⟩ := H
    replace H : (if t212 = 0 then (if a1 < 0 then (postroadlaw07_ObjectCuts.j0 k l0 a1 t211 true) else (postroadlaw07_ObjectCuts.j0 k l0 a1 t211 (decide (a1 > (t211.length : Int))))) else (postroadlaw07_ObjectCuts.j0 k l0 a1 t211 true)) = some r := H
    have A5 := Aside0.mk A50
    clear A50
    have HC6 := Aside0.mk H
    clear H
    go_enter Try.func5, Try.ntmps5
    go_upto_region 4 with (first | ((with_reducible refine gate_callee (f := 6) rfl ?_); refine goesL_ (some 16) rfl rfl Try.func6 (by kernel_rfl) rfl #[.slice A0 l0.length c0] rfl (by (try simp only [List.map_toArray, List.map_cons, List.map_nil]); first | done | rfl | (simp only [List.length_drop, List.length_take]; rfl)) ?_; (with_reducible refine (postroadlaw07_few.calls k _ _ l0 true _ ?side1 ?side2 A3.out).mono ?_); (case side1 => repeat (first | exact HR0.out | (with_reducible refine Kd.C_alloc ?_ _) | (with_reducible refine Kd.C_drewN ?_ _) | (with_reducible refine Kd.C_drew ?_))); (case side2 => exact HC0.out); rintro e w' ⟨rfl, ⟨nd, rfl⟩⟩; refine ⟨_, rfl, ?_⟩) | ((with_reducible refine gate_callee (f := 8) rfl ?_); refine goesL_ (some 21) rfl rfl Try.func8 (by kernel_rfl) rfl #[.slice A0 l0.length c0] rfl (by (try simp only [List.map_toArray, List.map_cons, List.map_nil]); first | done | rfl | (simp only [List.length_drop, List.length_take]; rfl)) ?_; (with_reducible refine (object_Raw.calls k _ _ l0 t211 t212 _ ?side1 ?side2 A5.out).mono ?_); (case side1 => repeat (first | exact HR0.out | (with_reducible refine Kd.C_alloc ?_ _) | (with_reducible refine Kd.C_drewN ?_ _) | (with_reducible refine Kd.C_drew ?_))); (case side2 => exact HC0.out); rintro e w7 ⟨v213, rfl, ho0, hb⟩; refine ⟨_, rfl, ?_⟩; have n0_ := Aside0.mk (Kd.R_lower ho0 (below_size (by repeat (first | (with_reducible first | exact HB.out | apply below_alloc | apply pw_below_drewN | apply below_drew1) | exact HB.out)))); have n1_ := Aside0.mk (below_step (by repeat (first | (with_reducible first | exact HB.out | apply below_alloc | apply pw_below_drewN | apply below_drew1) | exact HB.out)) hb); clear HB; have HO214 := n0_; have HB := n1_; clear n0_ n1_; (try clear hb); (try clear hb2); (try clear hk); (try clear hi); (try clear ho0)))
    (try simp only [Act.put, List.setIfInBounds_toArray, List.set_cons_zero, List.set_cons_succ])
    go_cut [35] (fun v35 wc => ∃ (kq : Nat) (x35_5 : Bool), v35 = .bool x35_5 ∧ Aside0 (postroadlaw07_ObjectCuts.j0 kq l0 a1 t211 x35_5 = some r) ∧ Aside0 (kq ≤ k) ∧ Aside0 (Kd.R (Kd.int .u8) 5 wc w.heap.size (fun _ => True) v213 t211) ∧ Aside0 (Below w.heap.size w wc))
    case first =>
      have H := HC6.out
      clear HC6
      by_cases c8 : t212 = 0
      · rw [if_pos c8] at H
        have c8b0 : (t212 == 0) = true := beq_iff_eq.mpr c8
        have c8b1 : (t212 != 0) = false := bne_eq_false_iff_eq.mpr c8
        clear c8
        (first | rw [c8b0] | (simp only [i64_w, i32_w]; rw [c8b0]) | skip)
        by_cases c9 : a1 < 0
        · rw [if_pos c9] at H
          have c9b0 : decide (a1 < 0) = true := decide_eq_true c9
          clear c9
          have H' := Aside0.mk H
          clear H
          go_wp2
          go_meet
          case rel => exact ⟨_, (true), (by first | rfl | (simp; done) | (simp [*]; done)), H', ⟨by first | omega | exact Nat.le_refl _⟩, ⟨by (with_reducible repeat (first | apply Kd.R_alloc | apply Kd.R_drewN | apply Kd.R_drew)); exact HO214.out⟩, ⟨by repeat (first | (with_reducible first | exact HB.out | apply below_alloc | apply pw_below_drewN | apply below_drew1) | exact HB.out)⟩⟩
        · rw [if_neg c9] at H
          have c9b0 : decide (a1 < 0) = false := decide_eq_false c9
          clear c9
          have H' := Aside0.mk H
          clear H
          obtain ⟨Ao10, co10, eo10⟩ := Kd.R_slice HO214.out
          subst eo10
          go_wp2
          go_meet
          case rel => exact ⟨_, (decide (a1 > (t211.length : Int))), (by first | rfl | (simp; done) | (simp [*]; done)), H', ⟨by first | omega | exact Nat.le_refl _⟩, ⟨by (with_reducible repeat (first | apply Kd.R_alloc | apply Kd.R_drewN | apply Kd.R_drew)); exact HO214.out⟩, ⟨by repeat (first | (with_reducible first | exact HB.out | apply below_alloc | apply pw_below_drewN | apply below_drew1) | exact HB.out)⟩⟩
      · rw [if_neg c8] at H
        have c8b0 : (t212 == 0) = false := beq_eq_false_iff_ne.mpr c8
        have c8b1 : (t212 != 0) = true := bne_iff_ne.mpr c8
        (first | rw [c8b0] | (simp only [i64_w, i32_w]; rw [c8b0]) | skip)
        have H' := Aside0.mk H
        clear H
        go_wp2
        go_meet
        case rel => exact ⟨_, (true), (by first | rfl | (simp; done) | (simp [*]; done)), H', ⟨by first | omega | exact Nat.le_refl _⟩, ⟨by (with_reducible repeat (first | apply Kd.R_alloc | apply Kd.R_drewN | apply Kd.R_drew)); exact HO214.out⟩, ⟨by repeat (first | (with_reducible first | exact HB.out | apply below_alloc | apply pw_below_drewN | apply below_drew1) | exact HB.out)⟩⟩
    case rest =>
      clear HC6
      try clear p2
      try clear c4
      try clear c5
      try clear c6
      try clear c8
      try clear c8b0
      try clear c8b1
      try clear c9
      try clear c9b0
      obtain ⟨kq, x35_5, rfl, HA, HJ5, HO_5, HB⟩ := hcut
      cases kq with
      | zero => exact absurd HA.out (by simp [postroadlaw07_ObjectCuts.j0])
      | succ kj5 =>
        have H := HA.out
        clear HA
        simp only [postroadlaw07_ObjectCuts.j0] at H
        by_cases c11 : x35_5 = true
        · subst c11
          have H1 : ((law_known.f).bind fun t215 => (some t215)) = some r := by rw [if_pos rfl] at H; exact H
          clear H
          have H := H1
          clear H1
          replace H := Option.bind_eq_some_iff.mp H
          obtain ⟨t215, A120, H⟩ := H
          replace H : (some t215) = some r := H
          have A12 := Aside0.mk A120
          clear A120
          obtain rfl := Option.some.inj H
          go_wp2_with (first | ((with_reducible refine gate_callee (f := 7) rfl ?_); refine goesL_ (some 36) rfl rfl Try.func7 (by kernel_rfl) rfl #[] rfl (by (try simp only [List.map_toArray, List.map_cons, List.map_nil]); first | done | rfl | (simp only [List.length_drop, List.length_take]; rfl)) ?_; (with_reducible refine (law_known.calls  t215 _ A12.out).mono ?_); rintro e w13 ⟨rfl, hb⟩; refine ⟨_, rfl, ?_⟩; have n0_ := Aside0.mk (Kd.R_below (by (with_reducible repeat (first | apply Kd.R_alloc | apply Kd.R_drewN | apply Kd.R_drew)); exact HO_5.out) hb); have n1_ := Aside0.mk (below_step (by repeat (first | (with_reducible first | exact HB.out | apply below_alloc | apply pw_below_drewN | apply below_drew1) | exact HB.out)) hb); clear HO_5; clear HB; have HO_5 := n0_; have HB := n1_; clear n0_ n1_; (try clear hb); (try clear hb2); (try clear hk); (try clear hi)))
          go_ret
          exact ⟨by first | rfl | (simp [errW_none, errW_some] <;> rfl) | (simp [*, errW_none, errW_some] <;> rfl), by repeat (first | (with_reducible first | exact HB.out | apply below_alloc | apply pw_below_drewN | apply below_drew1) | exact HB.out)⟩
        · replace c11 := Bool.eq_false_iff.mpr c11
          subst c11
          have H1 : (postroadlaw07_ObjectCuts.l0 kj5 l0 a1 t211 0 0) = some r := by rw [if_neg (show ¬ (false = true) by decide)] at H; exact H
          clear H
          have H := H1
          clear H1
          have H' := Aside0.mk H
          clear H
          go_wp2
          go_loopg [7, 8] kj5 (fun kq v7 v8 w' => ∃ (x7_2 : Int) (x8_2 : Int), v7 = .int .i64 x7_2 ∧ v8 = .int .i64 x8_2 ∧ Aside0 (postroadlaw07_ObjectCuts.l0 kq l0 a1 t211 x7_2 x8_2 = some r) ∧ Aside0 (kq ≤ kj5) ∧ Aside0 (Kd.R (Kd.int .u8) 5 w' w.heap.size (fun _ => True) v213 t211) ∧ Aside0 (Below w.heap.size w w'))
          case atStart => exact ⟨(0), (0), (by first | rfl | (simp; done) | (simp [*]; done)), (by first | rfl | (simp; done) | (simp [*]; done)), H', ⟨Nat.le_refl _⟩, ⟨by (with_reducible repeat (first | apply Kd.R_alloc | apply Kd.R_drewN | apply Kd.R_drew)); exact HO_5.out⟩, ⟨by repeat (first | (with_reducible first | exact HB.out | apply below_alloc | apply pw_below_drewN | apply below_drew1) | exact HB.out)⟩⟩
          case round =>
            clear H'
            try clear c1
            try clear p2
            try clear c4
            try clear c5
            try clear c6
            try clear c7
            try clear c8
            try clear c8b0
            try clear c8b1
            try clear c9
            try clear c9b0
            try clear c11
            try clear p2
            obtain ⟨x7_2, x8_2, rfl, rfl, HA, HK2, HO_5, HB⟩ := hrel
            cases gk with
            | zero => exact absurd HA.out (by simp [postroadlaw07_ObjectCuts.l0])
            | succ k2 =>
              have H := HA.out
              clear HA
              simp only [postroadlaw07_ObjectCuts.l0] at H
              by_cases c14 : x8_2 < (l0.length : Int)
              · rw [if_pos c14] at H
                have c14b0 : decide (x8_2 < (l0.length : Int)) = true := decide_eq_true c14
                clear c14
                by_cases c15 : x7_2 = a1
                · rw [if_pos c15] at H
                  have c15b0 : (x7_2 == a1) = true := beq_iff_eq.mpr c15
                  have c15b1 : (x7_2 != a1) = false := bne_eq_false_iff_eq.mpr c15
                  clear c15
                  by_cases c16 : 0 ≤ a1
                  · rw [if_pos c16] at H
                    have c16b0 := eq_true c16
                    have c16b1 : decide (0 ≤ a1) = true := decide_eq_true c16
                    clear c16
                    by_cases c17 : a1 ≤ (t211.length : Int)
                    · rw [if_pos c17] at H
                      have c17b0 := eq_true c17
                      have c17b1 : decide (a1 ≤ (t211.length : Int)) = true := decide_eq_true c17
                      clear c17
                      obtain ⟨y216, hy216⟩ : ∃ y_ : List Int, y_ = (t211.take (a1 : Int).toNat) := ⟨_, rfl⟩
                      replace H : ((object_Parse.f y216).bind fun bt220 => ((object_Parse.f (t211.drop (a1 : Int).toNat)).bind fun bt228 => (if bt220.2 = 0 then (if 0 ≤ x8_2 then (if x8_2 ≤ (l0.length : Int) then ((postroadlaw07_same.f k2 bt220.1 (l0.take (x8_2 : Int).toNat)).bind fun t236 => (if t236 = true then (if bt228.2 = 0 then ((postroadlaw07_same.f k2 bt228.1 (l0.drop (x8_2 : Int).toNat)).bind fun t241 => (if t241 = true then ((law_known.f).bind fun t242 => (some t242)) else (some false))) else (some false)) else (some false))) else (none)) else (none)) else (some false)))) = some r := by first | (rw [hy216]; with_reducible exact H) | (have H2_ := (Option.bind_some _ _).symm.trans H; rw [hy216]; with_reducible exact H2_) | (have H2_ := (Option.bind_some _ _).symm.trans H; with_reducible exact H2_) | with_reducible exact H | (rw [hy216]; exact H) | exact H
                      have Ny216 := Aside0.mk hy216
                      clear hy216
                      replace H := Option.bind_eq_some_iff.mp H
                      obtain ⟨⟨t220, t221⟩, A180, H⟩ := H
                      replace H : ((object_Parse.f (t211.drop (a1 : Int).toNat)).bind fun bt228 => (if t221 = 0 then (if 0 ≤ x8_2 then (if x8_2 ≤ (l0.length : Int) then ((postroadlaw07_same.f k2 t220 (l0.take (x8_2 : Int).toNat)).bind fun t236 => (if t236 = true then (if bt228.2 = 0 then ((postroadlaw07_same.f k2 bt228.1 (l0.drop (x8_2 : Int).toNat)).bind fun t241 => (if t241 = true then ((law_known.f).bind fun t242 => (some t242)) else (some false))) else (some false)) else (some false))) else (none)) else (none)) else (some false))) = some r := H
                      have A18 := Aside0.mk A180
                      clear A180
                      have c19b0 := eq_true (of_decide_eq_true (by first | (with_reducible assumption) | assumption) : 0 ≤ a1)
                      have c20b0 := eq_true (of_decide_eq_true (by first | (with_reducible assumption) | assumption) : a1 ≤ (t211.length : Int))
                      obtain ⟨y224, hy224⟩ : ∃ y_ : List Int, y_ = (t211.drop (a1 : Int).toNat) := ⟨_, rfl⟩
                      replace H : ((object_Parse.f y224).bind fun bt228 => (if t221 = 0 then (if 0 ≤ x8_2 then (if x8_2 ≤ (l0.length : Int) then ((postroadlaw07_same.f k2 t220 (l0.take (x8_2 : Int).toNat)).bind fun t236 => (if t236 = true then (if bt228.2 = 0 then ((postroadlaw07_same.f k2 bt228.1 (l0.drop (x8_2 : Int).toNat)).bind fun t241 => (if t241 = true then ((law_known.f).bind fun t242 => (some t242)) else (some false))) else (some false)) else (some false))) else (none)) else (none)) else (some false))) = some r := by first | (rw [hy224]; with_reducible exact H) | (have H2_ := (Option.bind_some _ _).symm.trans H; rw [hy224]; with_reducible exact H2_) | (have H2_ := (Option.bind_some _ _).symm.trans H; with_reducible exact H2_) | with_reducible exact H | (rw [hy224]; exact H) | exact H
                      have Ny224 := Aside0.mk hy224
                      clear hy224
                      replace H := Option.bind_eq_some_iff.mp H
                      obtain ⟨⟨t228, t229⟩, A210, H⟩ := H
                      replace H : (if t221 = 0 then (if 0 ≤ x8_2 then (if x8_2 ≤ (l0.length : Int) then ((postroadlaw07_same.f k2 t220 (l0.take (x8_2 : Int).toNat)).bind fun t236 => (if t236 = true then (if t229 = 0 then ((postroadlaw07_same.f k2 t228 (l0.drop (x8_2 : Int).toNat)).bind fun t241 => (if t241 = true then ((law_known.f).bind fun t242 => (some t242)) else (some false))) else (some false)) else (some false))) else (none)) else (none)) else (some false)) = some r := H
                      have A21 := Aside0.mk A210
                      clear A210
                      by_cases c22 : t221 = 0
                      · rw [if_pos c22] at H
                        have c22b0 : (t221 == 0) = true := beq_iff_eq.mpr c22
                        have c22b1 : (t221 != 0) = false := bne_eq_false_iff_eq.mpr c22
                        clear c22
                        by_cases c23 : 0 ≤ x8_2
                        · rw [if_pos c23] at H
                          have c23b0 := eq_true c23
                          have c23b1 : decide (0 ≤ x8_2) = true := decide_eq_true c23
                          clear c23
                          by_cases c24 : x8_2 ≤ (l0.length : Int)
                          · rw [if_pos c24] at H
                            have c24b0 := eq_true c24
                            have c24b1 : decide (x8_2 ≤ (l0.length : Int)) = true := decide_eq_true c24
                            clear c24
                            obtain ⟨y232, hy232⟩ : ∃ y_ : List (S32), y_ = (l0.take (x8_2 : Int).toNat) := ⟨_, rfl⟩
                            replace H : ((postroadlaw07_same.f k2 t220 y232).bind fun t236 => (if t236 = true then (if t229 = 0 then ((postroadlaw07_same.f k2 t228 (l0.drop (x8_2 : Int).toNat)).bind fun t241 => (if t241 = true then ((law_known.f).bind fun t242 => (some t242)) else (some false))) else (some false)) else (some false))) = some r := by first | (rw [hy232]; with_reducible exact H) | (have H2_ := (Option.bind_some _ _).symm.trans H; rw [hy232]; with_reducible exact H2_) | (have H2_ := (Option.bind_some _ _).symm.trans H; with_reducible exact H2_) | with_reducible exact H | (rw [hy232]; exact H) | exact H
                            have Ny232 := Aside0.mk hy232
                            clear hy232
                            replace H := Option.bind_eq_some_iff.mp H
                            obtain ⟨t236, A250, H⟩ := H
                            replace H : (if t236 = true then (if t229 = 0 then ((postroadlaw07_same.f k2 t228 (l0.drop (x8_2 : Int).toNat)).bind fun t241 => (if t241 = true then ((law_known.f).bind fun t242 => (some t242)) else (some false))) else (some false)) else (some false)) = some r := H
                            have A25 := Aside0.mk A250
                            clear A250
                            by_cases c26 : t236 = true
                            · subst c26
                              have H1 : (if t229 = 0 then ((postroadlaw07_same.f k2 t228 (l0.drop (x8_2 : Int).toNat)).bind fun t241 => (if t241 = true then ((law_known.f).bind fun t242 => (some t242)) else (some false))) else (some false)) = some r := by rw [if_pos rfl] at H; exact H
                              clear H
                              have H := H1
                              clear H1
                              by_cases c27 : t229 = 0
                              · rw [if_pos c27] at H
                                have c27b0 : (t229 == 0) = true := beq_iff_eq.mpr c27
                                have c27b1 : (t229 != 0) = false := bne_eq_false_iff_eq.mpr c27
                                clear c27
                                have c28b0 := eq_true (of_decide_eq_true (by first | (with_reducible assumption) | assumption) : 0 ≤ x8_2)
                                have c29b0 := eq_true (of_decide_eq_true (by first | (with_reducible assumption) | assumption) : x8_2 ≤ (l0.length : Int))
                                obtain ⟨y237, hy237⟩ : ∃ y_ : List (S32), y_ = (l0.drop (x8_2 : Int).toNat) := ⟨_, rfl⟩
                                replace H : ((postroadlaw07_same.f k2 t228 y237).bind fun t241 => (if t241 = true then ((law_known.f).bind fun t242 => (some t242)) else (some false))) = some r := by first | (rw [hy237]; with_reducible exact H) | (have H2_ := (Option.bind_some _ _).symm.trans H; rw [hy237]; with_reducible exact H2_) | (have H2_ := (Option.bind_some _ _).symm.trans H; with_reducible exact H2_) | with_reducible exact H | (rw [hy237]; exact H) | exact H
                                have Ny237 := Aside0.mk hy237
                                clear hy237
                                replace H := Option.bind_eq_some_iff.mp H
                                obtain ⟨t241, A300, H⟩ := H
                                replace H : (if t241 = true then ((law_known.f).bind fun t242 => (some t242)) else (some false)) = some r := H
                                have A30 := Aside0.mk A300
                                clear A300
                                by_cases c31 : t241 = true
                                · subst c31
                                  have H1 : ((law_known.f).bind fun t242 => (some t242)) = some r := by rw [if_pos rfl] at H; exact H
                                  clear H
                                  have H := H1
                                  clear H1
                                  replace H := Option.bind_eq_some_iff.mp H
                                  obtain ⟨t242, A320, H⟩ := H
                                  replace H : (some t242) = some r := H
                                  have A32 := Aside0.mk A320
                                  clear A320
                                  obtain rfl := Option.some.inj H
                                  obtain ⟨Ao34, co34, eo34⟩ := Kd.R_slice HO_5.out
                                  subst eo34
                                  have q33 : (a1 : Int) ≤ ((t211.length : Int) : Int) := of_decide_eq_true (by first | (with_reducible assumption) | assumption)
                                  obtain ⟨i033, hi033, _, hsz33, _⟩ := info_parts info5
                                  have hroom33 : t211.length ≤ co34 := (Kd.R_reads' HO_5.out).2.1
                                  have hC33 : Kd.C (Kd.int .u8) _ Ao34 t211.length t211 := (Kd.R_reads' HO_5.out).2.2
                                  have hcut33 := cut_to (P := Try.prog) 25 5 .i64 Try.underlying25 hi033 Ao34 t211.length co34 a1 (of_decide_eq_true (by first | (with_reducible assumption) | assumption)) q33 hroom33
                                  have hr33 := Kd.C_take (m := (a1 : Int).toNat) hC33 (by omega)
                                  have hy33 : y216.length = (a1 : Int).toNat := (by rw [Ny216.out, List.length_take]; omega)
                                  rw [← Ny216.out] at hr33
                                  rw [← hy33] at hcut33
                                  have HR219 := Aside0.mk hr33
                                  have HC219 := Aside0.mk (show y216.length ≤ co34 from by omega)
                                  clear hr33 hC33 hroom33 hi033 hsz33
                                  have KY33 := Aside0.mk hy33
                                  clear hy33
                                  have KL33 := Aside0.mk (show (a1 : Int).toNat ≤ t211.length from by omega)
                                  replace q33 := eq_true q33
                                  go_wp2_with (first | ((with_reducible refine gate_callee (f := 11) rfl ?_); refine goesL_ (some 50) rfl rfl Try.func11 (by kernel_rfl) rfl #[.slice Ao34 y216.length co34] rfl (by (try simp only [List.map_toArray, List.map_cons, List.map_nil]); first | done | rfl | (simp only [List.length_drop, List.length_take]; rfl)) ?_; (with_reducible refine (object_Parse.calls _ _ y216 t220 t221 _ ?side1 ?side2 A18.out).mono ?_); (case side1 => repeat (first | exact (by repeat (first | (with_reducible exact HR219.out) | (with_reducible refine Kd.C_alloc ?_ _) | (with_reducible refine Kd.C_drewN ?_ _) | (with_reducible refine Kd.C_drew ?_) | exact HR219.out)) | (with_reducible refine Kd.C_alloc ?_ _) | (with_reducible refine Kd.C_drewN ?_ _) | (with_reducible refine Kd.C_drew ?_))); (case side2 => exact HC219.out); rintro e w35 ⟨v222, rfl, ho0, hb⟩; refine ⟨_, rfl, ?_⟩; have n0_ := Aside0.mk (Kd.R_below (by (with_reducible repeat (first | apply Kd.R_alloc | apply Kd.R_drewN | apply Kd.R_drew)); exact HO_5.out) hb); have n1_ := Aside0.mk (Kd.S_lower ho0 (below_size (by repeat (first | (with_reducible first | exact HB.out | apply below_alloc | apply pw_below_drewN | apply below_drew1) | exact HB.out)))); have n2_ := Aside0.mk (Kd.C_below (by repeat (first | (with_reducible exact HR219.out) | (with_reducible refine Kd.C_alloc ?_ _) | (with_reducible refine Kd.C_drewN ?_ _) | (with_reducible refine Kd.C_drew ?_) | exact HR219.out)) hb); have n3_ := Aside0.mk (below_step (by repeat (first | (with_reducible first | exact HB.out | apply below_alloc | apply pw_below_drewN | apply below_drew1) | exact HB.out)) hb); clear HO_5; clear HR219; clear HB; have HO_5 := n0_; have HO223 := n1_; have HR219 := n2_; have HB := n3_; clear n0_ n1_ n2_ n3_; (try clear hb); (try clear hb2); (try clear hk); (try clear hi); (try clear ho0); have q36 : (a1 : Int) ≤ ((t211.length : Int) : Int) := of_decide_eq_true (by first | (with_reducible assumption) | assumption); obtain ⟨i036, hi036, _, hsz36, _⟩ := info_parts info5; have hroom36 : t211.length ≤ co34 := (Kd.R_reads' HO_5.out).2.1; have hC36 : Kd.C (Kd.int .u8) _ Ao34 t211.length t211 := (Kd.R_reads' HO_5.out).2.2; have q036 : (0 : Int) ≤ (a1 : Int) := of_decide_eq_true (by first | (with_reducible assumption) | assumption); have hcut36 := cut_from (P := Try.prog) 25 5 .i64 Try.underlying25 hi036 1 hsz36 Ao34 t211.length co34 a1 q036 q36; have hr36 := Kd.C_drop (m := (a1 : Int).toNat) (c := co34) hC36 (by omega) hroom36; obtain ⟨A36, hA36⟩ : ∃ A1, A1 = (if co34 = (a1 : Int).toNat then Ao34 else (Ao34 : Option Addr).map (·.add ((a1 : Int).toNat * 1))) := ⟨_, rfl⟩; obtain ⟨c36, hc36⟩ : ∃ c1, c1 = co34 - (a1 : Int).toNat := ⟨_, rfl⟩; have hy36 : y224.length = t211.length - (a1 : Int).toNat := (by rw [Ny224.out, List.length_drop] <;> omega); rw [show (t211).drop (a1 : Int).toNat = y224 from Ny224.out.symm] at hr36; replace hr36 : Kd.C (Kd.int .u8) _ A36 y224.length y224 := (by rw [hA36]; exact hr36); rw [← hy36, ← hA36, ← hc36] at hcut36; have HR227 := Aside0.mk hr36; have HC227 := Aside0.mk (show y224.length ≤ c36 from by rw [hy36, hc36]; exact Nat.sub_le_sub_right hroom36 _); clear hr36 hC36 hroom36 hi036 hsz36 hc36; have KY36 := Aside0.mk hy36; have KA36 := Aside0.mk hA36; clear hy36 hA36; have KL36 := Aside0.mk (show (a1 : Int).toNat ≤ t211.length from by omega); replace q36 := eq_true q36) | ((with_reducible refine gate_callee (f := 11) rfl ?_); refine goesL_ (some 57) rfl rfl Try.func11 (by kernel_rfl) rfl #[.slice A36 y224.length c36] rfl (by (try simp only [List.map_toArray, List.map_cons, List.map_nil]); first | done | rfl | (simp only [List.length_drop, List.length_take]; rfl)) ?_; (with_reducible refine (object_Parse.calls _ _ y224 t228 t229 _ ?side1 ?side2 A21.out).mono ?_); (case side1 => repeat (first | exact (by repeat (first | (with_reducible exact HR227.out) | (with_reducible refine Kd.C_alloc ?_ _) | (with_reducible refine Kd.C_drewN ?_ _) | (with_reducible refine Kd.C_drew ?_) | exact HR227.out)) | (with_reducible refine Kd.C_alloc ?_ _) | (with_reducible refine Kd.C_drewN ?_ _) | (with_reducible refine Kd.C_drew ?_))); (case side2 => exact HC227.out); rintro e w37 ⟨v230, rfl, ho0, hb⟩; refine ⟨_, rfl, ?_⟩; have n0_ := Aside0.mk (Kd.R_below (by (with_reducible repeat (first | apply Kd.R_alloc | apply Kd.R_drewN | apply Kd.R_drew)); exact HO_5.out) hb); have n1_ := Aside0.mk (Kd.S_elder' (by (with_reducible repeat (first | apply Kd.S_alloc | apply Kd.S_drewN | apply Kd.S_drew)); exact HO223.out) (Kd.S_base ho0) hb); have n2_ := Aside0.mk (Kd.S_lower (Kd.S_new' ho0 (Kd.S_lt (by (with_reducible repeat (first | apply Kd.S_alloc | apply Kd.S_drewN | apply Kd.S_drew)); exact HO223.out))) (below_size (by repeat (first | (with_reducible first | exact HB.out | apply below_alloc | apply pw_below_drewN | apply below_drew1) | exact HB.out)))); have n3_ := Aside0.mk (Kd.C_below (by repeat (first | (with_reducible exact HR219.out) | (with_reducible refine Kd.C_alloc ?_ _) | (with_reducible refine Kd.C_drewN ?_ _) | (with_reducible refine Kd.C_drew ?_) | exact HR219.out)) hb); have n4_ := Aside0.mk (Kd.C_below (by repeat (first | (with_reducible exact HR227.out) | (with_reducible refine Kd.C_alloc ?_ _) | (with_reducible refine Kd.C_drewN ?_ _) | (with_reducible refine Kd.C_drew ?_) | exact HR227.out)) hb); have n5_ := Aside0.mk (below_step (by repeat (first | (with_reducible first | exact HB.out | apply below_alloc | apply pw_below_drewN | apply below_drew1) | exact HB.out)) hb); clear HO_5; clear HO223; clear HR219; clear HR227; clear HB; have HO_5 := n0_; have HO223 := n1_; have HO231 := n2_; have HR219 := n3_; have HR227 := n4_; have HB := n5_; clear n0_ n1_ n2_ n3_ n4_ n5_; (try clear hb); (try clear hb2); (try clear hk); (try clear hi); (try clear ho0); have q38 : (x8_2 : Int) ≤ ((l0.length : Int) : Int) := of_decide_eq_true (by first | (with_reducible assumption) | assumption); obtain ⟨i038, hi038, _, hsz38, _⟩ := info_parts info32; have hroom38 : l0.length ≤ c0 := HC0.out; have hC38 : Kd.C k32 _ A0 l0.length l0 := HR0.out; have hcut38 := cut_to (P := Try.prog) 22 32 .i64 Try.underlying22 hi038 A0 l0.length c0 x8_2 (of_decide_eq_true (by first | (with_reducible assumption) | assumption)) q38 hroom38; have hr38 := Kd.C_take (m := (x8_2 : Int).toNat) hC38 (by omega); have hy38 : y232.length = (x8_2 : Int).toNat := (by rw [Ny232.out, List.length_take]; omega); rw [← Ny232.out] at hr38; rw [← hy38] at hcut38; have HR235 := Aside0.mk hr38; have HC235 := Aside0.mk (show y232.length ≤ c0 from by omega); clear hr38 hC38 hroom38 hi038 hsz38; have KY38 := Aside0.mk hy38; clear hy38; replace q38 := eq_true q38; obtain ⟨Ao39, co39, eo39⟩ := Kd.S_slice HO223.out; subst eo39) | (go_at_call 12; (with_reducible refine (postroadlaw07_same.calls k2 _ _ t220 _ _ y232 true _ ?side1 ?side2 ?side3 ?side4 A25.out).mono ?_); (case side1 => repeat (first | exact (Kd.S_reads' HO223.out).2.2 | (with_reducible refine Kd.C_alloc ?_ _) | (with_reducible refine Kd.C_drewN ?_ _) | (with_reducible refine Kd.C_drew ?_))); (case side2 => exact (Kd.S_reads' HO223.out).2.1); (case side3 => repeat (first | exact (Kd.C_below HR235.out HB.out) | (with_reducible refine Kd.C_alloc ?_ _) | (with_reducible refine Kd.C_drewN ?_ _) | (with_reducible refine Kd.C_drew ?_))); (case side4 => exact HC235.out); rintro e w40 ⟨rfl, hb⟩; have n0_ := Aside0.mk (Kd.R_below (by (with_reducible repeat (first | apply Kd.R_alloc | apply Kd.R_drewN | apply Kd.R_drew)); exact HO_5.out) hb); have n1_ := Aside0.mk (Kd.S_below (by (with_reducible repeat (first | apply Kd.S_alloc | apply Kd.S_drewN | apply Kd.S_drew)); exact HO223.out) hb); have n2_ := Aside0.mk (Kd.S_below (by (with_reducible repeat (first | apply Kd.S_alloc | apply Kd.S_drewN | apply Kd.S_drew)); exact HO231.out) hb); have n3_ := Aside0.mk (Kd.C_below (by repeat (first | (with_reducible exact HR219.out) | (with_reducible refine Kd.C_alloc ?_ _) | (with_reducible refine Kd.C_drewN ?_ _) | (with_reducible refine Kd.C_drew ?_) | exact HR219.out)) hb); have n4_ := Aside0.mk (Kd.C_below (by repeat (first | (with_reducible exact HR227.out) | (with_reducible refine Kd.C_alloc ?_ _) | (with_reducible refine Kd.C_drewN ?_ _) | (with_reducible refine Kd.C_drew ?_) | exact HR227.out)) hb); have n5_ := Aside0.mk (below_step (by repeat (first | (with_reducible first | exact HB.out | apply below_alloc | apply pw_below_drewN | apply below_drew1) | exact HB.out)) hb); clear HO_5; clear HO223; clear HO231; clear HR219; clear HR227; clear HB; have HO_5 := n0_; have HO223 := n1_; have HO231 := n2_; have HR219 := n3_; have HR227 := n4_; have HB := n5_; clear n0_ n1_ n2_ n3_ n4_ n5_; (try clear hb); (try clear hb2); (try clear hk); (try clear hi); have q41 : (x8_2 : Int) ≤ ((l0.length : Int) : Int) := of_decide_eq_true (by first | (with_reducible assumption) | assumption); obtain ⟨i041, hi041, _, hsz41, _⟩ := info_parts info32; have hroom41 : l0.length ≤ c0 := HC0.out; have hC41 : Kd.C k32 _ A0 l0.length l0 := HR0.out; have q041 : (0 : Int) ≤ (x8_2 : Int) := of_decide_eq_true (by first | (with_reducible assumption) | assumption); have hcut41 := cut_from (P := Try.prog) 22 32 .i64 Try.underlying22 hi041 3 hsz41 A0 l0.length c0 x8_2 q041 q41; have hr41 := Kd.C_drop (m := (x8_2 : Int).toNat) (c := c0) hC41 (by omega) hroom41; obtain ⟨A41, hA41⟩ : ∃ A1, A1 = (if c0 = (x8_2 : Int).toNat then A0 else (A0 : Option Addr).map (·.add ((x8_2 : Int).toNat * 3))) := ⟨_, rfl⟩; obtain ⟨c41, hc41⟩ : ∃ c1, c1 = c0 - (x8_2 : Int).toNat := ⟨_, rfl⟩; have hy41 : y237.length = l0.length - (x8_2 : Int).toNat := (by rw [Ny237.out, List.length_drop] <;> omega); rw [show (l0).drop (x8_2 : Int).toNat = y237 from Ny237.out.symm] at hr41; replace hr41 : Kd.C k32 _ A41 y237.length y237 := (by rw [hA41]; exact hr41); rw [← hy41, ← hA41, ← hc41] at hcut41; have HR240 := Aside0.mk hr41; have HC240 := Aside0.mk (show y237.length ≤ c41 from by rw [hy41, hc41]; exact Nat.sub_le_sub_right hroom41 _); clear hr41 hC41 hroom41 hi041 hsz41 hc41; have KY41 := Aside0.mk hy41; have KA41 := Aside0.mk hA41; clear hy41 hA41; replace q41 := eq_true q41; obtain ⟨Ao42, co42, eo42⟩ := Kd.S_slice HO231.out; subst eo42) | (go_at_call 12; (with_reducible refine (postroadlaw07_same.calls k2 _ _ t228 _ _ y237 true _ ?side1 ?side2 ?side3 ?side4 A30.out).mono ?_); (case side1 => repeat (first | exact (Kd.S_reads' HO231.out).2.2 | (with_reducible refine Kd.C_alloc ?_ _) | (with_reducible refine Kd.C_drewN ?_ _) | (with_reducible refine Kd.C_drew ?_))); (case side2 => exact (Kd.S_reads' HO231.out).2.1); (case side3 => repeat (first | exact (Kd.C_below HR240.out HB.out) | (with_reducible refine Kd.C_alloc ?_ _) | (with_reducible refine Kd.C_drewN ?_ _) | (with_reducible refine Kd.C_drew ?_))); (case side4 => exact HC240.out); rintro e w43 ⟨rfl, hb⟩; have n0_ := Aside0.mk (Kd.R_below (by (with_reducible repeat (first | apply Kd.R_alloc | apply Kd.R_drewN | apply Kd.R_drew)); exact HO_5.out) hb); have n1_ := Aside0.mk (Kd.S_below (by (with_reducible repeat (first | apply Kd.S_alloc | apply Kd.S_drewN | apply Kd.S_drew)); exact HO223.out) hb); have n2_ := Aside0.mk (Kd.S_below (by (with_reducible repeat (first | apply Kd.S_alloc | apply Kd.S_drewN | apply Kd.S_drew)); exact HO231.out) hb); have n3_ := Aside0.mk (Kd.C_below (by repeat (first | (with_reducible exact HR219.out) | (with_reducible refine Kd.C_alloc ?_ _) | (with_reducible refine Kd.C_drewN ?_ _) | (with_reducible refine Kd.C_drew ?_) | exact HR219.out)) hb); have n4_ := Aside0.mk (Kd.C_below (by repeat (first | (with_reducible exact HR227.out) | (with_reducible refine Kd.C_alloc ?_ _) | (with_reducible refine Kd.C_drewN ?_ _) | (with_reducible refine Kd.C_drew ?_) | exact HR227.out)) hb); have n5_ := Aside0.mk (below_step (by repeat (first | (with_reducible first | exact HB.out | apply below_alloc | apply pw_below_drewN | apply below_drew1) | exact HB.out)) hb); clear HO_5; clear HO223; clear HO231; clear HR219; clear HR227; clear HB; have HO_5 := n0_; have HO223 := n1_; have HO231 := n2_; have HR219 := n3_; have HR227 := n4_; have HB := n5_; clear n0_ n1_ n2_ n3_ n4_ n5_; (try clear hb); (try clear hb2); (try clear hk); (try clear hi)) | (go_at_call 7; (with_reducible refine (law_known.calls  t242 _ A32.out).mono ?_); rintro e w44 ⟨rfl, hb⟩; have n0_ := Aside0.mk (Kd.R_below (by (with_reducible repeat (first | apply Kd.R_alloc | apply Kd.R_drewN | apply Kd.R_drew)); exact HO_5.out) hb); have n1_ := Aside0.mk (Kd.S_below (by (with_reducible repeat (first | apply Kd.S_alloc | apply Kd.S_drewN | apply Kd.S_drew)); exact HO223.out) hb); have n2_ := Aside0.mk (Kd.S_below (by (with_reducible repeat (first | apply Kd.S_alloc | apply Kd.S_drewN | apply Kd.S_drew)); exact HO231.out) hb); have n3_ := Aside0.mk (Kd.C_below (by repeat (first | (with_reducible exact HR219.out) | (with_reducible refine Kd.C_alloc ?_ _) | (with_reducible refine Kd.C_drewN ?_ _) | (with_reducible refine Kd.C_drew ?_) | exact HR219.out)) hb); have n4_ := Aside0.mk (Kd.C_below (by repeat (first | (with_reducible exact HR227.out) | (with_reducible refine Kd.C_alloc ?_ _) | (with_reducible refine Kd.C_drewN ?_ _) | (with_reducible refine Kd.C_drew ?_) | exact HR227.out)) hb); have n5_ := Aside0.mk (below_step (by repeat (first | (with_reducible first | exact HB.out | apply below_alloc | apply pw_below_drewN | apply below_drew1) | exact HB.out)) hb); clear HO_5; clear HO223; clear HO231; clear HR219; clear HR227; clear HB; have HO_5 := n0_; have HO223 := n1_; have HO231 := n2_; have HR219 := n3_; have HR227 := n4_; have HB := n5_; clear n0_ n1_ n2_ n3_ n4_ n5_; (try clear hb); (try clear hb2); (try clear hk); (try clear hi)))
                                  go_ret
                                  exact ⟨by first | rfl | (simp [errW_none, errW_some] <;> rfl) | (simp [*, errW_none, errW_some] <;> rfl), by repeat (first | (with_reducible first | exact HB.out | apply below_alloc | apply pw_below_drewN | apply below_drew1) | exact HB.out)⟩
                                · replace c31 := Bool.eq_false_iff.mpr c31
                                  subst c31
                                  have H1 : (some false) = some r := by rw [if_neg (show ¬ (false = true) by decide)] at H; exact H
                                  clear H
                                  have H := H1
                                  clear H1
                                  obtain rfl := Option.some.inj H
                                  obtain ⟨Ao46, co46, eo46⟩ := Kd.R_slice HO_5.out
                                  subst eo46
                                  have q45 : (a1 : Int) ≤ ((t211.length : Int) : Int) := of_decide_eq_true (by first | (with_reducible assumption) | assumption)
                                  obtain ⟨i045, hi045, _, hsz45, _⟩ := info_parts info5
                                  have hroom45 : t211.length ≤ co46 := (Kd.R_reads' HO_5.out).2.1
                                  have hC45 : Kd.C (Kd.int .u8) _ Ao46 t211.length t211 := (Kd.R_reads' HO_5.out).2.2
                                  have hcut45 := cut_to (P := Try.prog) 25 5 .i64 Try.underlying25 hi045 Ao46 t211.length co46 a1 (of_decide_eq_true (by first | (with_reducible assumption) | assumption)) q45 hroom45
                                  have hr45 := Kd.C_take (m := (a1 : Int).toNat) hC45 (by omega)
                                  have hy45 : y216.length = (a1 : Int).toNat := (by rw [Ny216.out, List.length_take]; omega)
                                  rw [← Ny216.out] at hr45
                                  rw [← hy45] at hcut45
                                  have HR219 := Aside0.mk hr45
                                  have HC219 := Aside0.mk (show y216.length ≤ co46 from by omega)
                                  clear hr45 hC45 hroom45 hi045 hsz45
                                  have KY45 := Aside0.mk hy45
                                  clear hy45
                                  have KL45 := Aside0.mk (show (a1 : Int).toNat ≤ t211.length from by omega)
                                  replace q45 := eq_true q45
                                  go_wp2_with (first | ((with_reducible refine gate_callee (f := 11) rfl ?_); refine goesL_ (some 50) rfl rfl Try.func11 (by kernel_rfl) rfl #[.slice Ao46 y216.length co46] rfl (by (try simp only [List.map_toArray, List.map_cons, List.map_nil]); first | done | rfl | (simp only [List.length_drop, List.length_take]; rfl)) ?_; (with_reducible refine (object_Parse.calls _ _ y216 t220 t221 _ ?side1 ?side2 A18.out).mono ?_); (case side1 => repeat (first | exact (by repeat (first | (with_reducible exact HR219.out) | (with_reducible refine Kd.C_alloc ?_ _) | (with_reducible refine Kd.C_drewN ?_ _) | (with_reducible refine Kd.C_drew ?_) | exact HR219.out)) | (with_reducible refine Kd.C_alloc ?_ _) | (with_reducible refine Kd.C_drewN ?_ _) | (with_reducible refine Kd.C_drew ?_))); (case side2 => exact HC219.out); rintro e w47 ⟨v222, rfl, ho0, hb⟩; refine ⟨_, rfl, ?_⟩; have n0_ := Aside0.mk (Kd.R_below (by (with_reducible repeat (first | apply Kd.R_alloc | apply Kd.R_drewN | apply Kd.R_drew)); exact HO_5.out) hb); have n1_ := Aside0.mk (Kd.S_lower ho0 (below_size (by repeat (first | (with_reducible first | exact HB.out | apply below_alloc | apply pw_below_drewN | apply below_drew1) | exact HB.out)))); have n2_ := Aside0.mk (Kd.C_below (by repeat (first | (with_reducible exact HR219.out) | (with_reducible refine Kd.C_alloc ?_ _) | (with_reducible refine Kd.C_drewN ?_ _) | (with_reducible refine Kd.C_drew ?_) | exact HR219.out)) hb); have n3_ := Aside0.mk (below_step (by repeat (first | (with_reducible first | exact HB.out | apply below_alloc | apply pw_below_drewN | apply below_drew1) | exact HB.out)) hb); clear HO_5; clear HR219; clear HB; have HO_5 := n0_; have HO223 := n1_; have HR219 := n2_; have HB := n3_; clear n0_ n1_ n2_ n3_; (try clear hb); (try clear hb2); (try clear hk); (try clear hi); (try clear ho0); have q48 : (a1 : Int) ≤ ((t211.length : Int) : Int) := of_decide_eq_true (by first | (with_reducible assumption) | assumption); obtain ⟨i048, hi048, _, hsz48, _⟩ := info_parts info5; have hroom48 : t211.length ≤ co46 := (Kd.R_reads' HO_5.out).2.1; have hC48 : Kd.C (Kd.int .u8) _ Ao46 t211.length t211 := (Kd.R_reads' HO_5.out).2.2; have q048 : (0 : Int) ≤ (a1 : Int) := of_decide_eq_true (by first | (with_reducible assumption) | assumption); have hcut48 := cut_from (P := Try.prog) 25 5 .i64 Try.underlying25 hi048 1 hsz48 Ao46 t211.length co46 a1 q048 q48; have hr48 := Kd.C_drop (m := (a1 : Int).toNat) (c := co46) hC48 (by omega) hroom48; obtain ⟨A48, hA48⟩ : ∃ A1, A1 = (if co46 = (a1 : Int).toNat then Ao46 else (Ao46 : Option Addr).map (·.add ((a1 : Int).toNat * 1))) := ⟨_, rfl⟩; obtain ⟨c48, hc48⟩ : ∃ c1, c1 = co46 - (a1 : Int).toNat := ⟨_, rfl⟩; have hy48 : y224.length = t211.length - (a1 : Int).toNat := (by rw [Ny224.out, List.length_drop] <;> omega); rw [show (t211).drop (a1 : Int).toNat = y224 from Ny224.out.symm] at hr48; replace hr48 : Kd.C (Kd.int .u8) _ A48 y224.length y224 := (by rw [hA48]; exact hr48); rw [← hy48, ← hA48, ← hc48] at hcut48; have HR227 := Aside0.mk hr48; have HC227 := Aside0.mk (show y224.length ≤ c48 from by rw [hy48, hc48]; exact Nat.sub_le_sub_right hroom48 _); clear hr48 hC48 hroom48 hi048 hsz48 hc48; have KY48 := Aside0.mk hy48; have KA48 := Aside0.mk hA48; clear hy48 hA48; have KL48 := Aside0.mk (show (a1 : Int).toNat ≤ t211.length from by omega); replace q48 := eq_true q48) | ((with_reducible refine gate_callee (f := 11) rfl ?_); refine goesL_ (some 57) rfl rfl Try.func11 (by kernel_rfl) rfl #[.slice A48 y224.length c48] rfl (by (try simp only [List.map_toArray, List.map_cons, List.map_nil]); first | done | rfl | (simp only [List.length_drop, List.length_take]; rfl)) ?_; (with_reducible refine (object_Parse.calls _ _ y224 t228 t229 _ ?side1 ?side2 A21.out).mono ?_); (case side1 => repeat (first | exact (by repeat (first | (with_reducible exact HR227.out) | (with_reducible refine Kd.C_alloc ?_ _) | (with_reducible refine Kd.C_drewN ?_ _) | (with_reducible refine Kd.C_drew ?_) | exact HR227.out)) | (with_reducible refine Kd.C_alloc ?_ _) | (with_reducible refine Kd.C_drewN ?_ _) | (with_reducible refine Kd.C_drew ?_))); (case side2 => exact HC227.out); rintro e w49 ⟨v230, rfl, ho0, hb⟩; refine ⟨_, rfl, ?_⟩; have n0_ := Aside0.mk (Kd.R_below (by (with_reducible repeat (first | apply Kd.R_alloc | apply Kd.R_drewN | apply Kd.R_drew)); exact HO_5.out) hb); have n1_ := Aside0.mk (Kd.S_elder' (by (with_reducible repeat (first | apply Kd.S_alloc | apply Kd.S_drewN | apply Kd.S_drew)); exact HO223.out) (Kd.S_base ho0) hb); have n2_ := Aside0.mk (Kd.S_lower (Kd.S_new' ho0 (Kd.S_lt (by (with_reducible repeat (first | apply Kd.S_alloc | apply Kd.S_drewN | apply Kd.S_drew)); exact HO223.out))) (below_size (by repeat (first | (with_reducible first | exact HB.out | apply below_alloc | apply pw_below_drewN | apply below_drew1) | exact HB.out)))); have n3_ := Aside0.mk (Kd.C_below (by repeat (first | (with_reducible exact HR219.out) | (with_reducible refine Kd.C_alloc ?_ _) | (with_reducible refine Kd.C_drewN ?_ _) | (with_reducible refine Kd.C_drew ?_) | exact HR219.out)) hb); have n4_ := Aside0.mk (Kd.C_below (by repeat (first | (with_reducible exact HR227.out) | (with_reducible refine Kd.C_alloc ?_ _) | (with_reducible refine Kd.C_drewN ?_ _) | (with_reducible refine Kd.C_drew ?_) | exact HR227.out)) hb); have n5_ := Aside0.mk (below_step (by repeat (first | (with_reducible first | exact HB.out | apply below_alloc | apply pw_below_drewN | apply below_drew1) | exact HB.out)) hb); clear HO_5; clear HO223; clear HR219; clear HR227; clear HB; have HO_5 := n0_; have HO223 := n1_; have HO231 := n2_; have HR219 := n3_; have HR227 := n4_; have HB := n5_; clear n0_ n1_ n2_ n3_ n4_ n5_; (try clear hb); (try clear hb2); (try clear hk); (try clear hi); (try clear ho0); have q50 : (x8_2 : Int) ≤ ((l0.length : Int) : Int) := of_decide_eq_true (by first | (with_reducible assumption) | assumption); obtain ⟨i050, hi050, _, hsz50, _⟩ := info_parts info32; have hroom50 : l0.length ≤ c0 := HC0.out; have hC50 : Kd.C k32 _ A0 l0.length l0 := HR0.out; have hcut50 := cut_to (P := Try.prog) 22 32 .i64 Try.underlying22 hi050 A0 l0.length c0 x8_2 (of_decide_eq_true (by first | (with_reducible assumption) | assumption)) q50 hroom50; have hr50 := Kd.C_take (m := (x8_2 : Int).toNat) hC50 (by omega); have hy50 : y232.length = (x8_2 : Int).toNat := (by rw [Ny232.out, List.length_take]; omega); rw [← Ny232.out] at hr50; rw [← hy50] at hcut50; have HR235 := Aside0.mk hr50; have HC235 := Aside0.mk (show y232.length ≤ c0 from by omega); clear hr50 hC50 hroom50 hi050 hsz50; have KY50 := Aside0.mk hy50; clear hy50; replace q50 := eq_true q50; obtain ⟨Ao51, co51, eo51⟩ := Kd.S_slice HO223.out; subst eo51) | (go_at_call 12; (with_reducible refine (postroadlaw07_same.calls k2 _ _ t220 _ _ y232 true _ ?side1 ?side2 ?side3 ?side4 A25.out).mono ?_); (case side1 => repeat (first | exact (Kd.S_reads' HO223.out).2.2 | (with_reducible refine Kd.C_alloc ?_ _) | (with_reducible refine Kd.C_drewN ?_ _) | (with_reducible refine Kd.C_drew ?_))); (case side2 => exact (Kd.S_reads' HO223.out).2.1); (case side3 => repeat (first | exact (Kd.C_below HR235.out HB.out) | (with_reducible refine Kd.C_alloc ?_ _) | (with_reducible refine Kd.C_drewN ?_ _) | (with_reducible refine Kd.C_drew ?_))); (case side4 => exact HC235.out); rintro e w52 ⟨rfl, hb⟩; have n0_ := Aside0.mk (Kd.R_below (by (with_reducible repeat (first | apply Kd.R_alloc | apply Kd.R_drewN | apply Kd.R_drew)); exact HO_5.out) hb); have n1_ := Aside0.mk (Kd.S_below (by (with_reducible repeat (first | apply Kd.S_alloc | apply Kd.S_drewN | apply Kd.S_drew)); exact HO223.out) hb); have n2_ := Aside0.mk (Kd.S_below (by (with_reducible repeat (first | apply Kd.S_alloc | apply Kd.S_drewN | apply Kd.S_drew)); exact HO231.out) hb); have n3_ := Aside0.mk (Kd.C_below (by repeat (first | (with_reducible exact HR219.out) | (with_reducible refine Kd.C_alloc ?_ _) | (with_reducible refine Kd.C_drewN ?_ _) | (with_reducible refine Kd.C_drew ?_) | exact HR219.out)) hb); have n4_ := Aside0.mk (Kd.C_below (by repeat (first | (with_reducible exact HR227.out) | (with_reducible refine Kd.C_alloc ?_ _) | (with_reducible refine Kd.C_drewN ?_ _) | (with_reducible refine Kd.C_drew ?_) | exact HR227.out)) hb); have n5_ := Aside0.mk (below_step (by repeat (first | (with_reducible first | exact HB.out | apply below_alloc | apply pw_below_drewN | apply below_drew1) | exact HB.out)) hb); clear HO_5; clear HO223; clear HO231; clear HR219; clear HR227; clear HB; have HO_5 := n0_; have HO223 := n1_; have HO231 := n2_; have HR219 := n3_; have HR227 := n4_; have HB := n5_; clear n0_ n1_ n2_ n3_ n4_ n5_; (try clear hb); (try clear hb2); (try clear hk); (try clear hi); have q53 : (x8_2 : Int) ≤ ((l0.length : Int) : Int) := of_decide_eq_true (by first | (with_reducible assumption) | assumption); obtain ⟨i053, hi053, _, hsz53, _⟩ := info_parts info32; have hroom53 : l0.length ≤ c0 := HC0.out; have hC53 : Kd.C k32 _ A0 l0.length l0 := HR0.out; have q053 : (0 : Int) ≤ (x8_2 : Int) := of_decide_eq_true (by first | (with_reducible assumption) | assumption); have hcut53 := cut_from (P := Try.prog) 22 32 .i64 Try.underlying22 hi053 3 hsz53 A0 l0.length c0 x8_2 q053 q53; have hr53 := Kd.C_drop (m := (x8_2 : Int).toNat) (c := c0) hC53 (by omega) hroom53; obtain ⟨A53, hA53⟩ : ∃ A1, A1 = (if c0 = (x8_2 : Int).toNat then A0 else (A0 : Option Addr).map (·.add ((x8_2 : Int).toNat * 3))) := ⟨_, rfl⟩; obtain ⟨c53, hc53⟩ : ∃ c1, c1 = c0 - (x8_2 : Int).toNat := ⟨_, rfl⟩; have hy53 : y237.length = l0.length - (x8_2 : Int).toNat := (by rw [Ny237.out, List.length_drop] <;> omega); rw [show (l0).drop (x8_2 : Int).toNat = y237 from Ny237.out.symm] at hr53; replace hr53 : Kd.C k32 _ A53 y237.length y237 := (by rw [hA53]; exact hr53); rw [← hy53, ← hA53, ← hc53] at hcut53; have HR240 := Aside0.mk hr53; have HC240 := Aside0.mk (show y237.length ≤ c53 from by rw [hy53, hc53]; exact Nat.sub_le_sub_right hroom53 _); clear hr53 hC53 hroom53 hi053 hsz53 hc53; have KY53 := Aside0.mk hy53; have KA53 := Aside0.mk hA53; clear hy53 hA53; replace q53 := eq_true q53; obtain ⟨Ao54, co54, eo54⟩ := Kd.S_slice HO231.out; subst eo54) | (go_at_call 12; (with_reducible refine (postroadlaw07_same.calls k2 _ _ t228 _ _ y237 false _ ?side1 ?side2 ?side3 ?side4 A30.out).mono ?_); (case side1 => repeat (first | exact (Kd.S_reads' HO231.out).2.2 | (with_reducible refine Kd.C_alloc ?_ _) | (with_reducible refine Kd.C_drewN ?_ _) | (with_reducible refine Kd.C_drew ?_))); (case side2 => exact (Kd.S_reads' HO231.out).2.1); (case side3 => repeat (first | exact (Kd.C_below HR240.out HB.out) | (with_reducible refine Kd.C_alloc ?_ _) | (with_reducible refine Kd.C_drewN ?_ _) | (with_reducible refine Kd.C_drew ?_))); (case side4 => exact HC240.out); rintro e w55 ⟨rfl, hb⟩; have n0_ := Aside0.mk (Kd.R_below (by (with_reducible repeat (first | apply Kd.R_alloc | apply Kd.R_drewN | apply Kd.R_drew)); exact HO_5.out) hb); have n1_ := Aside0.mk (Kd.S_below (by (with_reducible repeat (first | apply Kd.S_alloc | apply Kd.S_drewN | apply Kd.S_drew)); exact HO223.out) hb); have n2_ := Aside0.mk (Kd.S_below (by (with_reducible repeat (first | apply Kd.S_alloc | apply Kd.S_drewN | apply Kd.S_drew)); exact HO231.out) hb); have n3_ := Aside0.mk (Kd.C_below (by repeat (first | (with_reducible exact HR219.out) | (with_reducible refine Kd.C_alloc ?_ _) | (with_reducible refine Kd.C_drewN ?_ _) | (with_reducible refine Kd.C_drew ?_) | exact HR219.out)) hb); have n4_ := Aside0.mk (Kd.C_below (by repeat (first | (with_reducible exact HR227.out) | (with_reducible refine Kd.C_alloc ?_ _) | (with_reducible refine Kd.C_drewN ?_ _) | (with_reducible refine Kd.C_drew ?_) | exact HR227.out)) hb); have n5_ := Aside0.mk (below_step (by repeat (first | (with_reducible first | exact HB.out | apply below_alloc | apply pw_below_drewN | apply below_drew1) | exact HB.out)) hb); clear HO_5; clear HO223; clear HO231; clear HR219; clear HR227; clear HB; have HO_5 := n0_; have HO223 := n1_; have HO231 := n2_; have HR219 := n3_; have HR227 := n4_; have HB := n5_; clear n0_ n1_ n2_ n3_ n4_ n5_; (try clear hb); (try clear hb2); (try clear hk); (try clear hi)))
                                  go_ret
                                  exact ⟨by first | rfl | (simp [errW_none, errW_some] <;> rfl) | (simp [*, errW_none, errW_some] <;> rfl), by repeat (first | (with_reducible first | exact HB.out | apply below_alloc | apply pw_below_drewN | apply below_drew1) | exact HB.out)⟩
                              · rw [if_neg c27] at H
                                have c27b0 : (t229 == 0) = false := beq_eq_false_iff_ne.mpr c27
                                have c27b1 : (t229 != 0) = true := bne_iff_ne.mpr c27
                                obtain rfl := Option.some.inj H
                                obtain ⟨Ao57, co57, eo57⟩ := Kd.R_slice HO_5.out
                                subst eo57
                                have q56 : (a1 : Int) ≤ ((t211.length : Int) : Int) := of_decide_eq_true (by first | (with_reducible assumption) | assumption)
                                obtain ⟨i056, hi056, _, hsz56, _⟩ := info_parts info5
                                have hroom56 : t211.length ≤ co57 := (Kd.R_reads' HO_5.out).2.1
                                have hC56 : Kd.C (Kd.int .u8) _ Ao57 t211.length t211 := (Kd.R_reads' HO_5.out).2.2
                                have hcut56 := cut_to (P := Try.prog) 25 5 .i64 Try.underlying25 hi056 Ao57 t211.length co57 a1 (of_decide_eq_true (by first | (with_reducible assumption) | assumption)) q56 hroom56
                                have hr56 := Kd.C_take (m := (a1 : Int).toNat) hC56 (by omega)
                                have hy56 : y216.length = (a1 : Int).toNat := (by rw [Ny216.out, List.length_take]; omega)
                                rw [← Ny216.out] at hr56
                                rw [← hy56] at hcut56
                                have HR219 := Aside0.mk hr56
                                have HC219 := Aside0.mk (show y216.length ≤ co57 from by omega)
                                clear hr56 hC56 hroom56 hi056 hsz56
                                have KY56 := Aside0.mk hy56
                                clear hy56
                                have KL56 := Aside0.mk (show (a1 : Int).toNat ≤ t211.length from by omega)
                                replace q56 := eq_true q56
                                go_wp2_with (first | ((with_reducible refine gate_callee (f := 11) rfl ?_); refine goesL_ (some 50) rfl rfl Try.func11 (by kernel_rfl) rfl #[.slice Ao57 y216.length co57] rfl (by (try simp only [List.map_toArray, List.map_cons, List.map_nil]); first | done | rfl | (simp only [List.length_drop, List.length_take]; rfl)) ?_; (with_reducible refine (object_Parse.calls _ _ y216 t220 t221 _ ?side1 ?side2 A18.out).mono ?_); (case side1 => repeat (first | exact (by repeat (first | (with_reducible exact HR219.out) | (with_reducible refine Kd.C_alloc ?_ _) | (with_reducible refine Kd.C_drewN ?_ _) | (with_reducible refine Kd.C_drew ?_) | exact HR219.out)) | (with_reducible refine Kd.C_alloc ?_ _) | (with_reducible refine Kd.C_drewN ?_ _) | (with_reducible refine Kd.C_drew ?_))); (case side2 => exact HC219.out); rintro e w58 ⟨v222, rfl, ho0, hb⟩; refine ⟨_, rfl, ?_⟩; have n0_ := Aside0.mk (Kd.R_below (by (with_reducible repeat (first | apply Kd.R_alloc | apply Kd.R_drewN | apply Kd.R_drew)); exact HO_5.out) hb); have n1_ := Aside0.mk (Kd.S_lower ho0 (below_size (by repeat (first | (with_reducible first | exact HB.out | apply below_alloc | apply pw_below_drewN | apply below_drew1) | exact HB.out)))); have n2_ := Aside0.mk (Kd.C_below (by repeat (first | (with_reducible exact HR219.out) | (with_reducible refine Kd.C_alloc ?_ _) | (with_reducible refine Kd.C_drewN ?_ _) | (with_reducible refine Kd.C_drew ?_) | exact HR219.out)) hb); have n3_ := Aside0.mk (below_step (by repeat (first | (with_reducible first | exact HB.out | apply below_alloc | apply pw_below_drewN | apply below_drew1) | exact HB.out)) hb); clear HO_5; clear HR219; clear HB; have HO_5 := n0_; have HO223 := n1_; have HR219 := n2_; have HB := n3_; clear n0_ n1_ n2_ n3_; (try clear hb); (try clear hb2); (try clear hk); (try clear hi); (try clear ho0); have q59 : (a1 : Int) ≤ ((t211.length : Int) : Int) := of_decide_eq_true (by first | (with_reducible assumption) | assumption); obtain ⟨i059, hi059, _, hsz59, _⟩ := info_parts info5; have hroom59 : t211.length ≤ co57 := (Kd.R_reads' HO_5.out).2.1; have hC59 : Kd.C (Kd.int .u8) _ Ao57 t211.length t211 := (Kd.R_reads' HO_5.out).2.2; have q059 : (0 : Int) ≤ (a1 : Int) := of_decide_eq_true (by first | (with_reducible assumption) | assumption); have hcut59 := cut_from (P := Try.prog) 25 5 .i64 Try.underlying25 hi059 1 hsz59 Ao57 t211.length co57 a1 q059 q59; have hr59 := Kd.C_drop (m := (a1 : Int).toNat) (c := co57) hC59 (by omega) hroom59; obtain ⟨A59, hA59⟩ : ∃ A1, A1 = (if co57 = (a1 : Int).toNat then Ao57 else (Ao57 : Option Addr).map (·.add ((a1 : Int).toNat * 1))) := ⟨_, rfl⟩; obtain ⟨c59, hc59⟩ : ∃ c1, c1 = co57 - (a1 : Int).toNat := ⟨_, rfl⟩; have hy59 : y224.length = t211.length - (a1 : Int).toNat := (by rw [Ny224.out, List.length_drop] <;> omega); rw [show (t211).drop (a1 : Int).toNat = y224 from Ny224.out.symm] at hr59; replace hr59 : Kd.C (Kd.int .u8) _ A59 y224.length y224 := (by rw [hA59]; exact hr59); rw [← hy59, ← hA59, ← hc59] at hcut59; have HR227 := Aside0.mk hr59; have HC227 := Aside0.mk (show y224.length ≤ c59 from by rw [hy59, hc59]; exact Nat.sub_le_sub_right hroom59 _); clear hr59 hC59 hroom59 hi059 hsz59 hc59; have KY59 := Aside0.mk hy59; have KA59 := Aside0.mk hA59; clear hy59 hA59; have KL59 := Aside0.mk (show (a1 : Int).toNat ≤ t211.length from by omega); replace q59 := eq_true q59) | ((with_reducible refine gate_callee (f := 11) rfl ?_); refine goesL_ (some 57) rfl rfl Try.func11 (by kernel_rfl) rfl #[.slice A59 y224.length c59] rfl (by (try simp only [List.map_toArray, List.map_cons, List.map_nil]); first | done | rfl | (simp only [List.length_drop, List.length_take]; rfl)) ?_; (with_reducible refine (object_Parse.calls _ _ y224 t228 t229 _ ?side1 ?side2 A21.out).mono ?_); (case side1 => repeat (first | exact (by repeat (first | (with_reducible exact HR227.out) | (with_reducible refine Kd.C_alloc ?_ _) | (with_reducible refine Kd.C_drewN ?_ _) | (with_reducible refine Kd.C_drew ?_) | exact HR227.out)) | (with_reducible refine Kd.C_alloc ?_ _) | (with_reducible refine Kd.C_drewN ?_ _) | (with_reducible refine Kd.C_drew ?_))); (case side2 => exact HC227.out); rintro e w60 ⟨v230, rfl, ho0, hb⟩; refine ⟨_, rfl, ?_⟩; have n0_ := Aside0.mk (Kd.R_below (by (with_reducible repeat (first | apply Kd.R_alloc | apply Kd.R_drewN | apply Kd.R_drew)); exact HO_5.out) hb); have n1_ := Aside0.mk (Kd.S_elder' (by (with_reducible repeat (first | apply Kd.S_alloc | apply Kd.S_drewN | apply Kd.S_drew)); exact HO223.out) (Kd.S_base ho0) hb); have n2_ := Aside0.mk (Kd.S_lower (Kd.S_new' ho0 (Kd.S_lt (by (with_reducible repeat (first | apply Kd.S_alloc | apply Kd.S_drewN | apply Kd.S_drew)); exact HO223.out))) (below_size (by repeat (first | (with_reducible first | exact HB.out | apply below_alloc | apply pw_below_drewN | apply below_drew1) | exact HB.out)))); have n3_ := Aside0.mk (Kd.C_below (by repeat (first | (with_reducible exact HR219.out) | (with_reducible refine Kd.C_alloc ?_ _) | (with_reducible refine Kd.C_drewN ?_ _) | (with_reducible refine Kd.C_drew ?_) | exact HR219.out)) hb); have n4_ := Aside0.mk (Kd.C_below (by repeat (first | (with_reducible exact HR227.out) | (with_reducible refine Kd.C_alloc ?_ _) | (with_reducible refine Kd.C_drewN ?_ _) | (with_reducible refine Kd.C_drew ?_) | exact HR227.out)) hb); have n5_ := Aside0.mk (below_step (by repeat (first | (with_reducible first | exact HB.out | apply below_alloc | apply pw_below_drewN | apply below_drew1) | exact HB.out)) hb); clear HO_5; clear HO223; clear HR219; clear HR227; clear HB; have HO_5 := n0_; have HO223 := n1_; have HO231 := n2_; have HR219 := n3_; have HR227 := n4_; have HB := n5_; clear n0_ n1_ n2_ n3_ n4_ n5_; (try clear hb); (try clear hb2); (try clear hk); (try clear hi); (try clear ho0); have q61 : (x8_2 : Int) ≤ ((l0.length : Int) : Int) := of_decide_eq_true (by first | (with_reducible assumption) | assumption); obtain ⟨i061, hi061, _, hsz61, _⟩ := info_parts info32; have hroom61 : l0.length ≤ c0 := HC0.out; have hC61 : Kd.C k32 _ A0 l0.length l0 := HR0.out; have hcut61 := cut_to (P := Try.prog) 22 32 .i64 Try.underlying22 hi061 A0 l0.length c0 x8_2 (of_decide_eq_true (by first | (with_reducible assumption) | assumption)) q61 hroom61; have hr61 := Kd.C_take (m := (x8_2 : Int).toNat) hC61 (by omega); have hy61 : y232.length = (x8_2 : Int).toNat := (by rw [Ny232.out, List.length_take]; omega); rw [← Ny232.out] at hr61; rw [← hy61] at hcut61; have HR235 := Aside0.mk hr61; have HC235 := Aside0.mk (show y232.length ≤ c0 from by omega); clear hr61 hC61 hroom61 hi061 hsz61; have KY61 := Aside0.mk hy61; clear hy61; replace q61 := eq_true q61; obtain ⟨Ao62, co62, eo62⟩ := Kd.S_slice HO223.out; subst eo62) | (go_at_call 12; (with_reducible refine (postroadlaw07_same.calls k2 _ _ t220 _ _ y232 true _ ?side1 ?side2 ?side3 ?side4 A25.out).mono ?_); (case side1 => repeat (first | exact (Kd.S_reads' HO223.out).2.2 | (with_reducible refine Kd.C_alloc ?_ _) | (with_reducible refine Kd.C_drewN ?_ _) | (with_reducible refine Kd.C_drew ?_))); (case side2 => exact (Kd.S_reads' HO223.out).2.1); (case side3 => repeat (first | exact (Kd.C_below HR235.out HB.out) | (with_reducible refine Kd.C_alloc ?_ _) | (with_reducible refine Kd.C_drewN ?_ _) | (with_reducible refine Kd.C_drew ?_))); (case side4 => exact HC235.out); rintro e w63 ⟨rfl, hb⟩; have n0_ := Aside0.mk (Kd.R_below (by (with_reducible repeat (first | apply Kd.R_alloc | apply Kd.R_drewN | apply Kd.R_drew)); exact HO_5.out) hb); have n1_ := Aside0.mk (Kd.S_below (by (with_reducible repeat (first | apply Kd.S_alloc | apply Kd.S_drewN | apply Kd.S_drew)); exact HO223.out) hb); have n2_ := Aside0.mk (Kd.S_below (by (with_reducible repeat (first | apply Kd.S_alloc | apply Kd.S_drewN | apply Kd.S_drew)); exact HO231.out) hb); have n3_ := Aside0.mk (Kd.C_below (by repeat (first | (with_reducible exact HR219.out) | (with_reducible refine Kd.C_alloc ?_ _) | (with_reducible refine Kd.C_drewN ?_ _) | (with_reducible refine Kd.C_drew ?_) | exact HR219.out)) hb); have n4_ := Aside0.mk (Kd.C_below (by repeat (first | (with_reducible exact HR227.out) | (with_reducible refine Kd.C_alloc ?_ _) | (with_reducible refine Kd.C_drewN ?_ _) | (with_reducible refine Kd.C_drew ?_) | exact HR227.out)) hb); have n5_ := Aside0.mk (below_step (by repeat (first | (with_reducible first | exact HB.out | apply below_alloc | apply pw_below_drewN | apply below_drew1) | exact HB.out)) hb); clear HO_5; clear HO223; clear HO231; clear HR219; clear HR227; clear HB; have HO_5 := n0_; have HO223 := n1_; have HO231 := n2_; have HR219 := n3_; have HR227 := n4_; have HB := n5_; clear n0_ n1_ n2_ n3_ n4_ n5_; (try clear hb); (try clear hb2); (try clear hk); (try clear hi)))
                                go_ret
                                exact ⟨by first | rfl | (simp [errW_none, errW_some] <;> rfl) | (simp [*, errW_none, errW_some] <;> rfl), by repeat (first | (with_reducible first | exact HB.out | apply below_alloc | apply pw_below_drewN | apply below_drew1) | exact HB.out)⟩
                            · replace c26 := Bool.eq_false_iff.mpr c26
                              subst c26
                              have H1 : (some false) = some r := by rw [if_neg (show ¬ (false = true) by decide)] at H; exact H
                              clear H
                              have H := H1
                              clear H1
                              obtain rfl := Option.some.inj H
                              obtain ⟨Ao65, co65, eo65⟩ := Kd.R_slice HO_5.out
                              subst eo65
                              have q64 : (a1 : Int) ≤ ((t211.length : Int) : Int) := of_decide_eq_true (by first | (with_reducible assumption) | assumption)
                              obtain ⟨i064, hi064, _, hsz64, _⟩ := info_parts info5
                              have hroom64 : t211.length ≤ co65 := (Kd.R_reads' HO_5.out).2.1
                              have hC64 : Kd.C (Kd.int .u8) _ Ao65 t211.length t211 := (Kd.R_reads' HO_5.out).2.2
                              have hcut64 := cut_to (P := Try.prog) 25 5 .i64 Try.underlying25 hi064 Ao65 t211.length co65 a1 (of_decide_eq_true (by first | (with_reducible assumption) | assumption)) q64 hroom64
                              have hr64 := Kd.C_take (m := (a1 : Int).toNat) hC64 (by omega)
                              have hy64 : y216.length = (a1 : Int).toNat := (by rw [Ny216.out, List.length_take]; omega)
                              rw [← Ny216.out] at hr64
                              rw [← hy64] at hcut64
                              have HR219 := Aside0.mk hr64
                              have HC219 := Aside0.mk (show y216.length ≤ co65 from by omega)
                              clear hr64 hC64 hroom64 hi064 hsz64
                              have KY64 := Aside0.mk hy64
                              clear hy64
                              have KL64 := Aside0.mk (show (a1 : Int).toNat ≤ t211.length from by omega)
                              replace q64 := eq_true q64
                              go_wp2_with (first | ((with_reducible refine gate_callee (f := 11) rfl ?_); refine goesL_ (some 50) rfl rfl Try.func11 (by kernel_rfl) rfl #[.slice Ao65 y216.length co65] rfl (by (try simp only [List.map_toArray, List.map_cons, List.map_nil]); first | done | rfl | (simp only [List.length_drop, List.length_take]; rfl)) ?_; (with_reducible refine (object_Parse.calls _ _ y216 t220 t221 _ ?side1 ?side2 A18.out).mono ?_); (case side1 => repeat (first | exact (by repeat (first | (with_reducible exact HR219.out) | (with_reducible refine Kd.C_alloc ?_ _) | (with_reducible refine Kd.C_drewN ?_ _) | (with_reducible refine Kd.C_drew ?_) | exact HR219.out)) | (with_reducible refine Kd.C_alloc ?_ _) | (with_reducible refine Kd.C_drewN ?_ _) | (with_reducible refine Kd.C_drew ?_))); (case side2 => exact HC219.out); rintro e w66 ⟨v222, rfl, ho0, hb⟩; refine ⟨_, rfl, ?_⟩; have n0_ := Aside0.mk (Kd.R_below (by (with_reducible repeat (first | apply Kd.R_alloc | apply Kd.R_drewN | apply Kd.R_drew)); exact HO_5.out) hb); have n1_ := Aside0.mk (Kd.S_lower ho0 (below_size (by repeat (first | (with_reducible first | exact HB.out | apply below_alloc | apply pw_below_drewN | apply below_drew1) | exact HB.out)))); have n2_ := Aside0.mk (Kd.C_below (by repeat (first | (with_reducible exact HR219.out) | (with_reducible refine Kd.C_alloc ?_ _) | (with_reducible refine Kd.C_drewN ?_ _) | (with_reducible refine Kd.C_drew ?_) | exact HR219.out)) hb); have n3_ := Aside0.mk (below_step (by repeat (first | (with_reducible first | exact HB.out | apply below_alloc | apply pw_below_drewN | apply below_drew1) | exact HB.out)) hb); clear HO_5; clear HR219; clear HB; have HO_5 := n0_; have HO223 := n1_; have HR219 := n2_; have HB := n3_; clear n0_ n1_ n2_ n3_; (try clear hb); (try clear hb2); (try clear hk); (try clear hi); (try clear ho0); have q67 : (a1 : Int) ≤ ((t211.length : Int) : Int) := of_decide_eq_true (by first | (with_reducible assumption) | assumption); obtain ⟨i067, hi067, _, hsz67, _⟩ := info_parts info5; have hroom67 : t211.length ≤ co65 := (Kd.R_reads' HO_5.out).2.1; have hC67 : Kd.C (Kd.int .u8) _ Ao65 t211.length t211 := (Kd.R_reads' HO_5.out).2.2; have q067 : (0 : Int) ≤ (a1 : Int) := of_decide_eq_true (by first | (with_reducible assumption) | assumption); have hcut67 := cut_from (P := Try.prog) 25 5 .i64 Try.underlying25 hi067 1 hsz67 Ao65 t211.length co65 a1 q067 q67; have hr67 := Kd.C_drop (m := (a1 : Int).toNat) (c := co65) hC67 (by omega) hroom67; obtain ⟨A67, hA67⟩ : ∃ A1, A1 = (if co65 = (a1 : Int).toNat then Ao65 else (Ao65 : Option Addr).map (·.add ((a1 : Int).toNat * 1))) := ⟨_, rfl⟩; obtain ⟨c67, hc67⟩ : ∃ c1, c1 = co65 - (a1 : Int).toNat := ⟨_, rfl⟩; have hy67 : y224.length = t211.length - (a1 : Int).toNat := (by rw [Ny224.out, List.length_drop] <;> omega); rw [show (t211).drop (a1 : Int).toNat = y224 from Ny224.out.symm] at hr67; replace hr67 : Kd.C (Kd.int .u8) _ A67 y224.length y224 := (by rw [hA67]; exact hr67); rw [← hy67, ← hA67, ← hc67] at hcut67; have HR227 := Aside0.mk hr67; have HC227 := Aside0.mk (show y224.length ≤ c67 from by rw [hy67, hc67]; exact Nat.sub_le_sub_right hroom67 _); clear hr67 hC67 hroom67 hi067 hsz67 hc67; have KY67 := Aside0.mk hy67; have KA67 := Aside0.mk hA67; clear hy67 hA67; have KL67 := Aside0.mk (show (a1 : Int).toNat ≤ t211.length from by omega); replace q67 := eq_true q67) | ((with_reducible refine gate_callee (f := 11) rfl ?_); refine goesL_ (some 57) rfl rfl Try.func11 (by kernel_rfl) rfl #[.slice A67 y224.length c67] rfl (by (try simp only [List.map_toArray, List.map_cons, List.map_nil]); first | done | rfl | (simp only [List.length_drop, List.length_take]; rfl)) ?_; (with_reducible refine (object_Parse.calls _ _ y224 t228 t229 _ ?side1 ?side2 A21.out).mono ?_); (case side1 => repeat (first | exact (by repeat (first | (with_reducible exact HR227.out) | (with_reducible refine Kd.C_alloc ?_ _) | (with_reducible refine Kd.C_drewN ?_ _) | (with_reducible refine Kd.C_drew ?_) | exact HR227.out)) | (with_reducible refine Kd.C_alloc ?_ _) | (with_reducible refine Kd.C_drewN ?_ _) | (with_reducible refine Kd.C_drew ?_))); (case side2 => exact HC227.out); rintro e w68 ⟨v230, rfl, ho0, hb⟩; refine ⟨_, rfl, ?_⟩; have n0_ := Aside0.mk (Kd.R_below (by (with_reducible repeat (first | apply Kd.R_alloc | apply Kd.R_drewN | apply Kd.R_drew)); exact HO_5.out) hb); have n1_ := Aside0.mk (Kd.S_elder' (by (with_reducible repeat (first | apply Kd.S_alloc | apply Kd.S_drewN | apply Kd.S_drew)); exact HO223.out) (Kd.S_base ho0) hb); have n2_ := Aside0.mk (Kd.S_lower (Kd.S_new' ho0 (Kd.S_lt (by (with_reducible repeat (first | apply Kd.S_alloc | apply Kd.S_drewN | apply Kd.S_drew)); exact HO223.out))) (below_size (by repeat (first | (with_reducible first | exact HB.out | apply below_alloc | apply pw_below_drewN | apply below_drew1) | exact HB.out)))); have n3_ := Aside0.mk (Kd.C_below (by repeat (first | (with_reducible exact HR219.out) | (with_reducible refine Kd.C_alloc ?_ _) | (with_reducible refine Kd.C_drewN ?_ _) | (with_reducible refine Kd.C_drew ?_) | exact HR219.out)) hb); have n4_ := Aside0.mk (Kd.C_below (by repeat (first | (with_reducible exact HR227.out) | (with_reducible refine Kd.C_alloc ?_ _) | (with_reducible refine Kd.C_drewN ?_ _) | (with_reducible refine Kd.C_drew ?_) | exact HR227.out)) hb); have n5_ := Aside0.mk (below_step (by repeat (first | (with_reducible first | exact HB.out | apply below_alloc | apply pw_below_drewN | apply below_drew1) | exact HB.out)) hb); clear HO_5; clear HO223; clear HR219; clear HR227; clear HB; have HO_5 := n0_; have HO223 := n1_; have HO231 := n2_; have HR219 := n3_; have HR227 := n4_; have HB := n5_; clear n0_ n1_ n2_ n3_ n4_ n5_; (try clear hb); (try clear hb2); (try clear hk); (try clear hi); (try clear ho0); have q69 : (x8_2 : Int) ≤ ((l0.length : Int) : Int) := of_decide_eq_true (by first | (with_reducible assumption) | assumption); obtain ⟨i069, hi069, _, hsz69, _⟩ := info_parts info32; have hroom69 : l0.length ≤ c0 := HC0.out; have hC69 : Kd.C k32 _ A0 l0.length l0 := HR0.out; have hcut69 := cut_to (P := Try.prog) 22 32 .i64 Try.underlying22 hi069 A0 l0.length c0 x8_2 (of_decide_eq_true (by first | (with_reducible assumption) | assumption)) q69 hroom69; have hr69 := Kd.C_take (m := (x8_2 : Int).toNat) hC69 (by omega); have hy69 : y232.length = (x8_2 : Int).toNat := (by rw [Ny232.out, List.length_take]; omega); rw [← Ny232.out] at hr69; rw [← hy69] at hcut69; have HR235 := Aside0.mk hr69; have HC235 := Aside0.mk (show y232.length ≤ c0 from by omega); clear hr69 hC69 hroom69 hi069 hsz69; have KY69 := Aside0.mk hy69; clear hy69; replace q69 := eq_true q69; obtain ⟨Ao70, co70, eo70⟩ := Kd.S_slice HO223.out; subst eo70) | (go_at_call 12; (with_reducible refine (postroadlaw07_same.calls k2 _ _ t220 _ _ y232 false _ ?side1 ?side2 ?side3 ?side4 A25.out).mono ?_); (case side1 => repeat (first | exact (Kd.S_reads' HO223.out).2.2 | (with_reducible refine Kd.C_alloc ?_ _) | (with_reducible refine Kd.C_drewN ?_ _) | (with_reducible refine Kd.C_drew ?_))); (case side2 => exact (Kd.S_reads' HO223.out).2.1); (case side3 => repeat (first | exact (Kd.C_below HR235.out HB.out) | (with_reducible refine Kd.C_alloc ?_ _) | (with_reducible refine Kd.C_drewN ?_ _) | (with_reducible refine Kd.C_drew ?_))); (case side4 => exact HC235.out); rintro e w71 ⟨rfl, hb⟩; have n0_ := Aside0.mk (Kd.R_below (by (with_reducible repeat (first | apply Kd.R_alloc | apply Kd.R_drewN | apply Kd.R_drew)); exact HO_5.out) hb); have n1_ := Aside0.mk (Kd.S_below (by (with_reducible repeat (first | apply Kd.S_alloc | apply Kd.S_drewN | apply Kd.S_drew)); exact HO223.out) hb); have n2_ := Aside0.mk (Kd.S_below (by (with_reducible repeat (first | apply Kd.S_alloc | apply Kd.S_drewN | apply Kd.S_drew)); exact HO231.out) hb); have n3_ := Aside0.mk (Kd.C_below (by repeat (first | (with_reducible exact HR219.out) | (with_reducible refine Kd.C_alloc ?_ _) | (with_reducible refine Kd.C_drewN ?_ _) | (with_reducible refine Kd.C_drew ?_) | exact HR219.out)) hb); have n4_ := Aside0.mk (Kd.C_below (by repeat (first | (with_reducible exact HR227.out) | (with_reducible refine Kd.C_alloc ?_ _) | (with_reducible refine Kd.C_drewN ?_ _) | (with_reducible refine Kd.C_drew ?_) | exact HR227.out)) hb); have n5_ := Aside0.mk (below_step (by repeat (first | (with_reducible first | exact HB.out | apply below_alloc | apply pw_below_drewN | apply below_drew1) | exact HB.out)) hb); clear HO_5; clear HO223; clear HO231; clear HR219; clear HR227; clear HB; have HO_5 := n0_; have HO223 := n1_; have HO231 := n2_; have HR219 := n3_; have HR227 := n4_; have HB := n5_; clear n0_ n1_ n2_ n3_ n4_ n5_; (try clear hb); (try clear hb2); (try clear hk); (try clear hi)))
                              go_ret
                              exact ⟨by first | rfl | (simp [errW_none, errW_some] <;> rfl) | (simp [*, errW_none, errW_some] <;> rfl), by repeat (first | (with_reducible first | exact HB.out | apply below_alloc | apply pw_below_drewN | apply below_drew1) | exact HB.out)⟩
                          · rw [if_neg c24] at H
                            exact absurd H (by simp)
                        · rw [if_neg c23] at H
                          exact absurd H (by simp)
                      · rw [if_neg c22] at H
                        have c22b0 : (t221 == 0) = false := beq_eq_false_iff_ne.mpr c22
                        have c22b1 : (t221 != 0) = true := bne_iff_ne.mpr c22
                        obtain rfl := Option.some.inj H
                        obtain ⟨Ao73, co73, eo73⟩ := Kd.R_slice HO_5.out
                        subst eo73
                        have q72 : (a1 : Int) ≤ ((t211.length : Int) : Int) := of_decide_eq_true (by first | (with_reducible assumption) | assumption)
                        obtain ⟨i072, hi072, _, hsz72, _⟩ := info_parts info5
                        have hroom72 : t211.length ≤ co73 := (Kd.R_reads' HO_5.out).2.1
                        have hC72 : Kd.C (Kd.int .u8) _ Ao73 t211.length t211 := (Kd.R_reads' HO_5.out).2.2
                        have hcut72 := cut_to (P := Try.prog) 25 5 .i64 Try.underlying25 hi072 Ao73 t211.length co73 a1 (of_decide_eq_true (by first | (with_reducible assumption) | assumption)) q72 hroom72
                        have hr72 := Kd.C_take (m := (a1 : Int).toNat) hC72 (by omega)
                        have hy72 : y216.length = (a1 : Int).toNat := (by rw [Ny216.out, List.length_take]; omega)
                        rw [← Ny216.out] at hr72
                        rw [← hy72] at hcut72
                        have HR219 := Aside0.mk hr72
                        have HC219 := Aside0.mk (show y216.length ≤ co73 from by omega)
                        clear hr72 hC72 hroom72 hi072 hsz72
                        have KY72 := Aside0.mk hy72
                        clear hy72
                        have KL72 := Aside0.mk (show (a1 : Int).toNat ≤ t211.length from by omega)
                        replace q72 := eq_true q72
                        go_wp2_with (first | ((with_reducible refine gate_callee (f := 11) rfl ?_); refine goesL_ (some 50) rfl rfl Try.func11 (by kernel_rfl) rfl #[.slice Ao73 y216.length co73] rfl (by (try simp only [List.map_toArray, List.map_cons, List.map_nil]); first | done | rfl | (simp only [List.length_drop, List.length_take]; rfl)) ?_; (with_reducible refine (object_Parse.calls _ _ y216 t220 t221 _ ?side1 ?side2 A18.out).mono ?_); (case side1 => repeat (first | exact (by repeat (first | (with_reducible exact HR219.out) | (with_reducible refine Kd.C_alloc ?_ _) | (with_reducible refine Kd.C_drewN ?_ _) | (with_reducible refine Kd.C_drew ?_) | exact HR219.out)) | (with_reducible refine Kd.C_alloc ?_ _) | (with_reducible refine Kd.C_drewN ?_ _) | (with_reducible refine Kd.C_drew ?_))); (case side2 => exact HC219.out); rintro e w74 ⟨v222, rfl, ho0, hb⟩; refine ⟨_, rfl, ?_⟩; have n0_ := Aside0.mk (Kd.R_below (by (with_reducible repeat (first | apply Kd.R_alloc | apply Kd.R_drewN | apply Kd.R_drew)); exact HO_5.out) hb); have n1_ := Aside0.mk (Kd.S_lower ho0 (below_size (by repeat (first | (with_reducible first | exact HB.out | apply below_alloc | apply pw_below_drewN | apply below_drew1) | exact HB.out)))); have n2_ := Aside0.mk (Kd.C_below (by repeat (first | (with_reducible exact HR219.out) | (with_reducible refine Kd.C_alloc ?_ _) | (with_reducible refine Kd.C_drewN ?_ _) | (with_reducible refine Kd.C_drew ?_) | exact HR219.out)) hb); have n3_ := Aside0.mk (below_step (by repeat (first | (with_reducible first | exact HB.out | apply below_alloc | apply pw_below_drewN | apply below_drew1) | exact HB.out)) hb); clear HO_5; clear HR219; clear HB; have HO_5 := n0_; have HO223 := n1_; have HR219 := n2_; have HB := n3_; clear n0_ n1_ n2_ n3_; (try clear hb); (try clear hb2); (try clear hk); (try clear hi); (try clear ho0); have q75 : (a1 : Int) ≤ ((t211.length : Int) : Int) := of_decide_eq_true (by first | (with_reducible assumption) | assumption); obtain ⟨i075, hi075, _, hsz75, _⟩ := info_parts info5; have hroom75 : t211.length ≤ co73 := (Kd.R_reads' HO_5.out).2.1; have hC75 : Kd.C (Kd.int .u8) _ Ao73 t211.length t211 := (Kd.R_reads' HO_5.out).2.2; have q075 : (0 : Int) ≤ (a1 : Int) := of_decide_eq_true (by first | (with_reducible assumption) | assumption); have hcut75 := cut_from (P := Try.prog) 25 5 .i64 Try.underlying25 hi075 1 hsz75 Ao73 t211.length co73 a1 q075 q75; have hr75 := Kd.C_drop (m := (a1 : Int).toNat) (c := co73) hC75 (by omega) hroom75; obtain ⟨A75, hA75⟩ : ∃ A1, A1 = (if co73 = (a1 : Int).toNat then Ao73 else (Ao73 : Option Addr).map (·.add ((a1 : Int).toNat * 1))) := ⟨_, rfl⟩; obtain ⟨c75, hc75⟩ : ∃ c1, c1 = co73 - (a1 : Int).toNat := ⟨_, rfl⟩; have hy75 : y224.length = t211.length - (a1 : Int).toNat := (by rw [Ny224.out, List.length_drop] <;> omega); rw [show (t211).drop (a1 : Int).toNat = y224 from Ny224.out.symm] at hr75; replace hr75 : Kd.C (Kd.int .u8) _ A75 y224.length y224 := (by rw [hA75]; exact hr75); rw [← hy75, ← hA75, ← hc75] at hcut75; have HR227 := Aside0.mk hr75; have HC227 := Aside0.mk (show y224.length ≤ c75 from by rw [hy75, hc75]; exact Nat.sub_le_sub_right hroom75 _); clear hr75 hC75 hroom75 hi075 hsz75 hc75; have KY75 := Aside0.mk hy75; have KA75 := Aside0.mk hA75; clear hy75 hA75; have KL75 := Aside0.mk (show (a1 : Int).toNat ≤ t211.length from by omega); replace q75 := eq_true q75) | ((with_reducible refine gate_callee (f := 11) rfl ?_); refine goesL_ (some 57) rfl rfl Try.func11 (by kernel_rfl) rfl #[.slice A75 y224.length c75] rfl (by (try simp only [List.map_toArray, List.map_cons, List.map_nil]); first | done | rfl | (simp only [List.length_drop, List.length_take]; rfl)) ?_; (with_reducible refine (object_Parse.calls _ _ y224 t228 t229 _ ?side1 ?side2 A21.out).mono ?_); (case side1 => repeat (first | exact (by repeat (first | (with_reducible exact HR227.out) | (with_reducible refine Kd.C_alloc ?_ _) | (with_reducible refine Kd.C_drewN ?_ _) | (with_reducible refine Kd.C_drew ?_) | exact HR227.out)) | (with_reducible refine Kd.C_alloc ?_ _) | (with_reducible refine Kd.C_drewN ?_ _) | (with_reducible refine Kd.C_drew ?_))); (case side2 => exact HC227.out); rintro e w76 ⟨v230, rfl, ho0, hb⟩; refine ⟨_, rfl, ?_⟩; have n0_ := Aside0.mk (Kd.R_below (by (with_reducible repeat (first | apply Kd.R_alloc | apply Kd.R_drewN | apply Kd.R_drew)); exact HO_5.out) hb); have n1_ := Aside0.mk (Kd.S_elder' (by (with_reducible repeat (first | apply Kd.S_alloc | apply Kd.S_drewN | apply Kd.S_drew)); exact HO223.out) (Kd.S_base ho0) hb); have n2_ := Aside0.mk (Kd.S_lower (Kd.S_new' ho0 (Kd.S_lt (by (with_reducible repeat (first | apply Kd.S_alloc | apply Kd.S_drewN | apply Kd.S_drew)); exact HO223.out))) (below_size (by repeat (first | (with_reducible first | exact HB.out | apply below_alloc | apply pw_below_drewN | apply below_drew1) | exact HB.out)))); have n3_ := Aside0.mk (Kd.C_below (by repeat (first | (with_reducible exact HR219.out) | (with_reducible refine Kd.C_alloc ?_ _) | (with_reducible refine Kd.C_drewN ?_ _) | (with_reducible refine Kd.C_drew ?_) | exact HR219.out)) hb); have n4_ := Aside0.mk (Kd.C_below (by repeat (first | (with_reducible exact HR227.out) | (with_reducible refine Kd.C_alloc ?_ _) | (with_reducible refine Kd.C_drewN ?_ _) | (with_reducible refine Kd.C_drew ?_) | exact HR227.out)) hb); have n5_ := Aside0.mk (below_step (by repeat (first | (with_reducible first | exact HB.out | apply below_alloc | apply pw_below_drewN | apply below_drew1) | exact HB.out)) hb); clear HO_5; clear HO223; clear HR219; clear HR227; clear HB; have HO_5 := n0_; have HO223 := n1_; have HO231 := n2_; have HR219 := n3_; have HR227 := n4_; have HB := n5_; clear n0_ n1_ n2_ n3_ n4_ n5_; (try clear hb); (try clear hb2); (try clear hk); (try clear hi); (try clear ho0)))
                        go_ret
                        exact ⟨by first | rfl | (simp [errW_none, errW_some] <;> rfl) | (simp [*, errW_none, errW_some] <;> rfl), by repeat (first | (with_reducible first | exact HB.out | apply below_alloc | apply pw_below_drewN | apply below_drew1) | exact HB.out)⟩
                    · rw [if_neg c17] at H
                      exact absurd H (by simp)
                  · rw [if_neg c16] at H
                    exact absurd H (by simp)
                · rw [if_neg c15] at H
                  have c15b0 : (x7_2 == a1) = false := beq_eq_false_iff_ne.mpr c15
                  have c15b1 : (x7_2 != a1) = true := bne_iff_ne.mpr c15
                  by_cases c77 : 0 ≤ x8_2
                  · rw [if_pos c77] at H
                    have c77b0 : decide (0 ≤ x8_2) = true := decide_eq_true c77
                    clear c77
                    have H' := Aside0.mk H
                    clear H
                    have p243 : 0 ≤ (x8_2 : Int) := of_decide_eq_true (by first | (with_reducible assumption) | assumption)
                    have q243 : x8_2 < (l0.length : Int) := of_decide_eq_true (by first | (with_reducible assumption) | assumption)
                    obtain ⟨ad243, A243_2, c243_2, e243, hx243_0, hx243_1, hx243_2, hl243_2, hi243_2⟩ := at_T32 HR0.out x8_2 p243 q243
                    cases e243
                    replace hx243_0 := (HB.out.cell (World.block_lt_of_cell? w _ hx243_0)).trans hx243_0
                    replace hx243_1 := (HB.out.cell (World.block_lt_of_cell? w _ hx243_1)).trans hx243_1
                    replace hx243_2 := (HB.out.cell (World.block_lt_of_cell? w _ hx243_2)).trans hx243_2
                    have HR243_2 := Aside0.mk hi243_2
                    have HC243_2 := Aside0.mk hl243_2
                    clear hi243_2 hl243_2
                    replace p243 := eq_true p243
                    replace q243 := eq_true q243
                    go_wp2
                    go_roundg k2
                    case measure => have := HJ5.out; have := HK2.out; omega
                    case rel => exact ⟨(wrap64 ((wrap64 (x7_2 + 4)) + (wrap64 (4 * (((rd_T32 l0 x8_2).f2).length : Int))))), (wrap64 (x8_2 + 1)), (by first | rfl | (simp; done) | (simp [*]; done)), (by first | rfl | (simp; done) | (simp [*]; done)), H', ⟨by have := HJ5.out; have := HK2.out; omega⟩, ⟨by (with_reducible repeat (first | apply Kd.R_alloc | apply Kd.R_drewN | apply Kd.R_drew)); exact HO_5.out⟩, ⟨by repeat (first | (with_reducible first | exact HB.out | apply below_alloc | apply pw_below_drewN | apply below_drew1) | exact HB.out)⟩⟩
                  · rw [if_neg c77] at H
                    exact absurd H (by simp)
              · rw [if_neg c14] at H
                have c14b0 : decide (x8_2 < (l0.length : Int)) = false := decide_eq_false c14
                clear c14
                by_cases c78 : 0 ≤ a1
                · rw [if_pos c78] at H
                  have c78b0 := eq_true c78
                  have c78b1 : decide (0 ≤ a1) = true := decide_eq_true c78
                  clear c78
                  by_cases c79 : a1 ≤ (t211.length : Int)
                  · rw [if_pos c79] at H
                    have c79b0 := eq_true c79
                    have c79b1 : decide (a1 ≤ (t211.length : Int)) = true := decide_eq_true c79
                    clear c79
                    obtain ⟨y244, hy244⟩ : ∃ y_ : List Int, y_ = (t211.take (a1 : Int).toNat) := ⟨_, rfl⟩
                    replace H : ((object_Parse.f y244).bind fun bt248 => (if x7_2 = a1 then (if bt248.2 = 0 then ((postroadlaw07_same.f k2 bt248.1 l0).bind fun t252 => (if t252 = true then ((law_known.f).bind fun t253 => (some t253)) else (some false))) else (some false)) else (if (bt248.1.length : Int) = 0 then (if bt248.2 = 170 then ((law_known.f).bind fun t254 => (some t254)) else (some false)) else (some false)))) = some r := by first | (rw [hy244]; with_reducible exact H) | (have H2_ := (Option.bind_some _ _).symm.trans H; rw [hy244]; with_reducible exact H2_) | (have H2_ := (Option.bind_some _ _).symm.trans H; with_reducible exact H2_) | with_reducible exact H | (rw [hy244]; exact H) | exact H
                    have Ny244 := Aside0.mk hy244
                    clear hy244
                    replace H := Option.bind_eq_some_iff.mp H
                    obtain ⟨⟨t248, t249⟩, A800, H⟩ := H
                    replace H : (if x7_2 = a1 then (if t249 = 0 then ((postroadlaw07_same.f k2 t248 l0).bind fun t252 => (if t252 = true then ((law_known.f).bind fun t253 => (some t253)) else (some false))) else (some false)) else (if (t248.length : Int) = 0 then (if t249 = 170 then ((law_known.f).bind fun t254 => (some t254)) else (some false)) else (some false))) = some r := H
                    have A80 := Aside0.mk A800
                    clear A800
                    by_cases c81 : x7_2 = a1
                    · rw [if_pos c81] at H
                      have c81b0 : (x7_2 == a1) = true := beq_iff_eq.mpr c81
                      have c81b1 : (x7_2 != a1) = false := bne_eq_false_iff_eq.mpr c81
                      clear c81
                      by_cases c82 : t249 = 0
                      · rw [if_pos c82] at H
                        have c82b0 : (t249 == 0) = true := beq_iff_eq.mpr c82
                        have c82b1 : (t249 != 0) = false := bne_eq_false_iff_eq.mpr c82
                        clear c82
                        replace H := Option.bind_eq_some_iff.mp H
                        obtain ⟨t252, A830, H⟩ := H
                        replace H : (if t252 = true then ((law_known.f).bind fun t253 => (some t253)) else (some false)) = some r := H
                        have A83 := Aside0.mk A830
                        clear A830
                        by_cases c84 : t252 = true
                        · subst c84
                          have H1 : ((law_known.f).bind fun t253 => (some t253)) = some r := by rw [if_pos rfl] at H; exact H
                          clear H
                          have H := H1
                          clear H1
                          replace H := Option.bind_eq_some_iff.mp H
                          obtain ⟨t253, A850, H⟩ := H
                          replace H : (some t253) = some r := H
                          have A85 := Aside0.mk A850
                          clear A850
                          obtain rfl := Option.some.inj H
                          obtain ⟨Ao87, co87, eo87⟩ := Kd.R_slice HO_5.out
                          subst eo87
                          have q86 : (a1 : Int) ≤ ((t211.length : Int) : Int) := of_decide_eq_true (by first | (with_reducible assumption) | assumption)
                          obtain ⟨i086, hi086, _, hsz86, _⟩ := info_parts info5
                          have hroom86 : t211.length ≤ co87 := (Kd.R_reads' HO_5.out).2.1
                          have hC86 : Kd.C (Kd.int .u8) _ Ao87 t211.length t211 := (Kd.R_reads' HO_5.out).2.2
                          have hcut86 := cut_to (P := Try.prog) 25 5 .i64 Try.underlying25 hi086 Ao87 t211.length co87 a1 (of_decide_eq_true (by first | (with_reducible assumption) | assumption)) q86 hroom86
                          have hr86 := Kd.C_take (m := (a1 : Int).toNat) hC86 (by omega)
                          have hy86 : y244.length = (a1 : Int).toNat := (by rw [Ny244.out, List.length_take]; omega)
                          rw [← Ny244.out] at hr86
                          rw [← hy86] at hcut86
                          have HR247 := Aside0.mk hr86
                          have HC247 := Aside0.mk (show y244.length ≤ co87 from by omega)
                          clear hr86 hC86 hroom86 hi086 hsz86
                          have KY86 := Aside0.mk hy86
                          clear hy86
                          have KL86 := Aside0.mk (show (a1 : Int).toNat ≤ t211.length from by omega)
                          replace q86 := eq_true q86
                          go_wp2_with (first | ((with_reducible refine gate_callee (f := 11) rfl ?_); refine goesL_ (some 97) rfl rfl Try.func11 (by kernel_rfl) rfl #[.slice Ao87 y244.length co87] rfl (by (try simp only [List.map_toArray, List.map_cons, List.map_nil]); first | done | rfl | (simp only [List.length_drop, List.length_take]; rfl)) ?_; (with_reducible refine (object_Parse.calls _ _ y244 t248 t249 _ ?side1 ?side2 A80.out).mono ?_); (case side1 => repeat (first | exact (by repeat (first | (with_reducible exact HR247.out) | (with_reducible refine Kd.C_alloc ?_ _) | (with_reducible refine Kd.C_drewN ?_ _) | (with_reducible refine Kd.C_drew ?_) | exact HR247.out)) | (with_reducible refine Kd.C_alloc ?_ _) | (with_reducible refine Kd.C_drewN ?_ _) | (with_reducible refine Kd.C_drew ?_))); (case side2 => exact HC247.out); rintro e w88 ⟨v250, rfl, ho0, hb⟩; refine ⟨_, rfl, ?_⟩; have n0_ := Aside0.mk (Kd.R_below (by (with_reducible repeat (first | apply Kd.R_alloc | apply Kd.R_drewN | apply Kd.R_drew)); exact HO_5.out) hb); have n1_ := Aside0.mk (Kd.S_lower ho0 (below_size (by repeat (first | (with_reducible first | exact HB.out | apply below_alloc | apply pw_below_drewN | apply below_drew1) | exact HB.out)))); have n2_ := Aside0.mk (Kd.C_below (by repeat (first | (with_reducible exact HR247.out) | (with_reducible refine Kd.C_alloc ?_ _) | (with_reducible refine Kd.C_drewN ?_ _) | (with_reducible refine Kd.C_drew ?_) | exact HR247.out)) hb); have n3_ := Aside0.mk (below_step (by repeat (first | (with_reducible first | exact HB.out | apply below_alloc | apply pw_below_drewN | apply below_drew1) | exact HB.out)) hb); clear HO_5; clear HR247; clear HB; have HO_5 := n0_; have HO251 := n1_; have HR247 := n2_; have HB := n3_; clear n0_ n1_ n2_ n3_; (try clear hb); (try clear hb2); (try clear hk); (try clear hi); (try clear ho0); obtain ⟨Ao89, co89, eo89⟩ := Kd.S_slice HO251.out; subst eo89) | (go_at_call 12; (with_reducible refine (postroadlaw07_same.calls k2 _ _ t248 _ _ l0 true _ ?side1 ?side2 ?side3 ?side4 A83.out).mono ?_); (case side1 => repeat (first | exact (Kd.S_reads' HO251.out).2.2 | (with_reducible refine Kd.C_alloc ?_ _) | (with_reducible refine Kd.C_drewN ?_ _) | (with_reducible refine Kd.C_drew ?_))); (case side2 => exact (Kd.S_reads' HO251.out).2.1); (case side3 => repeat (first | exact (Kd.C_below HR0.out HB.out) | (with_reducible refine Kd.C_alloc ?_ _) | (with_reducible refine Kd.C_drewN ?_ _) | (with_reducible refine Kd.C_drew ?_))); (case side4 => exact HC0.out); rintro e w90 ⟨rfl, hb⟩; have n0_ := Aside0.mk (Kd.R_below (by (with_reducible repeat (first | apply Kd.R_alloc | apply Kd.R_drewN | apply Kd.R_drew)); exact HO_5.out) hb); have n1_ := Aside0.mk (Kd.S_below (by (with_reducible repeat (first | apply Kd.S_alloc | apply Kd.S_drewN | apply Kd.S_drew)); exact HO251.out) hb); have n2_ := Aside0.mk (Kd.C_below (by repeat (first | (with_reducible exact HR247.out) | (with_reducible refine Kd.C_alloc ?_ _) | (with_reducible refine Kd.C_drewN ?_ _) | (with_reducible refine Kd.C_drew ?_) | exact HR247.out)) hb); have n3_ := Aside0.mk (below_step (by repeat (first | (with_reducible first | exact HB.out | apply below_alloc | apply pw_below_drewN | apply below_drew1) | exact HB.out)) hb); clear HO_5; clear HO251; clear HR247; clear HB; have HO_5 := n0_; have HO251 := n1_; have HR247 := n2_; have HB := n3_; clear n0_ n1_ n2_ n3_; (try clear hb); (try clear hb2); (try clear hk); (try clear hi)) | (go_at_call 7; (with_reducible refine (law_known.calls  t253 _ A85.out).mono ?_); rintro e w91 ⟨rfl, hb⟩; have n0_ := Aside0.mk (Kd.R_below (by (with_reducible repeat (first | apply Kd.R_alloc | apply Kd.R_drewN | apply Kd.R_drew)); exact HO_5.out) hb); have n1_ := Aside0.mk (Kd.S_below (by (with_reducible repeat (first | apply Kd.S_alloc | apply Kd.S_drewN | apply Kd.S_drew)); exact HO251.out) hb); have n2_ := Aside0.mk (Kd.C_below (by repeat (first | (with_reducible exact HR247.out) | (with_reducible refine Kd.C_alloc ?_ _) | (with_reducible refine Kd.C_drewN ?_ _) | (with_reducible refine Kd.C_drew ?_) | exact HR247.out)) hb); have n3_ := Aside0.mk (below_step (by repeat (first | (with_reducible first | exact HB.out | apply below_alloc | apply pw_below_drewN | apply below_drew1) | exact HB.out)) hb); clear HO_5; clear HO251; clear HR247; clear HB; have HO_5 := n0_; have HO251 := n1_; have HR247 := n2_; have HB := n3_; clear n0_ n1_ n2_ n3_; (try clear hb); (try clear hb2); (try clear hk); (try clear hi)))
                          go_ret
                          exact ⟨by first | rfl | (simp [errW_none, errW_some] <;> rfl) | (simp [*, errW_none, errW_some] <;> rfl), by repeat (first | (with_reducible first | exact HB.out | apply below_alloc | apply pw_below_drewN | apply below_drew1) | exact HB.out)⟩
                        · replace c84 := Bool.eq_false_iff.mpr c84
                          subst c84
                          have H1 : (some false) = some r := by rw [if_neg (show ¬ (false = true) by decide)] at H; exact H
                          clear H
                          have H := H1
                          clear H1
                          obtain rfl := Option.some.inj H
                          obtain ⟨Ao93, co93, eo93⟩ := Kd.R_slice HO_5.out
                          subst eo93
                          have q92 : (a1 : Int) ≤ ((t211.length : Int) : Int) := of_decide_eq_true (by first | (with_reducible assumption) | assumption)
                          obtain ⟨i092, hi092, _, hsz92, _⟩ := info_parts info5
                          have hroom92 : t211.length ≤ co93 := (Kd.R_reads' HO_5.out).2.1
                          have hC92 : Kd.C (Kd.int .u8) _ Ao93 t211.length t211 := (Kd.R_reads' HO_5.out).2.2
                          have hcut92 := cut_to (P := Try.prog) 25 5 .i64 Try.underlying25 hi092 Ao93 t211.length co93 a1 (of_decide_eq_true (by first | (with_reducible assumption) | assumption)) q92 hroom92
                          have hr92 := Kd.C_take (m := (a1 : Int).toNat) hC92 (by omega)
                          have hy92 : y244.length = (a1 : Int).toNat := (by rw [Ny244.out, List.length_take]; omega)
                          rw [← Ny244.out] at hr92
                          rw [← hy92] at hcut92
                          have HR247 := Aside0.mk hr92
                          have HC247 := Aside0.mk (show y244.length ≤ co93 from by omega)
                          clear hr92 hC92 hroom92 hi092 hsz92
                          have KY92 := Aside0.mk hy92
                          clear hy92
                          have KL92 := Aside0.mk (show (a1 : Int).toNat ≤ t211.length from by omega)
                          replace q92 := eq_true q92
                          go_wp2_with (first | ((with_reducible refine gate_callee (f := 11) rfl ?_); refine goesL_ (some 97) rfl rfl Try.func11 (by kernel_rfl) rfl #[.slice Ao93 y244.length co93] rfl (by (try simp only [List.map_toArray, List.map_cons, List.map_nil]); first | done | rfl | (simp only [List.length_drop, List.length_take]; rfl)) ?_; (with_reducible refine (object_Parse.calls _ _ y244 t248 t249 _ ?side1 ?side2 A80.out).mono ?_); (case side1 => repeat (first | exact (by repeat (first | (with_reducible exact HR247.out) | (with_reducible refine Kd.C_alloc ?_ _) | (with_reducible refine Kd.C_drewN ?_ _) | (with_reducible refine Kd.C_drew ?_) | exact HR247.out)) | (with_reducible refine Kd.C_alloc ?_ _) | (with_reducible refine Kd.C_drewN ?_ _) | (with_reducible refine Kd.C_drew ?_))); (case side2 => exact HC247.out); rintro e w94 ⟨v250, rfl, ho0, hb⟩; refine ⟨_, rfl, ?_⟩; have n0_ := Aside0.mk (Kd.R_below (by (with_reducible repeat (first | apply Kd.R_alloc | apply Kd.R_drewN | apply Kd.R_drew)); exact HO_5.out) hb); have n1_ := Aside0.mk (Kd.S_lower ho0 (below_size (by repeat (first | (with_reducible first | exact HB.out | apply below_alloc | apply pw_below_drewN | apply below_drew1) | exact HB.out)))); have n2_ := Aside0.mk (Kd.C_below (by repeat (first | (with_reducible exact HR247.out) | (with_reducible refine Kd.C_alloc ?_ _) | (with_reducible refine Kd.C_drewN ?_ _) | (with_reducible refine Kd.C_drew ?_) | exact HR247.out)) hb); have n3_ := Aside0.mk (below_step (by repeat (first | (with_reducible first | exact HB.out | apply below_alloc | apply pw_below_drewN | apply below_drew1) | exact HB.out)) hb); clear HO_5; clear HR247; clear HB; have HO_5 := n0_; have HO251 := n1_; have HR247 := n2_; have HB := n3_; clear n0_ n1_ n2_ n3_; (try clear hb); (try clear hb2); (try clear hk); (try clear hi); (try clear ho0); obtain ⟨Ao95, co95, eo95⟩ := Kd.S_slice HO251.out; subst eo95) | (go_at_call 12; (with_reducible refine (postroadlaw07_same.calls k2 _ _ t248 _ _ l0 false _ ?side1 ?side2 ?side3 ?side4 A83.out).mono ?_); (case side1 => repeat (first | exact (Kd.S_reads' HO251.out).2.2 | (with_reducible refine Kd.C_alloc ?_ _) | (with_reducible refine Kd.C_drewN ?_ _) | (with_reducible refine Kd.C_drew ?_))); (case side2 => exact (Kd.S_reads' HO251.out).2.1); (case side3 => repeat (first | exact (Kd.C_below HR0.out HB.out) | (with_reducible refine Kd.C_alloc ?_ _) | (with_reducible refine Kd.C_drewN ?_ _) | (with_reducible refine Kd.C_drew ?_))); (case side4 => exact HC0.out); rintro e w96 ⟨rfl, hb⟩; have n0_ := Aside0.mk (Kd.R_below (by (with_reducible repeat (first | apply Kd.R_alloc | apply Kd.R_drewN | apply Kd.R_drew)); exact HO_5.out) hb); have n1_ := Aside0.mk (Kd.S_below (by (with_reducible repeat (first | apply Kd.S_alloc | apply Kd.S_drewN | apply Kd.S_drew)); exact HO251.out) hb); have n2_ := Aside0.mk (Kd.C_below (by repeat (first | (with_reducible exact HR247.out) | (with_reducible refine Kd.C_alloc ?_ _) | (with_reducible refine Kd.C_drewN ?_ _) | (with_reducible refine Kd.C_drew ?_) | exact HR247.out)) hb); have n3_ := Aside0.mk (below_step (by repeat (first | (with_reducible first | exact HB.out | apply below_alloc | apply pw_below_drewN | apply below_drew1) | exact HB.out)) hb); clear HO_5; clear HO251; clear HR247; clear HB; have HO_5 := n0_; have HO251 := n1_; have HR247 := n2_; have HB := n3_; clear n0_ n1_ n2_ n3_; (try clear hb); (try clear hb2); (try clear hk); (try clear hi)))
                          go_ret
                          exact ⟨by first | rfl | (simp [errW_none, errW_some] <;> rfl) | (simp [*, errW_none, errW_some] <;> rfl), by repeat (first | (with_reducible first | exact HB.out | apply below_alloc | apply pw_below_drewN | apply below_drew1) | exact HB.out)⟩
                      · rw [if_neg c82] at H
                        have c82b0 : (t249 == 0) = false := beq_eq_false_iff_ne.mpr c82
                        have c82b1 : (t249 != 0) = true := bne_iff_ne.mpr c82
                        obtain rfl := Option.some.inj H
                        obtain ⟨Ao98, co98, eo98⟩ := Kd.R_slice HO_5.out
                        subst eo98
                        have q97 : (a1 : Int) ≤ ((t211.length : Int) : Int) := of_decide_eq_true (by first | (with_reducible assumption) | assumption)
                        obtain ⟨i097, hi097, _, hsz97, _⟩ := info_parts info5
                        have hroom97 : t211.length ≤ co98 := (Kd.R_reads' HO_5.out).2.1
                        have hC97 : Kd.C (Kd.int .u8) _ Ao98 t211.length t211 := (Kd.R_reads' HO_5.out).2.2
                        have hcut97 := cut_to (P := Try.prog) 25 5 .i64 Try.underlying25 hi097 Ao98 t211.length co98 a1 (of_decide_eq_true (by first | (with_reducible assumption) | assumption)) q97 hroom97
                        have hr97 := Kd.C_take (m := (a1 : Int).toNat) hC97 (by omega)
                        have hy97 : y244.length = (a1 : Int).toNat := (by rw [Ny244.out, List.length_take]; omega)
                        rw [← Ny244.out] at hr97
                        rw [← hy97] at hcut97
                        have HR247 := Aside0.mk hr97
                        have HC247 := Aside0.mk (show y244.length ≤ co98 from by omega)
                        clear hr97 hC97 hroom97 hi097 hsz97
                        have KY97 := Aside0.mk hy97
                        clear hy97
                        have KL97 := Aside0.mk (show (a1 : Int).toNat ≤ t211.length from by omega)
                        replace q97 := eq_true q97
                        go_wp2_with (first | ((with_reducible refine gate_callee (f := 11) rfl ?_); refine goesL_ (some 97) rfl rfl Try.func11 (by kernel_rfl) rfl #[.slice Ao98 y244.length co98] rfl (by (try simp only [List.map_toArray, List.map_cons, List.map_nil]); first | done | rfl | (simp only [List.length_drop, List.length_take]; rfl)) ?_; (with_reducible refine (object_Parse.calls _ _ y244 t248 t249 _ ?side1 ?side2 A80.out).mono ?_); (case side1 => repeat (first | exact (by repeat (first | (with_reducible exact HR247.out) | (with_reducible refine Kd.C_alloc ?_ _) | (with_reducible refine Kd.C_drewN ?_ _) | (with_reducible refine Kd.C_drew ?_) | exact HR247.out)) | (with_reducible refine Kd.C_alloc ?_ _) | (with_reducible refine Kd.C_drewN ?_ _) | (with_reducible refine Kd.C_drew ?_))); (case side2 => exact HC247.out); rintro e w99 ⟨v250, rfl, ho0, hb⟩; refine ⟨_, rfl, ?_⟩; have n0_ := Aside0.mk (Kd.R_below (by (with_reducible repeat (first | apply Kd.R_alloc | apply Kd.R_drewN | apply Kd.R_drew)); exact HO_5.out) hb); have n1_ := Aside0.mk (Kd.S_lower ho0 (below_size (by repeat (first | (with_reducible first | exact HB.out | apply below_alloc | apply pw_below_drewN | apply below_drew1) | exact HB.out)))); have n2_ := Aside0.mk (Kd.C_below (by repeat (first | (with_reducible exact HR247.out) | (with_reducible refine Kd.C_alloc ?_ _) | (with_reducible refine Kd.C_drewN ?_ _) | (with_reducible refine Kd.C_drew ?_) | exact HR247.out)) hb); have n3_ := Aside0.mk (below_step (by repeat (first | (with_reducible first | exact HB.out | apply below_alloc | apply pw_below_drewN | apply below_drew1) | exact HB.out)) hb); clear HO_5; clear HR247; clear HB; have HO_5 := n0_; have HO251 := n1_; have HR247 := n2_; have HB := n3_; clear n0_ n1_ n2_ n3_; (try clear hb); (try clear hb2); (try clear hk); (try clear hi); (try clear ho0)))
                        go_ret
                        exact ⟨by first | rfl | (simp [errW_none, errW_some] <;> rfl) | (simp [*, errW_none, errW_some] <;> rfl), by repeat (first | (with_reducible first | exact HB.out | apply below_alloc | apply pw_below_drewN | apply below_drew1) | exact HB.out)⟩
                    · rw [if_neg c81] at H
                      have c81b0 : (x7_2 == a1) = false := beq_eq_false_iff_ne.mpr c81
                      have c81b1 : (x7_2 != a1) = true := bne_iff_ne.mpr c81
                      by_cases c100 : (t248.length : Int) = 0
                      · rw [if_pos c100] at H
                        have c100b0 : ((t248.length : Int) == 0) = true := beq_iff_eq.mpr c100
                        have c100b1 : ((t248.length : Int) != 0) = false := bne_eq_false_iff_eq.mpr c100
                        clear c100
                        by_cases c101 : t249 = 170
                        · rw [if_pos c101] at H
                          have c101b0 : (t249 == 170) = true := beq_iff_eq.mpr c101
                          have c101b1 : (t249 != 170) = false := bne_eq_false_iff_eq.mpr c101
                          clear c101
                          replace H := Option.bind_eq_some_iff.mp H
                          obtain ⟨t254, A1020, H⟩ := H
                          replace H : (some t254) = some r := H
                          have A102 := Aside0.mk A1020
                          clear A1020
                          obtain rfl := Option.some.inj H
                          obtain ⟨Ao104, co104, eo104⟩ := Kd.R_slice HO_5.out
                          subst eo104
                          have q103 : (a1 : Int) ≤ ((t211.length : Int) : Int) := of_decide_eq_true (by first | (with_reducible assumption) | assumption)
                          obtain ⟨i0103, hi0103, _, hsz103, _⟩ := info_parts info5
                          have hroom103 : t211.length ≤ co104 := (Kd.R_reads' HO_5.out).2.1
                          have hC103 : Kd.C (Kd.int .u8) _ Ao104 t211.length t211 := (Kd.R_reads' HO_5.out).2.2
                          have hcut103 := cut_to (P := Try.prog) 25 5 .i64 Try.underlying25 hi0103 Ao104 t211.length co104 a1 (of_decide_eq_true (by first | (with_reducible assumption) | assumption)) q103 hroom103
                          have hr103 := Kd.C_take (m := (a1 : Int).toNat) hC103 (by omega)
                          have hy103 : y244.length = (a1 : Int).toNat := (by rw [Ny244.out, List.length_take]; omega)
                          rw [← Ny244.out] at hr103
                          rw [← hy103] at hcut103
                          have HR247 := Aside0.mk hr103
                          have HC247 := Aside0.mk (show y244.length ≤ co104 from by omega)
                          clear hr103 hC103 hroom103 hi0103 hsz103
                          have KY103 := Aside0.mk hy103
                          clear hy103
                          have KL103 := Aside0.mk (show (a1 : Int).toNat ≤ t211.length from by omega)
                          replace q103 := eq_true q103
                          go_wp2_with (first | ((with_reducible refine gate_callee (f := 11) rfl ?_); refine goesL_ (some 97) rfl rfl Try.func11 (by kernel_rfl) rfl #[.slice Ao104 y244.length co104] rfl (by (try simp only [List.map_toArray, List.map_cons, List.map_nil]); first | done | rfl | (simp only [List.length_drop, List.length_take]; rfl)) ?_; (with_reducible refine (object_Parse.calls _ _ y244 t248 t249 _ ?side1 ?side2 A80.out).mono ?_); (case side1 => repeat (first | exact (by repeat (first | (with_reducible exact HR247.out) | (with_reducible refine Kd.C_alloc ?_ _) | (with_reducible refine Kd.C_drewN ?_ _) | (with_reducible refine Kd.C_drew ?_) | exact HR247.out)) | (with_reducible refine Kd.C_alloc ?_ _) | (with_reducible refine Kd.C_drewN ?_ _) | (with_reducible refine Kd.C_drew ?_))); (case side2 => exact HC247.out); rintro e w105 ⟨v250, rfl, ho0, hb⟩; refine ⟨_, rfl, ?_⟩; have n0_ := Aside0.mk (Kd.R_below (by (with_reducible repeat (first | apply Kd.R_alloc | apply Kd.R_drewN | apply Kd.R_drew)); exact HO_5.out) hb); have n1_ := Aside0.mk (Kd.S_lower ho0 (below_size (by repeat (first | (with_reducible first | exact HB.out | apply below_alloc | apply pw_below_drewN | apply below_drew1) | exact HB.out)))); have n2_ := Aside0.mk (Kd.C_below (by repeat (first | (with_reducible exact HR247.out) | (with_reducible refine Kd.C_alloc ?_ _) | (with_reducible refine Kd.C_drewN ?_ _) | (with_reducible refine Kd.C_drew ?_) | exact HR247.out)) hb); have n3_ := Aside0.mk (below_step (by repeat (first | (with_reducible first | exact HB.out | apply below_alloc | apply pw_below_drewN | apply below_drew1) | exact HB.out)) hb); clear HO_5; clear HR247; clear HB; have HO_5 := n0_; have HO251 := n1_; have HR247 := n2_; have HB := n3_; clear n0_ n1_ n2_ n3_; (try clear hb); (try clear hb2); (try clear hk); (try clear hi); (try clear ho0); obtain ⟨Ao106, co106, eo106⟩ := Kd.S_slice HO251.out; subst eo106) | (go_at_call 7; (with_reducible refine (law_known.calls  t254 _ A102.out).mono ?_); rintro e w107 ⟨rfl, hb⟩; have n0_ := Aside0.mk (Kd.R_below (by (with_reducible repeat (first | apply Kd.R_alloc | apply Kd.R_drewN | apply Kd.R_drew)); exact HO_5.out) hb); have n1_ := Aside0.mk (Kd.S_below (by (with_reducible repeat (first | apply Kd.S_alloc | apply Kd.S_drewN | apply Kd.S_drew)); exact HO251.out) hb); have n2_ := Aside0.mk (Kd.C_below (by repeat (first | (with_reducible exact HR247.out) | (with_reducible refine Kd.C_alloc ?_ _) | (with_reducible refine Kd.C_drewN ?_ _) | (with_reducible refine Kd.C_drew ?_) | exact HR247.out)) hb); have n3_ := Aside0.mk (below_step (by repeat (first | (with_reducible first | exact HB.out | apply below_alloc | apply pw_below_drewN | apply below_drew1) | exact HB.out)) hb); clear HO_5; clear HO251; clear HR247; clear HB; have HO_5 := n0_; have HO251 := n1_; have HR247 := n2_; have HB := n3_; clear n0_ n1_ n2_ n3_; (try clear hb); (try clear hb2); (try clear hk); (try clear hi)))
                          go_ret
                          exact ⟨by first | rfl | (simp [errW_none, errW_some] <;> rfl) | (simp [*, errW_none, errW_some] <;> rfl), by repeat (first | (with_reducible first | exact HB.out | apply below_alloc | apply pw_below_drewN | apply below_drew1) | exact HB.out)⟩
                        · rw [if_neg c101] at H
                          have c101b0 : (t249 == 170) = false := beq_eq_false_iff_ne.mpr c101
                          have c101b1 : (t249 != 170) = true := bne_iff_ne.mpr c101
                          obtain rfl := Option.some.inj H
                          obtain ⟨Ao109, co109, eo109⟩ := Kd.R_slice HO_5.out
                          subst eo109
                          have q108 : (a1 : Int) ≤ ((t211.length : Int) : Int) := of_decide_eq_true (by first | (with_reducible assumption) | assumption)
                          obtain ⟨i0108, hi0108, _, hsz108, _⟩ := info_parts info5
                          have hroom108 : t211.length ≤ co109 := (Kd.R_reads' HO_5.out).2.1
                          have hC108 : Kd.C (Kd.int .u8) _ Ao109 t211.length t211 := (Kd.R_reads' HO_5.out).2.2
                          have hcut108 := cut_to (P := Try.prog) 25 5 .i64 Try.underlying25 hi0108 Ao109 t211.length co109 a1 (of_decide_eq_true (by first | (with_reducible assumption) | assumption)) q108 hroom108
                          have hr108 := Kd.C_take (m := (a1 : Int).toNat) hC108 (by omega)
                          have hy108 : y244.length = (a1 : Int).toNat := (by rw [Ny244.out, List.length_take]; omega)
                          rw [← Ny244.out] at hr108
                          rw [← hy108] at hcut108
                          have HR247 := Aside0.mk hr108
                          have HC247 := Aside0.mk (show y244.length ≤ co109 from by omega)
                          clear hr108 hC108 hroom108 hi0108 hsz108
                          have KY108 := Aside0.mk hy108
                          clear hy108
                          have KL108 := Aside0.mk (show (a1 : Int).toNat ≤ t211.length from by omega)
                          replace q108 := eq_true q108
                          go_wp2_with (first | ((with_reducible refine gate_callee (f := 11) rfl ?_); refine goesL_ (some 97) rfl rfl Try.func11 (by kernel_rfl) rfl #[.slice Ao109 y244.length co109] rfl (by (try simp only [List.map_toArray, List.map_cons, List.map_nil]); first | done | rfl | (simp only [List.length_drop, List.length_take]; rfl)) ?_; (with_reducible refine (object_Parse.calls _ _ y244 t248 t249 _ ?side1 ?side2 A80.out).mono ?_); (case side1 => repeat (first | exact (by repeat (first | (with_reducible exact HR247.out) | (with_reducible refine Kd.C_alloc ?_ _) | (with_reducible refine Kd.C_drewN ?_ _) | (with_reducible refine Kd.C_drew ?_) | exact HR247.out)) | (with_reducible refine Kd.C_alloc ?_ _) | (with_reducible refine Kd.C_drewN ?_ _) | (with_reducible refine Kd.C_drew ?_))); (case side2 => exact HC247.out); rintro e w110 ⟨v250, rfl, ho0, hb⟩; refine ⟨_, rfl, ?_⟩; have n0_ := Aside0.mk (Kd.R_below (by (with_reducible repeat (first | apply Kd.R_alloc | apply Kd.R_drewN | apply Kd.R_drew)); exact HO_5.out) hb); have n1_ := Aside0.mk (Kd.S_lower ho0 (below_size (by repeat (first | (with_reducible first | exact HB.out | apply below_alloc | apply pw_below_drewN | apply below_drew1) | exact HB.out)))); have n2_ := Aside0.mk (Kd.C_below (by repeat (first | (with_reducible exact HR247.out) | (with_reducible refine Kd.C_alloc ?_ _) | (with_reducible refine Kd.C_drewN ?_ _) | (with_reducible refine Kd.C_drew ?_) | exact HR247.out)) hb); have n3_ := Aside0.mk (below_step (by repeat (first | (with_reducible first | exact HB.out | apply below_alloc | apply pw_below_drewN | apply below_drew1) | exact HB.out)) hb); clear HO_5; clear HR247; clear HB; have HO_5 := n0_; have HO251 := n1_; have HR247 := n2_; have HB := n3_; clear n0_ n1_ n2_ n3_; (try clear hb); (try clear hb2); (try clear hk); (try clear hi); (try clear ho0); obtain ⟨Ao111, co111, eo111⟩ := Kd.S_slice HO251.out; subst eo111))
                          go_ret
                          exact ⟨by first | rfl | (simp [errW_none, errW_some] <;> rfl) | (simp [*, errW_none, errW_some] <;> rfl), by repeat (first | (with_reducible first | exact HB.out | apply below_alloc | apply pw_below_drewN | apply below_drew1) | exact HB.out)⟩
                      · rw [if_neg c100] at H
                        have c100b0 : ((t248.length : Int) == 0) = false := beq_eq_false_iff_ne.mpr c100
                        have c100b1 : ((t248.length : Int) != 0) = true := bne_iff_ne.mpr c100
                        have c100b2 : ¬ (t248 = []) := fun h_ => c100 (by rw [h_]; rfl)
                        obtain rfl := Option.some.inj H
                        obtain ⟨Ao113, co113, eo113⟩ := Kd.R_slice HO_5.out
                        subst eo113
                        have q112 : (a1 : Int) ≤ ((t211.length : Int) : Int) := of_decide_eq_true (by first | (with_reducible assumption) | assumption)
                        obtain ⟨i0112, hi0112, _, hsz112, _⟩ := info_parts info5
                        have hroom112 : t211.length ≤ co113 := (Kd.R_reads' HO_5.out).2.1
                        have hC112 : Kd.C (Kd.int .u8) _ Ao113 t211.length t211 := (Kd.R_reads' HO_5.out).2.2
                        have hcut112 := cut_to (P := Try.prog) 25 5 .i64 Try.underlying25 hi0112 Ao113 t211.length co113 a1 (of_decide_eq_true (by first | (with_reducible assumption) | assumption)) q112 hroom112
                        have hr112 := Kd.C_take (m := (a1 : Int).toNat) hC112 (by omega)
                        have hy112 : y244.length = (a1 : Int).toNat := (by rw [Ny244.out, List.length_take]; omega)
                        rw [← Ny244.out] at hr112
                        rw [← hy112] at hcut112
                        have HR247 := Aside0.mk hr112
                        have HC247 := Aside0.mk (show y244.length ≤ co113 from by omega)
                        clear hr112 hC112 hroom112 hi0112 hsz112
                        have KY112 := Aside0.mk hy112
                        clear hy112
                        have KL112 := Aside0.mk (show (a1 : Int).toNat ≤ t211.length from by omega)
                        replace q112 := eq_true q112
                        go_wp2_with (first | ((with_reducible refine gate_callee (f := 11) rfl ?_); refine goesL_ (some 97) rfl rfl Try.func11 (by kernel_rfl) rfl #[.slice Ao113 y244.length co113] rfl (by (try simp only [List.map_toArray, List.map_cons, List.map_nil]); first | done | rfl | (simp only [List.length_drop, List.length_take]; rfl)) ?_; (with_reducible refine (object_Parse.calls _ _ y244 t248 t249 _ ?side1 ?side2 A80.out).mono ?_); (case side1 => repeat (first | exact (by repeat (first | (with_reducible exact HR247.out) | (with_reducible refine Kd.C_alloc ?_ _) | (with_reducible refine Kd.C_drewN ?_ _) | (with_reducible refine Kd.C_drew ?_) | exact HR247.out)) | (with_reducible refine Kd.C_alloc ?_ _) | (with_reducible refine Kd.C_drewN ?_ _) | (with_reducible refine Kd.C_drew ?_))); (case side2 => exact HC247.out); rintro e w114 ⟨v250, rfl, ho0, hb⟩; refine ⟨_, rfl, ?_⟩; have n0_ := Aside0.mk (Kd.R_below (by (with_reducible repeat (first | apply Kd.R_alloc | apply Kd.R_drewN | apply Kd.R_drew)); exact HO_5.out) hb); have n1_ := Aside0.mk (Kd.S_lower ho0 (below_size (by repeat (first | (with_reducible first | exact HB.out | apply below_alloc | apply pw_below_drewN | apply below_drew1) | exact HB.out)))); have n2_ := Aside0.mk (Kd.C_below (by repeat (first | (with_reducible exact HR247.out) | (with_reducible refine Kd.C_alloc ?_ _) | (with_reducible refine Kd.C_drewN ?_ _) | (with_reducible refine Kd.C_drew ?_) | exact HR247.out)) hb); have n3_ := Aside0.mk (below_step (by repeat (first | (with_reducible first | exact HB.out | apply below_alloc | apply pw_below_drewN | apply below_drew1) | exact HB.out)) hb); clear HO_5; clear HR247; clear HB; have HO_5 := n0_; have HO251 := n1_; have HR247 := n2_; have HB := n3_; clear n0_ n1_ n2_ n3_; (try clear hb); (try clear hb2); (try clear hk); (try clear hi); (try clear ho0); obtain ⟨Ao115, co115, eo115⟩ := Kd.S_slice HO251.out; subst eo115))
                        go_ret
                        exact ⟨by first | rfl | (simp [errW_none, errW_some] <;> rfl) | (simp [*, errW_none, errW_some] <;> rfl), by repeat (first | (with_reducible first | exact HB.out | apply below_alloc | apply pw_below_drewN | apply below_drew1) | exact HB.out)⟩
                  · rw [if_neg c79] at H
                    exact absurd H (by simp)
                · rw [if_neg c78] at H
                  exact absurd H (by simp)
  · replace c4 := Bool.eq_false_iff.mpr c4
    subst c4
    have H1 : ((law_known.f).bind fun t210 => (some t210)) = some r := by rw [if_neg (show ¬ (false = true) by decide)] at H; exact H
    clear H
    have H := H1
    clear H1
    replace H := Option.bind_eq_some_iff.mp H
    obtain ⟨t210, A1160, H⟩ := H
    replace H : (some t210) = some r := H
    have A116 := Aside0.mk A1160
    clear A1160
    obtain rfl := Option.some.inj H
    go_enter Try.func5, Try.ntmps5
    go_wp2_with (first | ((with_reducible refine gate_callee (f := 6) rfl ?_); refine goesL_ (some 16) rfl rfl Try.func6 (by kernel_rfl) rfl #[.slice A0 l0.length c0] rfl (by (try simp only [List.map_toArray, List.map_cons, List.map_nil]); first | done | rfl | (simp only [List.length_drop, List.length_take]; rfl)) ?_; (with_reducible refine (postroadlaw07_few.calls k _ _ l0 false _ ?side1 ?side2 A3.out).mono ?_); (case side1 => repeat (first | exact HR0.out | (with_reducible refine Kd.C_alloc ?_ _) | (with_reducible refine Kd.C_drewN ?_ _) | (with_reducible refine Kd.C_drew ?_))); (case side2 => exact HC0.out); rintro e w' ⟨rfl, ⟨nd, rfl⟩⟩; refine ⟨_, rfl, ?_⟩) | ((with_reducible refine gate_callee (f := 7) rfl ?_); refine goesL_ (some 18) rfl rfl Try.func7 (by kernel_rfl) rfl #[] rfl (by (try simp only [List.map_toArray, List.map_cons, List.map_nil]); first | done | rfl | (simp only [List.length_drop, List.length_take]; rfl)) ?_; (with_reducible refine (law_known.calls  t210 _ A116.out).mono ?_); rintro e w117 ⟨rfl, hb⟩; refine ⟨_, rfl, ?_⟩; have n0_ := Aside0.mk (below_step (by repeat (first | (with_reducible first | exact HB.out | apply below_alloc | apply pw_below_drewN | apply below_drew1) | exact HB.out)) hb); clear HB; have HB := n0_; clear n0_; (try clear hb); (try clear hb2); (try clear hk); (try clear hi)))
    go_ret
    exact ⟨by first | rfl | (simp [errW_none, errW_some] <;> rfl) | (simp [*, errW_none, errW_some] <;> rfl), by repeat (first | (with_reducible first | exact HB.out | apply below_alloc | apply pw_below_drewN | apply below_drew1) | exact HB.out)⟩

end Go.Proofs.Ytecghmlojllkdaa.P

import Derived.Test.YtecghmlojllkdaaGreatTl1
import Derived.WalkLawsBesides
import Derived.WalkSpells
import Derived.BigQuiet
import Derived.Lib.Hide
namespace Go.Proofs.YtecghmlojllkdaaGreat.P
open Go.RowKit Go.Proofs.YtecghmlojllkdaaGreatW.PrintWords Go.Proofs.YtecghmlojllkdaaGreatW.PrintLast
set_option linter.unusedVariables false
set_option linter.unusedSimpArgs false
def object_number.l0 : Nat → List Int → Int → Int → Option (List Int)
 | 0, _, _, _ => none
 | k + 1, x0, x1, x7 => if x7 ≥ 0 then (if 0 ≤ (wrap64 (8 * x7)) then (if x0.length < 140737488355328 then (object_number.l0 k (x0 ++ [(shr .i64 x1 (wrap64 (8 * x7))) % 256]) x1 (wrap64 (x7 - 1))) else (none)) else (none)) else (some x0)
def object_number.f (k : Nat) (l0 : List Int) (a1 : Int) (a2 : Int) : Option (List Int) := object_number.l0 k l0 a1 (wrap64 (a2 - 1))
theorem object_number.mono_l : ∀ k, (∀ y0 y1 y2, LeO (object_number.l0 k y0 y1 y2) (object_number.l0 (k + 1) y0 y1 y2))
 | 0 => fun _ _ _ r h => by simp [object_number.l0] at h
 | k + 1 => by
  have ih0 := object_number.mono_l k
  ·intro y0 y1 y2
   unfold object_number.l0
   repeat' first
   | (with_reducible exact ih0 _ _ _)
   | (with_reducible exact LeO.refl _)
   | (with_reducible exact LeO.none _)
   | (with_reducible refine LeO.ite ?_ ?_)
   | (with_reducible refine LeO.bind ?_ (fun _ => ?_))
   | exact ih0 _ _ _
   | exact LeO.none _
   | refine LeO.ite ?_ ?_
   | refine LeO.bind ?_ (fun _ => ?_)
theorem object_number.mono : ∀ a0 a1 a2 k, LeO (object_number.f k a0 a1 a2) (object_number.f (k + 1) a0 a1 a2) := by
 intro a0 a1 a2 k
 have ih0 := object_number.mono_l k
 unfold object_number.f
 repeat' first
   | (with_reducible exact ih0 _ _ _)
   | (with_reducible exact LeO.refl _)
   | (with_reducible exact LeO.none _)
   | (with_reducible refine LeO.ite ?_ ?_)
   | (with_reducible refine LeO.bind ?_ (fun _ => ?_))
   | exact ih0 _ _ _
   | exact LeO.none _
   | refine LeO.ite ?_ ?_
   | refine LeO.bind ?_ (fun _ => ?_)
set_option maxHeartbeats 8000000 in
set_option maxRecDepth 100000 in
theorem object_number.calls (k : Nat) (P0_ : Nat → Prop) (u9000_ : Value) (l0 : List Int) (a1 : Int) (a2 : Int) (r : List Int) (w0 w : World) (hB : Below w0.heap.size w0 w) (ho0 : Kd.R (Kd.int .u8) 5 w w0.heap.size P0_ u9000_ l0) (h : object_number.f k l0 a1 a2 = some r) :
  Calls Tryz.prog 111 #[u9000_, .int .i64 a1, .int .i64 a2] w fun e w' => ∃ v0_ : Value, e = .returned (v0_) ∧ Kd.R (Kd.int .u8) 5 w' w0.heap.size (fun k_ => (P0_ k_ ∨ w.heap.size ≤ k_)) v0_ r ∧ Below w0.heap.size w0 w' ∧ Kept w w' (fun k_ => P0_ k_) := by
 have HO0 := Aside0.mk (show Kd.R (Kd.int .u8) 5 w w0.heap.size (fun k_ => (P0_ k_ ∨ w.heap.size ≤ k_)) u9000_ l0 from Kd.R_mono ho0 (fun k_ hk => (.inl hk)))
 have HK := Aside0.mk (Kept.refl w (fun k_ => P0_ k_))
 have HW0 := Aside0.mk hB.size
 have HB := Aside0.mk hB
 clear hB
 have H : (object_number.l0 k l0 a1 (wrap64 (a2 - 1))) = some r := h
 clear h
 have H' := Aside0.mk H
 clear H
 go_enter Tryz.func111, Tryz.ntmps111
 go_wp2
 go_loopg [0, 7] k (fun kq v0 v7 w' => ∃ (x0_1 : List Int) (x7_1 : Int), v7 = .int .i64 x7_1 ∧ Aside0 (object_number.l0 kq x0_1 a1 x7_1 = some r) ∧ Aside0 (kq ≤ k) ∧ Aside0 (Kd.R (Kd.int .u8) 5 w' w0.heap.size (fun k_ => (P0_ k_ ∨ w.heap.size ≤ k_)) v0 x0_1) ∧ Aside0 (Kept w w' (fun k_ => P0_ k_)) ∧ Aside0 (Below w0.heap.size w0 w'))
 case atStart => exact ⟨(l0), (wrap64 (a2 - 1)), (by first | rfl | (simp; done) | (simp [*]; done)), H', ⟨Nat.le_refl _⟩, ⟨by (with_reducible repeat (first | apply Kd.R_alloc | apply Kd.R_drewN | apply Kd.R_drew)); exact HO0.out⟩, ⟨by repeat (first | (with_reducible first | exact HK.out | apply Kept.alloc | apply Kept.drewN | apply Kept.drew) | exact HK.out)⟩, ⟨by repeat (first | (with_reducible first | exact HB.out | apply below_alloc | apply pw_below_drewN | apply below_drew1) | exact HB.out)⟩⟩
 case round =>
  clear H'
  try clear c1
  try clear p2
  obtain ⟨x0_1, x7_1, rfl, HA, HK1, HO_0, HK, HB⟩ := hrel
  cases gk with
  | zero => exact absurd HA.out (by simp [object_number.l0])
  | succ k1 =>
   have H := HA.out
   clear HA
   simp only [object_number.l0] at H
   by_cases c4 : x7_1 ≥ 0
   ·rw [if_pos c4] at H
    have c4b0 : decide (0 ≤ x7_1) = true := decide_eq_true c4
    clear c4
    obtain ⟨ji5, hji5⟩ : ∃ j_ : Int, (wrap64 (8 * x7_1)) = j_ := ⟨_, rfl⟩
    replace H : (if 0 ≤ (ji5) then (if x0_1.length < 140737488355328 then (object_number.l0 k1 (x0_1 ++ [(shr .i64 a1 (ji5)) % 256]) a1 (wrap64 (x7_1 - 1))) else (none)) else (none)) = some r := by first | (rw [hji5] at H; exact H) | (simp only [hji5] at H ⊢; exact H)
    have hji5w : (IntKind.i64.wrap (8 * x7_1)) = ji5 := (i64_w _).trans hji5
    by_cases c6 : 0 ≤ (ji5)
    ·rw [if_pos c6] at H
     have c6b0 := eq_true c6
     have c6b1 : decide (0 ≤ (ji5)) = true := decide_eq_true c6
     clear c6
     obtain ⟨ji7, hji7⟩ : ∃ j_ : Int, (shr .i64 a1 (ji5)) = j_ := ⟨_, rfl⟩
     replace H : (if x0_1.length < 140737488355328 then (object_number.l0 k1 (x0_1 ++ [(ji7) % 256]) a1 (wrap64 (x7_1 - 1))) else (none)) = some r := by first | (rw [hji7] at H; exact H) | (simp only [hji7] at H ⊢; exact H)
     have hji7_ : (a1 / 2 ^ min (ji5).toNat 64) = ji7 := hji7
     have hji7z : (ji5) ≤ 64 → (a1 / 2 ^ (ji5).toNat) = ji7 := shr_small hji7
     by_cases c8 : x0_1.length < 140737488355328
     ·rw [if_pos c8] at H
      have LMc8 := Aside0.mk c8
      clear c8
      obtain ⟨y103, hy103⟩ : ∃ y_ : List Int, y_ = (x0_1 ++ [(ji7) % 256]) := ⟨_, rfl⟩
      replace H : (object_number.l0 k1 y103 a1 (wrap64 (x7_1 - 1))) = some r := by first | (rw [hy103]; with_reducible exact H) | (have H2_ := (Option.bind_some _ _).symm.trans H; rw [hy103]; with_reducible exact H2_) | (have H2_ := (Option.bind_some _ _).symm.trans H; with_reducible exact H2_) | with_reducible exact H | (rw [hy103]; exact H) | exact H
      have Ny103 := Aside0.mk hy103
      clear hy103
      have H' := Aside0.mk H
      clear H
      go_wp2_with (first | ((with_reducible refine gate_builtin (b := .append) (xs := #[.tmp 14, .tmp 20]) rfl ?_); at_builtin; refine Kd.R_append (Kd.int .u8) (w0 := w0) w0.heap.size rfl (.tmp 14) (.tmp 20) 72 5 (.int .u8 0) 1 rfl Tryz.underlying72 info5 rfl (by decide) (by omega) u0 x0_1 ((ji7) % 256) [.int .u8 ((ji7) % 256)] (fun k_ => (P0_ k_ ∨ w.heap.size ≤ k_)) (fun _ => False) rfl rfl ?aP (fun _ hk => hk.elim) ?aF ?aO ?aB ?aS ?aL ?_; (case aP => exact rfl); (case aB => exact (by repeat (first | (with_reducible first | exact HB.out | apply below_alloc | apply pw_below_drewN | apply below_drew1) | exact HB.out))); (case aF => exact (fun k_ hk => (.inr (Nat.le_trans (by first | exact HK.out.1 | exact (show Kept w _ (fun k_ => P0_ k_) from by repeat (first | (with_reducible first | exact HK.out | apply Kept.alloc | apply Kept.drewN | apply Kept.drew) | exact HK.out)).1) hk)))); (case aO => exact (by (with_reducible repeat (first | apply Kd.R_alloc | apply Kd.R_drewN | apply Kd.R_drew)); exact HO_0.out)); (case aS => exact (below_size (by repeat (first | (with_reducible first | exact HB.out | apply below_alloc | apply pw_below_drewN | apply below_drew1) | exact HB.out)))); (case aL => have := LMc8.out; omega); intro v104 w9 ho hb hg hat; rw [← Ny103.out] at ho; have n0_ := Aside0.mk (hb); have n1_ := Aside0.mk (Kept.of_grown (S := (fun k_ => P0_ k_)) hg (by repeat (first | (with_reducible first | exact HK.out | apply Kept.alloc | apply Kept.drewN | apply Kept.drew) | exact HK.out)) (fun k_ e_ => (HO_0.out.1 k_ e_))); have n2_ := Aside0.mk (ho); clear HB; clear HK; clear HO_0; have HB := n0_; have HK := n1_; have HO105 := n2_; clear n0_ n1_ n2_; clear ho hb hg hat))
      go_roundg k1
      case measure => have := HK1.out; omega
      case rel => exact ⟨(y103), (wrap64 (x7_1 - 1)), (by first | rfl | (simp; done) | (simp [*]; done)), H', ⟨by have := HK1.out; omega⟩, ⟨by (with_reducible repeat (first | apply Kd.R_alloc | apply Kd.R_drewN | apply Kd.R_drew)); exact HO105.out⟩, ⟨by repeat (first | (with_reducible first | exact HK.out | apply Kept.alloc | apply Kept.drewN | apply Kept.drew) | exact HK.out)⟩, ⟨by repeat (first | (with_reducible first | exact HB.out | apply below_alloc | apply pw_below_drewN | apply below_drew1) | exact HB.out)⟩⟩
     ·rw [if_neg c8] at H
      exact absurd H (by simp)
    ·rw [if_neg c6] at H
     exact absurd H (by simp)
   ·rw [if_neg c4] at H
    have c4b0 : decide (0 ≤ x7_1) = false := decide_eq_false c4
    clear c4
    obtain rfl := Option.some.inj H
    go_wp2
    go_ret
    exact ⟨_, by first | rfl | (simp [errW_none, errW_some] <;> rfl) | (simp [*, errW_none, errW_some] <;> rfl), by (with_reducible repeat (first | apply Kd.R_alloc | apply Kd.R_drewN | apply Kd.R_drew)); exact HO_0.out, by repeat (first | (with_reducible first | exact HB.out | apply below_alloc | apply pw_below_drewN | apply below_drew1) | exact HB.out), by repeat (first | (with_reducible first | exact HK.out | apply Kept.alloc | apply Kept.drewN | apply Kept.drew) | exact HK.out)⟩
set_option maxRecDepth 100000
def inB (n least most : Int) : Bool := decide (least ≤ n) && decide (n ≤ most)
theorem within64 (n a b : Int) (w : World) :
  Calls Tryz.prog 123 #[.int .i64 n, .int .i64 a, .int .i64 b] w fun e w' => e = .returned (.bool (inB n a b)) ∧ w = w' := by
 by_cases h1 : a ≤ n
 ·by_cases h2 : n ≤ b
  all_goals
   go_enter Tryz.func123, Tryz.ntmps123
   go_wp2
   go_ret
   exact ⟨by simp [inB, *], rfl⟩
 ·go_enter Tryz.func123, Tryz.ntmps123
  go_wp2
  go_ret
  exact ⟨by simp [inB]; omega, rfl⟩
theorem withinInt (n a b : Int) (w : World) :
  Calls Tryz.prog 184 #[.int .i64 n, .int .i64 a, .int .i64 b] w fun e w' => e = .returned (.bool (inB n a b)) ∧ w = w' := by
 by_cases h1 : a ≤ n
 ·by_cases h2 : n ≤ b
  all_goals
   go_enter Tryz.func184, Tryz.ntmps184
   go_wp2
   go_ret
   exact ⟨by simp [inB, *], rfl⟩
 ·go_enter Tryz.func184, Tryz.ntmps184
  go_wp2
  go_ret
  exact ⟨by simp [inB]; omega, rfl⟩
theorem mayWord (n : Int) (w : World) : Calls Tryz.prog 183 #[.int .i64 n] w fun e w' => e = .returned (.bool (!inB n 0 4294967295)) ∧ w = w' := by
 go_enter Tryz.func183, Tryz.ntmps183
 go_wp2_with (go_at_call 123; refine (within64 _ _ _ _).mono ?_; rintro e w' ⟨rfl, rfl⟩)
 go_ret
 exact ⟨rfl, rfl⟩
theorem list_ (v : Value) (w : World) : Calls Tryz.prog 114 #[v] w fun e w' => e = .returned v ∧ w = w' := by
 go_enter Tryz.func114, Tryz.ntmps114
 go_wp2
 go_ret
 exact ⟨rfl, rfl⟩
theorem any_at {xs : List Int} {p : Int → Bool} (k : Nat) (hk : k < xs.length) (h : p (rd xs k) = true) : xs.any p = true := by
 rw [List.any_eq_true]
 refine ⟨rd xs k, ?_, h⟩
 simp only [rd, Int.toNat_natCast, List.getD_eq_getElem?_getD, List.getElem?_eq_getElem hk, Option.getD_some]
 exact List.getElem_mem hk
theorem any_none {xs : List Int} {p : Int → Bool} (h : ∀ j, j < xs.length → p (rd xs (j : Nat)) = false) : xs.any p = false := by
 rw [List.any_eq_false]
 intro x hx
 obtain ⟨j, hj, rfl⟩ := List.getElem_of_mem hx
 have := h j hj
 simp only [rd, Int.toNat_natCast, List.getD_eq_getElem?_getD, List.getElem?_eq_getElem hj, Option.getD_some] at this
 simpa using this
def badWords (xs : List Int) : Bool := xs.any (fun n => !inB n 0 4294967295)
theorem ret_int {k : IntKind} {a b : Int} (h : a = b) : Ending.returned (.int k a) = .returned (.int k b) := by rw [h]
theorem ret_bool {a b : Bool} (h : a = b) : Ending.returned (.bool a) = .returned (.bool b) := by rw [h]
def IdxOf (b : Bool) (w : World) (e : Ending) (w' : World) : Prop := (∃ i : Int, e = .returned (.int .i64 i) ∧ (0 ≤ i ↔ b = true)) ∧ w = w'
set_option maxHeartbeats 800000 in
theorem indexWords (A : Option Addr) (c : Nat) (xs : List Int) (w : World) (hr : Kd.C (Kd.int .i64) w A xs.length xs) :
  Calls Tryz.prog 254 #[.slice A xs.length c, .func (.func 183) #[] #[]] w (IdxOf (badWords xs) w) := by
 have hm : xs.length ≤ 9223372036854775807 := hr.2.1
 have HR := Lib.hid hr
 clear hr
 go_enter Tryz.func254, Tryz.ntmps254
 go_wp2
 go_loop [8] (fun i => ∃ k : Nat, k ≤ xs.length ∧ i = .int .i64 k ∧ ∀ j, j < k → inB (rd xs j) 0 4294967295 = true) (fun i => xs.length - (intOf i).toNat)
 case atStart => exact ⟨0, Nat.zero_le _, rfl, fun j hj => absurd hj (Nat.not_lt_zero j)⟩
 case round =>
  obtain ⟨k, hk, rfl, hall⟩ := hrel
  have HA := Lib.hid hall
  clear hall
  by_cases hlt : k < xs.length
  ·obtain ⟨ad, hA, hc⟩ := Kd.at_int HR.out (k : Int) (by omega) (by omega)
   subst hA
   simp only [Int.toNat_natCast] at hc
   go_wp2_with (go_at_call 183; refine (mayWord _ _).mono ?_; rintro e w' ⟨rfl, rfl⟩)
   ·have hx : (!inB (rd xs ↑k) 0 4294967295) = true := by assumption
    go_ret
    exact ⟨⟨_, rfl, by simp only [Int.natCast_nonneg, true_iff]; exact any_at k hlt hx⟩, rfl⟩
   ·have hx : (!inB (rd xs ↑k) 0 4294967295) = false := by assumption
    refine ⟨⟨k + 1, by omega, by go_num, fun j hj => ?_⟩, by simp [intOf]; omega⟩
    by_cases hjk : j < k
    ·exact HA.out j hjk
    ·obtain rfl : j = k := by omega
     simpa using hx
  ·go_wp2
   go_ret
   refine ⟨⟨_, rfl, ?_⟩, rfl⟩
   have : badWords xs = false := any_none fun j hj => by simp [HA.out j (by omega)]
   rw [this]
   simp
theorem containsWords (A : Option Addr) (c : Nat) (xs : List Int) (w : World) (hr : Kd.C (Kd.int .i64) w A xs.length xs) :
  Calls Tryz.prog 185 #[.slice A xs.length c, .func (.func 183) #[] #[]] w fun e w' => e = .returned (.bool (badWords xs)) ∧ w = w' := by
 go_enter Tryz.func185, Tryz.ntmps185
 go_wp2_with (go_at_call 254; refine (indexWords _ _ _ _ hr).mono ?_; rintro e w' ⟨⟨i, rfl, hi⟩, rfl⟩)
 go_ret
 refine ⟨ret_bool ?_, rfl⟩
 cases h : badWords xs with
 | true => simp
 | false =>
  simp
def mayB (o : S24) : Bool := inB o.f0 0 255 && inB o.f1 0 255 && inB o.f2.length 1 64 && !badWords o.f2
set_option maxHeartbeats 1600000 in
theorem may_ (c t : Int) (A : Option Addr) (m : Nat) (ws : List Int) (w : World) (hr : Kd.C (Kd.int .i64) w A ws.length ws) :
  Calls Tryz.prog 110 #[.agg #[.int .i64 c, .int .i64 t, .slice A ws.length m]] w fun e w' => e = .returned (.bool (mayB ⟨c, t, ws⟩)) ∧ Below w.heap.size w w' := by
 have hm : ws.length ≤ 9223372036854775807 := hr.2.1
 have HR := Lib.hid hr
 clear hr
 cases h1 : inB c 0 255 with
 | false =>
  go_enter Tryz.func110, Tryz.ntmps110
  go_wp2_with (go_at_call 184; refine (withinInt _ _ _ _).mono ?_; rintro e w' ⟨rfl, rfl⟩)
  go_ret
  exact ⟨ret_bool (by simp [mayB, h1]), (Below.refl _ _).alloc (Nat.le_refl _) _⟩
 | true =>
  cases h2 : inB t 0 255 with
  | false =>
   go_enter Tryz.func110, Tryz.ntmps110
   go_wp2_with (go_at_call 184; refine (withinInt _ _ _ _).mono ?_; rintro e w' ⟨rfl, rfl⟩)
   go_ret
   exact ⟨ret_bool (by simp [mayB, h2]), (Below.refl _ _).alloc (Nat.le_refl _) _⟩
  | true =>
   cases h3 : inB (ws.length : Int) 1 64 with
   | false =>
    go_enter Tryz.func110, Tryz.ntmps110
    go_wp2_with (go_at_call 184; refine (withinInt _ _ _ _).mono ?_; rintro e w' ⟨rfl, rfl⟩)
    go_ret
    exact ⟨ret_bool (by simp [mayB, h3]), (Below.refl _ _).alloc (Nat.le_refl _) _⟩
   | true =>
    go_enter Tryz.func110, Tryz.ntmps110
    go_wp2_with (first
     | (go_at_call 184; refine (withinInt _ _ _ _).mono ?_; rintro e w' ⟨rfl, rfl⟩)
     | (go_at_call 185; refine (containsWords _ _ _ _ (Kd.C_alloc HR.out _)).mono ?_; rintro e w' ⟨rfl, rfl⟩))
    go_ret
    exact ⟨ret_bool (by simp [mayB, h1, h2, h3]), (Below.refl _ _).alloc (Nat.le_refl _) _⟩
set_option maxHeartbeats 1600000 in
theorem mayNot (c t : Int) (A : Option Addr) (m : Nat) (ws : List Int) (w : World) (hr : Kd.C (Kd.int .i64) w A ws.length ws) :
  Calls Tryz.prog 109 #[.agg #[.int .i64 c, .int .i64 t, .slice A ws.length m]] w fun e w' => e = .returned (.bool (!mayB ⟨c, t, ws⟩)) ∧ Below w.heap.size w w' := by
 have HR := Lib.hid hr
 clear hr
 go_enter Tryz.func109, Tryz.ntmps109
 go_wp2_with (go_at_call 110; refine (may_ _ _ _ _ _ _ (Kd.C_alloc HR.out _)).mono ?_; rintro e w' ⟨rfl, hb⟩)
 go_ret
 exact ⟨rfl, ((Below.refl _ _).alloc (Nat.le_refl _) _).trans (hb.mono (by simp))⟩
def IdxB (b : Bool) (w : World) (e : Ending) (w' : World) : Prop := (∃ i : Int, e = .returned (.int .i64 i) ∧ (0 ≤ i ↔ b = true)) ∧ Below w.heap.size w w'
theorem any_atO {xs : List S24} {p : S24 → Bool} (k : Nat) (hk : k < xs.length) (h : p (rd_T24 xs k) = true) : xs.any p = true := by
 rw [List.any_eq_true]
 refine ⟨rd_T24 xs k, ?_, h⟩
 simp only [rd_T24, Int.toNat_natCast, List.getD_eq_getElem?_getD, List.getElem?_eq_getElem hk, Option.getD_some]
 exact List.getElem_mem hk
theorem any_noneO {xs : List S24} {p : S24 → Bool} (h : ∀ j, j < xs.length → p (rd_T24 xs (j : Nat)) = false) : xs.any p = false := by
 rw [List.any_eq_false]
 intro x hx
 obtain ⟨j, hj, rfl⟩ := List.getElem_of_mem hx
 have := h j hj
 simp only [rd_T24, Int.toNat_natCast, List.getD_eq_getElem?_getD, List.getElem?_eq_getElem hj, Option.getD_some] at this
 simpa using this
def badObjs (l : List S24) : Bool := l.any (fun o => !mayB o)
set_option maxHeartbeats 3200000 in
theorem indexObjs (A : Option Addr) (c : Nat) (xs : List S24) (w : World) (hr : Kd.C k24 w A xs.length xs) :
  Calls Tryz.prog 182 #[.slice A xs.length c, .func (.func 109) #[] #[]] w (IdxB (badObjs xs) w) := by
 have hm : xs.length ≤ 9223372036854775807 := hr.2.1
 have HR := Lib.hid hr
 clear hr
 have hu := Tryz.underlying24
 go_enter Tryz.func182, Tryz.ntmps182
 go_wp2
 go_loopw [8] (fun i wr => ∃ k : Nat, k ≤ xs.length ∧ i = .int .i64 k ∧ (∀ j, j < k → mayB (rd_T24 xs j) = true) ∧ Below w.heap.size w wr) (fun i _ => xs.length - (intOf i).toNat)
 case atStart => exact ⟨0, Nat.zero_le _, rfl, fun j hj => absurd hj (Nat.not_lt_zero j), Below.refl _ _⟩
 case round =>
  obtain ⟨k, hk, rfl, hall, hbel⟩ := hrel
  have HA := Lib.hid hall
  have HB := Lib.hid hbel
  clear hall hbel
  by_cases hlt : k < xs.length
  ·obtain ⟨ad, A2, c2, hA, hc0, hc1, hc2, hl2, hi2⟩ := at_T24 (Kd.C_below HR.out HB.out) (k : Int) (by omega) (by omega)
   subst hA
   simp only [Int.toNat_natCast] at hc0 hc1 hc2
   have HI := Lib.hid hi2
   clear hi2
   go_wp2_with (go_at_call 109; refine (mayNot _ _ _ _ _ _ HI.out).mono ?_; rintro e w' ⟨rfl, hb⟩)
   ·have hx : (!mayB (rd_T24 xs ↑k)) = true := by assumption
    go_ret
    exact ⟨⟨_, rfl, by simp only [Int.natCast_nonneg, true_iff]; exact any_atO k hlt hx⟩, HB.out.trans (hb.mono HB.out.size)⟩
   ·have hx : (!mayB (rd_T24 xs ↑k)) = false := by assumption
    refine ⟨⟨k + 1, by omega, by go_num, fun j hj => ?_, HB.out.trans (hb.mono HB.out.size)⟩, by simp [intOf]; omega⟩
    by_cases hjk : j < k
    ·exact HA.out j hjk
    ·obtain rfl : j = k := by omega
     simpa using hx
  ·go_wp2
   go_ret
   refine ⟨⟨_, rfl, ?_⟩, HB.out⟩
   have : badObjs xs = false := any_noneO fun j hj => by simp [HA.out j (by omega)]
   rw [this]
   simp
def ContainsBad.f (l : List S24) : Option Bool := some (badObjs l)
theorem ContainsBad.calls (A0 : Option Addr) (c0 : Nat) (l0 : List S24) (r : Bool) (w : World) (hr0 : Kd.C k24 w A0 l0.length l0) (_hc0 : l0.length ≤ c0) (h : ContainsBad.f l0 = some r) :
  Calls Tryz.prog 108 #[.slice A0 l0.length c0, .func (.func 109) #[] #[]] w fun e w' => e = .returned (.bool r) ∧ Below w.heap.size w w' := by
 obtain rfl : badObjs l0 = r := by simpa [ContainsBad.f] using h
 go_enter Tryz.func108, Tryz.ntmps108
 go_wp2_with (go_at_call 182; refine (indexObjs _ _ _ _ hr0).mono ?_; rintro e w' ⟨⟨i, rfl, hi⟩, hb⟩)
 go_ret
 refine ⟨ret_bool ?_, hb⟩
 cases h : badObjs l0 with
 | true => simp
 | false =>
  simp
end Go.Proofs.YtecghmlojllkdaaGreat.P

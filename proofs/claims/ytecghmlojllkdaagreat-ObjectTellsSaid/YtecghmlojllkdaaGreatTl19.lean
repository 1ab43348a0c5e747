import Derived.Test.YtecghmlojllkdaaGreatTl1
import Derived.Test.YtecghmlojllkdaaGreatTl18
namespace Go.Proofs.YtecghmlojllkdaaGreat.P
open Go.RowKit Go.Proofs.YtecghmlojllkdaaGreatW.PrintWords Go.Proofs.YtecghmlojllkdaaGreatW.PrintLast
set_option linter.unusedVariables false
set_option linter.unusedSimpArgs false
def object_wishes_2.f (l0 : List Int) : Option (Int × Int × Int × Int × Int × Int × Int) := (object_specOf.f l0).bind fun bt1121 => (if 5 < (l0.length : Int) then (if 6 < (l0.length : Int) then (some (bt1121.1, bt1121.2.1, bt1121.2.2.1, bt1121.2.2.2.1, bt1121.2.2.2.2, rd l0 5, rd l0 6)) else (none)) else (none))
def object_wishes_2.T1 : Bool × List (List Nat × List Nat) := (true, [([], []), ([0], [0]), ([], []), ([2], [2]), ([3], [3]), ([], []), ([5], [5]), ([6], [6]), ([1, 4, 7], [1, 4, 7]), ([8, 1, 0, 1, 2, 3, 4, 5, 6, 7, 8], [8])])
def object_wishes_2.B1 : List Nat := [0, 1, 0, 4, 12, 0, 32, 96, 255, 511]
theorem object_wishes_2.tab1 : rtab .any (opsOf Tryz.f133 1) = object_wishes_2.T1 := by kernel_rfl
theorem object_wishes_2.bits1 : waitsOk object_wishes_2.T1.2 object_wishes_2.B1 = true := by kernel_rfl
set_option maxHeartbeats 8000000 in
set_option maxRecDepth 100000 in
theorem object_wishes_2.calls (A0 : Option Addr) (c0 : Nat) (l0 : List Int) (r1 : Int) (r2 : Int) (r3 : Int) (r4 : Int) (r5 : Int) (r6 : Int) (r7 : Int) (w : World) (hr0 : Kd.C (Kd.int .i64) w A0 l0.length l0) (hc0 : l0.length ≤ c0) (h : object_wishes_2.f l0 = some (r1, r2, r3, r4, r5, r6, r7)) :
  Calls Tryz.prog 133 #[.slice A0 l0.length c0] w fun e w' => e = .returned (.agg #[.int .i64 r1, .int .i64 r2, .int .i64 r3, .int .i64 r4, .int .i64 r5, .int .i64 r6, .int .i64 r7]) ∧ Below w.heap.size w w' := by
 have hu58 := Tryz.underlying58
 have HR0 := Aside0.mk hr0
 have HC0 := Aside0.mk hc0
 clear hr0 hc0
 have HB := Aside0.mk (Below.refl w.heap.size w)
 have H : ((object_specOf.f l0).bind fun bt1121 => (if 5 < (l0.length : Int) then (if 6 < (l0.length : Int) then (some (bt1121.1, bt1121.2.1, bt1121.2.2.1, bt1121.2.2.2.1, bt1121.2.2.2.2, rd l0 5, rd l0 6)) else (none)) else (none))) = some (r1, r2, r3, r4, r5, r6, r7) := h
 clear h
 replace H := Option.bind_eq_some_iff.mp H
 obtain ⟨⟨t1121, t1122, t1123, t1124, t1125⟩, A20, H⟩ := H
 replace H : (if 5 < (l0.length : Int) then (if 6 < (l0.length : Int) then (some (t1121, t1122, t1123, t1124, t1125, rd l0 5, rd l0 6)) else (none)) else (none)) = some (r1, r2, r3, r4, r5, r6, r7) := H
 have A2 := Aside0.mk A20
 clear A20
 by_cases c3 : 5 < (l0.length : Int)
 ·rw [if_pos c3] at H
  have c3b0 : decide (5 < (l0.length : Int)) = true := decide_eq_true c3
  have c3b1 : decide (5 < l0.length) = true := decide_eq_true (by omega)
  clear c3
  by_cases c4 : 6 < (l0.length : Int)
  ·rw [if_pos c4] at H
   have c4b0 : decide (6 < (l0.length : Int)) = true := decide_eq_true c4
   have c4b1 : decide (6 < l0.length) = true := decide_eq_true (by omega)
   clear c4
   simp only [Option.some.injEq, Prod.mk.injEq] at H
   obtain ⟨rfl, rfl, rfl, rfl, rfl, rfl, rfl⟩ := H
   go_enter Tryz.func133, Tryz.ntmps133
   try go_wp2_with (first | ((with_reducible refine gate_dst (N := 2) rfl ?_); refine box_event ?hg (N := 2) ?hd (cs := #[.int .i64 0, .int .i64 0, .int .i64 0, .int .i64 0, .int .i64 0, .int .i64 0, .int .i64 0]) (t := 58) ?hr ?_; (case hd => rfl); (case hg => rfl); (case hr => first | (go_simp; done) | (go_simp; rfl)); intro gb1120 hg w5 hbox hb; have n0_ := Aside0.mk (below_step (by repeat (first | (with_reducible first | exact HB.out | apply below_alloc | apply pw_below_drewN | apply below_drew1) | exact HB.out)) hb); have n1_ := Aside0.mk (hbox); have n2_ := Aside0.mk ((by rw [hg]; exact (below_size (by repeat (first | (with_reducible first | exact HB.out | apply below_alloc | apply pw_below_drewN | apply below_drew1) | exact HB.out))) : w.heap.size ≤ gb1120)); have n3_ := Aside0.mk ((by rw [hg]; exact (below_size (by repeat (first | (with_reducible first | exact HB.out | apply below_alloc | apply pw_below_drewN | apply below_drew1) | exact HB.out))) : w.heap.size ≤ gb1120)); clear HB; have HB := n0_; have BK1120 := n1_; have GW1120 := n2_; have GE1120 := n3_; clear n0_ n1_ n2_ n3_; clear hb hbox hg))
   have n0_ := Aside0.mk (blk_drew BK1120.out)
   have n1_ := Aside0.mk (below_drew1 HB.out)
   clear BK1120
   clear HB
   have BK1120 := n0_
   have HB := n1_
   clear n0_ n1_
   have p1126 : 0 ≤ (5 : Int) := (by omega)
   have q1126 : 5 < (l0.length : Int) := of_decide_eq_true (by first | (with_reducible assumption) | assumption)
   obtain ⟨ad1126, e1126, hx1126_0⟩ := Kd.at_int HR0.out 5 p1126 q1126
   have hw1126_0 := hx1126_0
   (try rw [show ((5 : Int)).toNat = 5 from rfl] at hw1126_0)
   (try rw [show 5 * 1 = 5 from rfl] at hw1126_0)
   (try simp only [Nat.reduceMul, Nat.reduceEqDiff, Go.Addr.add, ↓reduceIte] at hw1126_0)
   cases e1126
   (try simp only [show (5 : Int).toNat = 5 from rfl, Nat.reduceMul, Nat.reduceEqDiff, Go.Addr.add, ↓reduceIte] at hx1126_0)
   have qi1126 : (5 < l0.length) = True := eq_true (by omega)
   (try rw [show ((5 : Int)).toNat = 5 from rfl] at hx1126_0)
   replace hx1126_0 := (HB.out.cell (World.block_lt_of_cell? w _ hx1126_0)).trans hx1126_0
   replace p1126 := eq_true p1126
   replace q1126 := eq_true q1126
   have p1127 : 0 ≤ (6 : Int) := (by omega)
   have q1127 : 6 < (l0.length : Int) := of_decide_eq_true (by first | (with_reducible assumption) | assumption)
   obtain ⟨ad1127, e1127, hx1127_0⟩ := Kd.at_int HR0.out 6 p1127 q1127
   have hw1127_0 := hx1127_0
   (try rw [show ((6 : Int)).toNat = 6 from rfl] at hw1127_0)
   (try rw [show 6 * 1 = 6 from rfl] at hw1127_0)
   (try simp only [Nat.reduceMul, Nat.reduceEqDiff, Go.Addr.add, ↓reduceIte] at hw1127_0)
   obtain rfl : ad1126 = ad1127 := (by injection e1127)
   (try simp only [show (6 : Int).toNat = 6 from rfl, Nat.reduceMul, Nat.reduceEqDiff, Go.Addr.add, ↓reduceIte] at hx1127_0)
   have qi1127 : (6 < l0.length) = True := eq_true (by omega)
   (try rw [show ((6 : Int)).toNat = 6 from rfl] at hx1127_0)
   replace hx1127_0 := (HB.out.cell (World.block_lt_of_cell? w _ hx1127_0)).trans hx1127_0
   replace p1127 := eq_true p1127
   replace q1127 := eq_true q1127
   refine start_ (n := 10) (S := fun w' => w'.cell? ⟨ad1126.block, ad1126.off + 5, none⟩ = some (.int .i64 (rd l0 5)) ∧ w'.cell? ⟨ad1126.block, ad1126.off + 6, none⟩ = some (.int .i64 (rd l0 6))) (ds := []) #[false, false, false, false, false, false, false, false, false, false] (by kernel_rfl) rfl rfl ⟨((HB.out.cell (World.block_lt_of_cell? w _ hw1126_0)).trans hw1126_0), ((HB.out.cell (World.block_lt_of_cell? w _ hw1127_0)).trans hw1127_0)⟩ (fun hHeld => ?_); refine with_tabW object_wishes_2.tab1 object_wishes_2.bits1 (fun HT_ HW_ => ?_)
   generalize w5.drew = w6 at BK1120 HB hx1126_0 hx1127_0 hHeld ⊢
   refine pure_ (i := 0) (N := some 3) (v := ?_) (a' := ?_) #[true, false, false, false, false, false, false, false, false, false] rfl rfl (any_of HT_.out (by kernel_rfl)) (fun _ _ _ h => h) (Or.inl ⟨by rfl, ?_⟩) ?_ ?_
   rotate_left
   ·intro w'
    go_simp
    with_reducible rfl
   rotate_left
   ·simp only [Act.put, sA, sZ, sS, i64_w, i32_w]
    rfl
   refine pure_ (i := 2) (N := some 5) (v := ?_) (a' := ?_) #[true, false, true, false, false, false, false, false, false, false] rfl rfl (any_of HT_.out (by kernel_rfl)) (fun _ _ _ h => h) (Or.inl ⟨by rfl, ?_⟩) ?_ ?_
   rotate_left
   ·intro w'
    go_simp
    with_reducible rfl
   rotate_left
   ·simp only [Act.put, sA, sZ, sS, i64_w, i32_w]
    rfl
   refine pure_ (i := 3) (N := some 6) (v := ?_) (a' := ?_) #[true, false, true, true, false, false, false, false, false, false] rfl rfl (any_of HT_.out (by kernel_rfl)) (fun _ _ _ h => h) (Or.inl ⟨by rfl, ?_⟩) ?_ ?_
   rotate_left
   ·intro w'
    go_simp
    with_reducible rfl
   rotate_left
   ·simp only [Act.put, sA, sZ, sS, i64_w, i32_w]
    rfl
   refine pure_ (i := 5) (N := some 8) (v := ?_) (a' := ?_) #[true, false, true, true, false, true, false, false, false, false] rfl rfl (any_of HT_.out (by kernel_rfl)) (fun _ _ _ h => h) (Or.inl ⟨by rfl, ?_⟩) ?_ ?_
   rotate_left
   ·intro w'
    go_simp
    with_reducible rfl
   rotate_left
   ·simp only [Act.put, sA, sZ, sS, i64_w, i32_w]
    rfl
   refine pure_ (i := 6) (N := some 9) (v := ?_) (a' := ?_) #[true, false, true, true, false, true, true, false, false, false] rfl rfl (any_of HT_.out (by kernel_rfl)) (fun _ _ _ h => h) (Or.inl ⟨by rfl, ?_⟩) ?_ ?_
   rotate_left
   ·intro w'
    go_simp
    with_reducible rfl
   rotate_left
   ·simp only [Act.put, sA, sZ, sS, i64_w, i32_w]
    rfl
   refine take_ (i := 4) (N := some 7) (v := ?_) (a' := ?_) #[true, false, true, true, true, true, true, false, false, false] rfl rfl (take_ofW HT_.out HW_.out (by kernel_rfl)) (fun _ _ _ h => h) (Or.inl ⟨by rfl, ?_⟩) hHeld ?_ ?_
   rotate_left
   ·rintro w' ⟨s0, s1⟩
    go_simp
    with_reducible rfl
   rotate_left
   ·simp only [Act.put, sA, sZ, sS, i64_w, i32_w]
    rfl
   refine take_ (i := 7) (N := some 10) (v := ?_) (a' := ?_) #[true, false, true, true, true, true, true, true, false, false] rfl rfl (take_ofW HT_.out HW_.out (by kernel_rfl)) (fun _ _ _ h => h) (Or.inl ⟨by rfl, ?_⟩) hHeld ?_ ?_
   rotate_left
   ·rintro w' ⟨s0, s1⟩
    go_simp
    with_reducible rfl
   rotate_left
   ·simp only [Act.put, sA, sZ, sS, i64_w, i32_w]
    rfl
   refine one_ (i := 1) (N := some 4) #[true, true, true, true, true, true, true, true, false, false] rfl rfl (one_of HT_.out (by kernel_rfl)) (by decide) (fun K hK => ?_)
   refine goes_ Tryz.func134 (by kernel_rfl) rfl #[.slice (some ad1126) l0.length c0] (by rfl) rfl rfl (by (try simp only [mT, mC, mN]); first | done | rfl | (simp only [List.length_drop, List.length_take]; rfl)) ?_
   with_reducible refine (object_specOf.calls _ _ l0 t1121 t1122 t1123 t1124 t1125 _ ?side1 ?side2 A2.out).mono ?_
   (case side1 => repeat (first | exact (Kd.C_below HR0.out HB.out) | (with_reducible refine Kd.C_alloc ?_ _) | (with_reducible refine Kd.C_drewN ?_ _) | (with_reducible refine Kd.C_drew ?_)))
   (case side2 => exact HC0.out)
   rintro e w7 ⟨rfl, hb⟩
   refine ⟨_, rfl, ?_⟩
   have n0_ := Aside0.mk (blk_below (g := gb1120) (o := .cells #[.int .i64 0, .int .i64 0, .int .i64 0, .int .i64 0, .int .i64 0, .int .i64 0, .int .i64 0] 58 (0, 0)) (by (with_reducible repeat (first | refine blk_drewN ?_ _ | refine blk_drew ?_ | refine blk_alloc ?_ _)); exact BK1120.out) hb)
   have n1_ := Aside0.mk (below_step (by repeat (first | (with_reducible first | exact HB.out | apply below_alloc | apply pw_below_drewN | apply below_drew1 | refine below_set ?_ GE1120.out) | exact HB.out)) hb)
   clear BK1120
   clear HB
   have BK1120 := n0_
   have HB := n1_
   clear n0_ n1_
   (try clear hb)
   (try clear hb2)
   (try clear hk)
   (try clear hi)
   refine hK.out _ _ ⟨((HB.out.cell (World.block_lt_of_cell? w _ hw1126_0)).trans hw1126_0), ((HB.out.cell (World.block_lt_of_cell? w _ hw1127_0)).trans hw1127_0)⟩ (fun hHeld => ?_)
   clear hK K
   refine norm_ (a' := ?_) ?_ ?_
   rotate_left
   ·show Act.put _ (some 4) _ = _
    simp only [Act.put, sA, sZ, sS, i64_w, i32_w]
    rfl
   refine pure_ (i := 8) (N := some 11) (v := ?_) (a' := ?_) #[true, true, true, true, true, true, true, true, true, false] rfl rfl (any_of HT_.out (by kernel_rfl)) (fun _ _ _ h => h) (Or.inl ⟨by rfl, ?_⟩) ?_ ?_
   rotate_left
   ·intro w'
    go_simp
    with_reducible rfl
   rotate_left
   ·simp only [Act.put, sA, sZ, sS, i64_w, i32_w]
    rfl
   refine one_ (i := 9) (N := none) #[true, true, true, true, true, true, true, true, true, true] rfl rfl (one_of HT_.out (by kernel_rfl)) (by decide) (fun K hK => ?_)
   have hs8 := cZ BK1120.out 0 (.int .i64 0) rfl
   have hfs8 := blk_frozen BK1120.out 0
   have hs9 := cZ BK1120.out 1 (.int .i64 0) rfl
   have hfs9 := blk_frozen BK1120.out 1
   have hs10 := cZ BK1120.out 2 (.int .i64 0) rfl
   have hfs10 := blk_frozen BK1120.out 2
   have hs11 := cZ BK1120.out 3 (.int .i64 0) rfl
   have hfs11 := blk_frozen BK1120.out 3
   have hs12 := cZ BK1120.out 4 (.int .i64 0) rfl
   have hfs12 := blk_frozen BK1120.out 4
   have hs13 := cZ BK1120.out 5 (.int .i64 0) rfl
   have hfs13 := blk_frozen BK1120.out 5
   have hs14 := cZ BK1120.out 6 (.int .i64 0) rfl
   have hfs14 := blk_frozen BK1120.out 6
   refine skip_ (w1 := ?_) (by rfl) rfl ?_ ?_
   rotate_left
   ·go_simp
    rfl
   refine hK.out _ _ ⟨((cell_far (p := ⟨gb1120, _, none⟩) (by first | exact Nat.ne_of_lt (Nat.lt_of_lt_of_le (by have := World.block_lt_of_cell? _ _ hw1126_0; first | rwa [add_block] at this | exact this) GW1120.out) | (rw [add_block]; exact Nat.ne_of_lt (Nat.lt_of_lt_of_le (by have := World.block_lt_of_cell? _ _ hw1126_0; first | rwa [add_block] at this | exact this) GW1120.out)) | (show (Addr.add _ _).block ≠ _; rw [add_block]; exact Nat.ne_of_lt (Nat.lt_of_lt_of_le (by have := World.block_lt_of_cell? _ _ hw1126_0; first | rwa [add_block] at this | exact this) GW1120.out)) | (dsimp only; exact Nat.ne_of_lt (Nat.lt_of_lt_of_le (by have := World.block_lt_of_cell? _ _ hw1126_0; first | rwa [add_block] at this | exact this) GW1120.out))) _).trans (((cell_far (p := ⟨gb1120, _, none⟩) (by first | exact Nat.ne_of_lt (Nat.lt_of_lt_of_le (by have := World.block_lt_of_cell? _ _ hw1126_0; first | rwa [add_block] at this | exact this) GW1120.out) | (rw [add_block]; exact Nat.ne_of_lt (Nat.lt_of_lt_of_le (by have := World.block_lt_of_cell? _ _ hw1126_0; first | rwa [add_block] at this | exact this) GW1120.out)) | (show (Addr.add _ _).block ≠ _; rw [add_block]; exact Nat.ne_of_lt (Nat.lt_of_lt_of_le (by have := World.block_lt_of_cell? _ _ hw1126_0; first | rwa [add_block] at this | exact this) GW1120.out)) | (dsimp only; exact Nat.ne_of_lt (Nat.lt_of_lt_of_le (by have := World.block_lt_of_cell? _ _ hw1126_0; first | rwa [add_block] at this | exact this) GW1120.out))) _).trans (((cell_far (p := ⟨gb1120, _, none⟩) (by first | exact Nat.ne_of_lt (Nat.lt_of_lt_of_le (by have := World.block_lt_of_cell? _ _ hw1126_0; first | rwa [add_block] at this | exact this) GW1120.out) | (rw [add_block]; exact Nat.ne_of_lt (Nat.lt_of_lt_of_le (by have := World.block_lt_of_cell? _ _ hw1126_0; first | rwa [add_block] at this | exact this) GW1120.out)) | (show (Addr.add _ _).block ≠ _; rw [add_block]; exact Nat.ne_of_lt (Nat.lt_of_lt_of_le (by have := World.block_lt_of_cell? _ _ hw1126_0; first | rwa [add_block] at this | exact this) GW1120.out)) | (dsimp only; exact Nat.ne_of_lt (Nat.lt_of_lt_of_le (by have := World.block_lt_of_cell? _ _ hw1126_0; first | rwa [add_block] at this | exact this) GW1120.out))) _).trans (((cell_far (p := ⟨gb1120, _, none⟩) (by first | exact Nat.ne_of_lt (Nat.lt_of_lt_of_le (by have := World.block_lt_of_cell? _ _ hw1126_0; first | rwa [add_block] at this | exact this) GW1120.out) | (rw [add_block]; exact Nat.ne_of_lt (Nat.lt_of_lt_of_le (by have := World.block_lt_of_cell? _ _ hw1126_0; first | rwa [add_block] at this | exact this) GW1120.out)) | (show (Addr.add _ _).block ≠ _; rw [add_block]; exact Nat.ne_of_lt (Nat.lt_of_lt_of_le (by have := World.block_lt_of_cell? _ _ hw1126_0; first | rwa [add_block] at this | exact this) GW1120.out)) | (dsimp only; exact Nat.ne_of_lt (Nat.lt_of_lt_of_le (by have := World.block_lt_of_cell? _ _ hw1126_0; first | rwa [add_block] at this | exact this) GW1120.out))) _).trans (((cell_far (p := ⟨gb1120, _, none⟩) (by first | exact Nat.ne_of_lt (Nat.lt_of_lt_of_le (by have := World.block_lt_of_cell? _ _ hw1126_0; first | rwa [add_block] at this | exact this) GW1120.out) | (rw [add_block]; exact Nat.ne_of_lt (Nat.lt_of_lt_of_le (by have := World.block_lt_of_cell? _ _ hw1126_0; first | rwa [add_block] at this | exact this) GW1120.out)) | (show (Addr.add _ _).block ≠ _; rw [add_block]; exact Nat.ne_of_lt (Nat.lt_of_lt_of_le (by have := World.block_lt_of_cell? _ _ hw1126_0; first | rwa [add_block] at this | exact this) GW1120.out)) | (dsimp only; exact Nat.ne_of_lt (Nat.lt_of_lt_of_le (by have := World.block_lt_of_cell? _ _ hw1126_0; first | rwa [add_block] at this | exact this) GW1120.out))) _).trans (((cell_far (p := ⟨gb1120, _, none⟩) (by first | exact Nat.ne_of_lt (Nat.lt_of_lt_of_le (by have := World.block_lt_of_cell? _ _ hw1126_0; first | rwa [add_block] at this | exact this) GW1120.out) | (rw [add_block]; exact Nat.ne_of_lt (Nat.lt_of_lt_of_le (by have := World.block_lt_of_cell? _ _ hw1126_0; first | rwa [add_block] at this | exact this) GW1120.out)) | (show (Addr.add _ _).block ≠ _; rw [add_block]; exact Nat.ne_of_lt (Nat.lt_of_lt_of_le (by have := World.block_lt_of_cell? _ _ hw1126_0; first | rwa [add_block] at this | exact this) GW1120.out)) | (dsimp only; exact Nat.ne_of_lt (Nat.lt_of_lt_of_le (by have := World.block_lt_of_cell? _ _ hw1126_0; first | rwa [add_block] at this | exact this) GW1120.out))) _).trans (((cell_far (p := ⟨gb1120, _, none⟩) (by first | exact Nat.ne_of_lt (Nat.lt_of_lt_of_le (by have := World.block_lt_of_cell? _ _ hw1126_0; first | rwa [add_block] at this | exact this) GW1120.out) | (rw [add_block]; exact Nat.ne_of_lt (Nat.lt_of_lt_of_le (by have := World.block_lt_of_cell? _ _ hw1126_0; first | rwa [add_block] at this | exact this) GW1120.out)) | (show (Addr.add _ _).block ≠ _; rw [add_block]; exact Nat.ne_of_lt (Nat.lt_of_lt_of_le (by have := World.block_lt_of_cell? _ _ hw1126_0; first | rwa [add_block] at this | exact this) GW1120.out)) | (dsimp only; exact Nat.ne_of_lt (Nat.lt_of_lt_of_le (by have := World.block_lt_of_cell? _ _ hw1126_0; first | rwa [add_block] at this | exact this) GW1120.out))) _).trans (hHeld.1)))))))))))))), ((cell_far (p := ⟨gb1120, _, none⟩) (by first | exact Nat.ne_of_lt (Nat.lt_of_lt_of_le (by have := World.block_lt_of_cell? _ _ hw1127_0; first | rwa [add_block] at this | exact this) GW1120.out) | (rw [add_block]; exact Nat.ne_of_lt (Nat.lt_of_lt_of_le (by have := World.block_lt_of_cell? _ _ hw1127_0; first | rwa [add_block] at this | exact this) GW1120.out)) | (show (Addr.add _ _).block ≠ _; rw [add_block]; exact Nat.ne_of_lt (Nat.lt_of_lt_of_le (by have := World.block_lt_of_cell? _ _ hw1127_0; first | rwa [add_block] at this | exact this) GW1120.out)) | (dsimp only; exact Nat.ne_of_lt (Nat.lt_of_lt_of_le (by have := World.block_lt_of_cell? _ _ hw1127_0; first | rwa [add_block] at this | exact this) GW1120.out))) _).trans (((cell_far (p := ⟨gb1120, _, none⟩) (by first | exact Nat.ne_of_lt (Nat.lt_of_lt_of_le (by have := World.block_lt_of_cell? _ _ hw1127_0; first | rwa [add_block] at this | exact this) GW1120.out) | (rw [add_block]; exact Nat.ne_of_lt (Nat.lt_of_lt_of_le (by have := World.block_lt_of_cell? _ _ hw1127_0; first | rwa [add_block] at this | exact this) GW1120.out)) | (show (Addr.add _ _).block ≠ _; rw [add_block]; exact Nat.ne_of_lt (Nat.lt_of_lt_of_le (by have := World.block_lt_of_cell? _ _ hw1127_0; first | rwa [add_block] at this | exact this) GW1120.out)) | (dsimp only; exact Nat.ne_of_lt (Nat.lt_of_lt_of_le (by have := World.block_lt_of_cell? _ _ hw1127_0; first | rwa [add_block] at this | exact this) GW1120.out))) _).trans (((cell_far (p := ⟨gb1120, _, none⟩) (by first | exact Nat.ne_of_lt (Nat.lt_of_lt_of_le (by have := World.block_lt_of_cell? _ _ hw1127_0; first | rwa [add_block] at this | exact this) GW1120.out) | (rw [add_block]; exact Nat.ne_of_lt (Nat.lt_of_lt_of_le (by have := World.block_lt_of_cell? _ _ hw1127_0; first | rwa [add_block] at this | exact this) GW1120.out)) | (show (Addr.add _ _).block ≠ _; rw [add_block]; exact Nat.ne_of_lt (Nat.lt_of_lt_of_le (by have := World.block_lt_of_cell? _ _ hw1127_0; first | rwa [add_block] at this | exact this) GW1120.out)) | (dsimp only; exact Nat.ne_of_lt (Nat.lt_of_lt_of_le (by have := World.block_lt_of_cell? _ _ hw1127_0; first | rwa [add_block] at this | exact this) GW1120.out))) _).trans (((cell_far (p := ⟨gb1120, _, none⟩) (by first | exact Nat.ne_of_lt (Nat.lt_of_lt_of_le (by have := World.block_lt_of_cell? _ _ hw1127_0; first | rwa [add_block] at this | exact this) GW1120.out) | (rw [add_block]; exact Nat.ne_of_lt (Nat.lt_of_lt_of_le (by have := World.block_lt_of_cell? _ _ hw1127_0; first | rwa [add_block] at this | exact this) GW1120.out)) | (show (Addr.add _ _).block ≠ _; rw [add_block]; exact Nat.ne_of_lt (Nat.lt_of_lt_of_le (by have := World.block_lt_of_cell? _ _ hw1127_0; first | rwa [add_block] at this | exact this) GW1120.out)) | (dsimp only; exact Nat.ne_of_lt (Nat.lt_of_lt_of_le (by have := World.block_lt_of_cell? _ _ hw1127_0; first | rwa [add_block] at this | exact this) GW1120.out))) _).trans (((cell_far (p := ⟨gb1120, _, none⟩) (by first | exact Nat.ne_of_lt (Nat.lt_of_lt_of_le (by have := World.block_lt_of_cell? _ _ hw1127_0; first | rwa [add_block] at this | exact this) GW1120.out) | (rw [add_block]; exact Nat.ne_of_lt (Nat.lt_of_lt_of_le (by have := World.block_lt_of_cell? _ _ hw1127_0; first | rwa [add_block] at this | exact this) GW1120.out)) | (show (Addr.add _ _).block ≠ _; rw [add_block]; exact Nat.ne_of_lt (Nat.lt_of_lt_of_le (by have := World.block_lt_of_cell? _ _ hw1127_0; first | rwa [add_block] at this | exact this) GW1120.out)) | (dsimp only; exact Nat.ne_of_lt (Nat.lt_of_lt_of_le (by have := World.block_lt_of_cell? _ _ hw1127_0; first | rwa [add_block] at this | exact this) GW1120.out))) _).trans (((cell_far (p := ⟨gb1120, _, none⟩) (by first | exact Nat.ne_of_lt (Nat.lt_of_lt_of_le (by have := World.block_lt_of_cell? _ _ hw1127_0; first | rwa [add_block] at this | exact this) GW1120.out) | (rw [add_block]; exact Nat.ne_of_lt (Nat.lt_of_lt_of_le (by have := World.block_lt_of_cell? _ _ hw1127_0; first | rwa [add_block] at this | exact this) GW1120.out)) | (show (Addr.add _ _).block ≠ _; rw [add_block]; exact Nat.ne_of_lt (Nat.lt_of_lt_of_le (by have := World.block_lt_of_cell? _ _ hw1127_0; first | rwa [add_block] at this | exact this) GW1120.out)) | (dsimp only; exact Nat.ne_of_lt (Nat.lt_of_lt_of_le (by have := World.block_lt_of_cell? _ _ hw1127_0; first | rwa [add_block] at this | exact this) GW1120.out))) _).trans (((cell_far (p := ⟨gb1120, _, none⟩) (by first | exact Nat.ne_of_lt (Nat.lt_of_lt_of_le (by have := World.block_lt_of_cell? _ _ hw1127_0; first | rwa [add_block] at this | exact this) GW1120.out) | (rw [add_block]; exact Nat.ne_of_lt (Nat.lt_of_lt_of_le (by have := World.block_lt_of_cell? _ _ hw1127_0; first | rwa [add_block] at this | exact this) GW1120.out)) | (show (Addr.add _ _).block ≠ _; rw [add_block]; exact Nat.ne_of_lt (Nat.lt_of_lt_of_le (by have := World.block_lt_of_cell? _ _ hw1127_0; first | rwa [add_block] at this | exact this) GW1120.out)) | (dsimp only; exact Nat.ne_of_lt (Nat.lt_of_lt_of_le (by have := World.block_lt_of_cell? _ _ hw1127_0; first | rwa [add_block] at this | exact this) GW1120.out))) _).trans (hHeld.2))))))))))))))⟩ (fun hHeld => ?_)
   clear hK K
   refine done_ (done_of HT_.out (by kernel_rfl)) ?_
   try go_wp2
   refine bodyPost_ret (results_cell_row rfl _ _ gb1120 58 #[.int .i64 t1121, .int .i64 t1122, .int .i64 t1123, .int .i64 t1124, .int .i64 t1125, .int .i64 (rd l0 5), .int .i64 (rd l0 6)] (0, 0) _ rfl (by (with_reducible repeat (first | refine blk_drewN ?_ _ | refine blk_drew ?_ | refine blk_alloc ?_ _)); refine blk_put (cs := #[.int .i64 t1121, .int .i64 t1122, .int .i64 t1123, .int .i64 t1124, .int .i64 t1125, .int .i64 (rd l0 5), .int .i64 0]) ?_ 6 _ rfl; (with_reducible repeat (first | refine blk_drewN ?_ _ | refine blk_drew ?_ | refine blk_alloc ?_ _)); refine blk_put (cs := #[.int .i64 t1121, .int .i64 t1122, .int .i64 t1123, .int .i64 t1124, .int .i64 t1125, .int .i64 0, .int .i64 0]) ?_ 5 _ rfl; (with_reducible repeat (first | refine blk_drewN ?_ _ | refine blk_drew ?_ | refine blk_alloc ?_ _)); refine blk_put (cs := #[.int .i64 t1121, .int .i64 t1122, .int .i64 t1123, .int .i64 t1124, .int .i64 0, .int .i64 0, .int .i64 0]) ?_ 4 _ rfl; (with_reducible repeat (first | refine blk_drewN ?_ _ | refine blk_drew ?_ | refine blk_alloc ?_ _)); refine blk_put (cs := #[.int .i64 t1121, .int .i64 t1122, .int .i64 t1123, .int .i64 0, .int .i64 0, .int .i64 0, .int .i64 0]) ?_ 3 _ rfl; (with_reducible repeat (first | refine blk_drewN ?_ _ | refine blk_drew ?_ | refine blk_alloc ?_ _)); refine blk_put (cs := #[.int .i64 t1121, .int .i64 t1122, .int .i64 0, .int .i64 0, .int .i64 0, .int .i64 0, .int .i64 0]) ?_ 2 _ rfl; (with_reducible repeat (first | refine blk_drewN ?_ _ | refine blk_drew ?_ | refine blk_alloc ?_ _)); refine blk_put (cs := #[.int .i64 t1121, .int .i64 0, .int .i64 0, .int .i64 0, .int .i64 0, .int .i64 0, .int .i64 0]) ?_ 1 _ rfl; (with_reducible repeat (first | refine blk_drewN ?_ _ | refine blk_drew ?_ | refine blk_alloc ?_ _)); refine blk_put (cs := #[.int .i64 0, .int .i64 0, .int .i64 0, .int .i64 0, .int .i64 0, .int .i64 0, .int .i64 0]) ?_ 0 _ rfl; (with_reducible repeat (first | refine blk_drewN ?_ _ | refine blk_drew ?_ | refine blk_alloc ?_ _)); exact BK1120.out) Tryz.underlying58 rfl (by kernel_rfl)) rfl ?_
   exact ⟨by first | rfl | (simp [errW_none, errW_some] <;> rfl) | (simp [*, errW_none, errW_some] <;> rfl), by repeat (first | (with_reducible first | exact HB.out | apply below_alloc | apply pw_below_drewN | apply below_drew1 | refine below_set ?_ GE1120.out) | exact HB.out)⟩
  ·rw [if_neg c4] at H
   exact absurd H (by simp)
 ·rw [if_neg c3] at H
  exact absurd H (by simp)
def tspec_within.f (a0 : Int) (a1 : Int) (a2 : Int) : Option (Bool) := if a0 ≥ a1 then (some (decide (a0 ≤ a2))) else (some false)
set_option maxHeartbeats 8000000 in
set_option maxRecDepth 100000 in
theorem tspec_within.calls (a0 : Int) (a1 : Int) (a2 : Int) (r : Bool) (w : World) (h : tspec_within.f a0 a1 a2 = some r) :
  Calls Tryz.prog 257 #[.int .i64 a0, .int .i64 a1, .int .i64 a2] w fun e w' => e = .returned (.bool r) ∧ Drawn0 w w' := by
 have H : (if a0 ≥ a1 then (some (decide (a0 ≤ a2))) else (some false)) = some r := h
 clear h
 by_cases c4 : a0 ≥ a1
 ·rw [if_pos c4] at H
  have c4b0 : decide (a1 ≤ a0) = true := decide_eq_true c4
  clear c4
  obtain rfl := Option.some.inj H
  go_enter Tryz.func257, Tryz.ntmps257
  go_wp2
  go_ret
  exact ⟨by first | rfl | (simp; done) | (simp [*]; done), by repeat (first | exact Drawn0.refl _ | apply Drawn0.step)⟩
 ·rw [if_neg c4] at H
  have c4b0 : decide (a1 ≤ a0) = false := decide_eq_false c4
  clear c4
  obtain rfl := Option.some.inj H
  go_enter Tryz.func257, Tryz.ntmps257
  go_wp2
  go_ret
  exact ⟨by first | rfl | (simp; done) | (simp [*]; done), by repeat (first | exact Drawn0.refl _ | apply Drawn0.step)⟩
def tspec_flaws_1.f (a0_0 : Int) (a0_1 : Int) (a0_2 : Int) (a0_3 : Int) (a0_4 : Int) : Option (Bool) := (tspec_within.f a0_1 1 1000000).bind fun t1170 => (if t1170 = true then ((tspec_within.f a0_0 a0_1 1000000).bind fun t1171 => (some (!t1171))) else (some true))
set_option maxHeartbeats 8000000 in
set_option maxRecDepth 100000 in
theorem tspec_flaws_1.calls (a0_0 : Int) (a0_1 : Int) (a0_2 : Int) (a0_3 : Int) (a0_4 : Int) (r : Bool) (w : World) (h : tspec_flaws_1.f a0_0 a0_1 a0_2 a0_3 a0_4 = some r) :
  Calls Tryz.prog 256 #[.agg #[.int .i64 a0_0, .int .i64 a0_1, .int .i64 a0_2, .int .i64 a0_3, .int .i64 a0_4]] w fun e w' => e = .returned (.bool r) ∧ Below w.heap.size w w' := by
 have hu56 := Tryz.underlying56
 have HB := Aside0.mk (Below.refl w.heap.size w)
 have H : ((tspec_within.f a0_1 1 1000000).bind fun t1170 => (if t1170 = true then ((tspec_within.f a0_0 a0_1 1000000).bind fun t1171 => (some (!t1171))) else (some true))) = some r := h
 clear h
 replace H := Option.bind_eq_some_iff.mp H
 obtain ⟨t1170, A20, H⟩ := H
 replace H : (if t1170 = true then ((tspec_within.f a0_0 a0_1 1000000).bind fun t1171 => (some (!t1171))) else (some true)) = some r := H
 have A2 := Aside0.mk A20
 clear A20
 by_cases c3 : t1170 = true
 ·subst c3
  have H1 : ((tspec_within.f a0_0 a0_1 1000000).bind fun t1171 => (some (!t1171))) = some r := by rw [if_pos rfl] at H; exact H
  clear H
  have H := H1
  clear H1
  replace H := Option.bind_eq_some_iff.mp H
  obtain ⟨t1171, A40, H⟩ := H
  replace H : (some (!t1171)) = some r := H
  have A4 := Aside0.mk A40
  clear A40
  obtain rfl := Option.some.inj H
  go_enter Tryz.func256, Tryz.ntmps256
  go_wp2_with (first | ((with_reducible refine gate_dst (N := 1) rfl ?_); refine box_event ?hg (N := 1) ?hd (cs := #[.int .i64 a0_0, .int .i64 a0_1, .int .i64 a0_2, .int .i64 a0_3, .int .i64 a0_4]) (t := 56) ?hr ?_; (case hd => rfl); (case hg => rfl); (case hr => first | (go_simp; done) | (go_simp; rfl)); intro gb1169 hg w5 hbox hb; have n0_ := Aside0.mk (below_step (by repeat (first | (with_reducible first | exact HB.out | apply below_alloc | apply pw_below_drewN | apply below_drew1) | exact HB.out)) hb); have n1_ := Aside0.mk (hbox); have n2_ := Aside0.mk ((by rw [hg]; exact (below_size (by repeat (first | (with_reducible first | exact HB.out | apply below_alloc | apply pw_below_drewN | apply below_drew1) | exact HB.out))) : w.heap.size ≤ gb1169)); have n3_ := Aside0.mk ((by rw [hg]; exact (below_size (by repeat (first | (with_reducible first | exact HB.out | apply below_alloc | apply pw_below_drewN | apply below_drew1) | exact HB.out))) : w.heap.size ≤ gb1169)); clear HB; have HB := n0_; have BK1169 := n1_; have GW1169 := n2_; have GE1169 := n3_; clear n0_ n1_ n2_ n3_; clear hb hbox hg; have hcz6_0 := cZ BK1169.out 0 (.int .i64 a0_0) rfl; have hcz6_1 := cZ BK1169.out 1 (.int .i64 a0_1) rfl; have hcz6_2 := cZ BK1169.out 2 (.int .i64 a0_2) rfl; have hcz6_3 := cZ BK1169.out 3 (.int .i64 a0_3) rfl; have hcz6_4 := cZ BK1169.out 4 (.int .i64 a0_4) rfl; have hfz6_0 := blk_frozen BK1169.out 0; have hfz6_1 := blk_frozen BK1169.out 1; have hfz6_2 := blk_frozen BK1169.out 2; have hfz6_3 := blk_frozen BK1169.out 3; have hfz6_4 := blk_frozen BK1169.out 4) | ((with_reducible refine gate_callee (f := 257) rfl ?_); refine goesL_ (some 5) rfl rfl Tryz.func257 (by kernel_rfl) rfl #[.int .i64 a0_1, .int .i64 1, .int .i64 1000000] rfl (by (try simp only [mT, mC, mN]); first | done | rfl | (simp only [List.length_drop, List.length_take]; rfl)) ?_; (with_reducible refine (tspec_within.calls a0_1 1 1000000 true _ A2.out).mono ?_); rintro e w' ⟨rfl, ⟨nd, rfl⟩⟩; refine ⟨_, rfl, ?_⟩) | (go_at_call 257; (with_reducible refine (tspec_within.calls a0_0 a0_1 1000000 t1171 _ A4.out).mono ?_); rintro e w' ⟨rfl, ⟨nd, rfl⟩⟩))
  go_ret
  exact ⟨by first | rfl | (simp [errW_none, errW_some] <;> rfl) | (simp [*, errW_none, errW_some] <;> rfl), by repeat (first | (with_reducible first | exact HB.out | apply below_alloc | apply pw_below_drewN | apply below_drew1 | refine below_set ?_ GE1169.out) | exact HB.out)⟩
 ·replace c3 := Bool.eq_false_iff.mpr c3
  subst c3
  have H1 : (some true) = some r := by rw [if_neg (show ¬ (false = true) by decide)] at H; exact H
  clear H
  have H := H1
  clear H1
  obtain rfl := Option.some.inj H
  go_enter Tryz.func256, Tryz.ntmps256
  go_wp2_with (first | ((with_reducible refine gate_dst (N := 1) rfl ?_); refine box_event ?hg (N := 1) ?hd (cs := #[.int .i64 a0_0, .int .i64 a0_1, .int .i64 a0_2, .int .i64 a0_3, .int .i64 a0_4]) (t := 56) ?hr ?_; (case hd => rfl); (case hg => rfl); (case hr => first | (go_simp; done) | (go_simp; rfl)); intro gb1169 hg w7 hbox hb; have n0_ := Aside0.mk (below_step (by repeat (first | (with_reducible first | exact HB.out | apply below_alloc | apply pw_below_drewN | apply below_drew1) | exact HB.out)) hb); have n1_ := Aside0.mk (hbox); have n2_ := Aside0.mk ((by rw [hg]; exact (below_size (by repeat (first | (with_reducible first | exact HB.out | apply below_alloc | apply pw_below_drewN | apply below_drew1) | exact HB.out))) : w.heap.size ≤ gb1169)); have n3_ := Aside0.mk ((by rw [hg]; exact (below_size (by repeat (first | (with_reducible first | exact HB.out | apply below_alloc | apply pw_below_drewN | apply below_drew1) | exact HB.out))) : w.heap.size ≤ gb1169)); clear HB; have HB := n0_; have BK1169 := n1_; have GW1169 := n2_; have GE1169 := n3_; clear n0_ n1_ n2_ n3_; clear hb hbox hg; have hcz8_0 := cZ BK1169.out 0 (.int .i64 a0_0) rfl; have hcz8_1 := cZ BK1169.out 1 (.int .i64 a0_1) rfl; have hcz8_2 := cZ BK1169.out 2 (.int .i64 a0_2) rfl; have hcz8_3 := cZ BK1169.out 3 (.int .i64 a0_3) rfl; have hcz8_4 := cZ BK1169.out 4 (.int .i64 a0_4) rfl; have hfz8_0 := blk_frozen BK1169.out 0; have hfz8_1 := blk_frozen BK1169.out 1; have hfz8_2 := blk_frozen BK1169.out 2; have hfz8_3 := blk_frozen BK1169.out 3; have hfz8_4 := blk_frozen BK1169.out 4) | ((with_reducible refine gate_callee (f := 257) rfl ?_); refine goesL_ (some 5) rfl rfl Tryz.func257 (by kernel_rfl) rfl #[.int .i64 a0_1, .int .i64 1, .int .i64 1000000] rfl (by (try simp only [mT, mC, mN]); first | done | rfl | (simp only [List.length_drop, List.length_take]; rfl)) ?_; (with_reducible refine (tspec_within.calls a0_1 1 1000000 false _ A2.out).mono ?_); rintro e w' ⟨rfl, ⟨nd, rfl⟩⟩; refine ⟨_, rfl, ?_⟩))
  go_ret
  exact ⟨by first | rfl | (simp [errW_none, errW_some] <;> rfl) | (simp [*, errW_none, errW_some] <;> rfl), by repeat (first | (with_reducible first | exact HB.out | apply below_alloc | apply pw_below_drewN | apply below_drew1 | refine below_set ?_ GE1169.out) | exact HB.out)⟩
def tspec_flaws_2.f (a0_0 : Int) (a0_1 : Int) (a0_2 : Int) (a0_3 : Int) (a0_4 : Int) : Option (Bool) := (tspec_within.f a0_3 1 2000).bind fun t1173 => (if t1173 = true then ((tspec_within.f a0_4 1 a0_3).bind fun t1174 => (some (!t1174))) else (some true))
set_option maxHeartbeats 8000000 in
set_option maxRecDepth 100000 in
theorem tspec_flaws_2.calls (a0_0 : Int) (a0_1 : Int) (a0_2 : Int) (a0_3 : Int) (a0_4 : Int) (r : Bool) (w : World) (h : tspec_flaws_2.f a0_0 a0_1 a0_2 a0_3 a0_4 = some r) :
  Calls Tryz.prog 258 #[.agg #[.int .i64 a0_0, .int .i64 a0_1, .int .i64 a0_2, .int .i64 a0_3, .int .i64 a0_4]] w fun e w' => e = .returned (.bool r) ∧ Below w.heap.size w w' := by
 have hu56 := Tryz.underlying56
 have HB := Aside0.mk (Below.refl w.heap.size w)
 have H : ((tspec_within.f a0_3 1 2000).bind fun t1173 => (if t1173 = true then ((tspec_within.f a0_4 1 a0_3).bind fun t1174 => (some (!t1174))) else (some true))) = some r := h
 clear h
 replace H := Option.bind_eq_some_iff.mp H
 obtain ⟨t1173, A20, H⟩ := H
 replace H : (if t1173 = true then ((tspec_within.f a0_4 1 a0_3).bind fun t1174 => (some (!t1174))) else (some true)) = some r := H
 have A2 := Aside0.mk A20
 clear A20
 by_cases c3 : t1173 = true
 ·subst c3
  have H1 : ((tspec_within.f a0_4 1 a0_3).bind fun t1174 => (some (!t1174))) = some r := by rw [if_pos rfl] at H; exact H
  clear H
  have H := H1
  clear H1
  replace H := Option.bind_eq_some_iff.mp H
  obtain ⟨t1174, A40, H⟩ := H
  replace H : (some (!t1174)) = some r := H
  have A4 := Aside0.mk A40
  clear A40
  obtain rfl := Option.some.inj H
  go_enter Tryz.func258, Tryz.ntmps258
  go_wp2_with (first | ((with_reducible refine gate_dst (N := 1) rfl ?_); refine box_event ?hg (N := 1) ?hd (cs := #[.int .i64 a0_0, .int .i64 a0_1, .int .i64 a0_2, .int .i64 a0_3, .int .i64 a0_4]) (t := 56) ?hr ?_; (case hd => rfl); (case hg => rfl); (case hr => first | (go_simp; done) | (go_simp; rfl)); intro gb1172 hg w5 hbox hb; have n0_ := Aside0.mk (below_step (by repeat (first | (with_reducible first | exact HB.out | apply below_alloc | apply pw_below_drewN | apply below_drew1) | exact HB.out)) hb); have n1_ := Aside0.mk (hbox); have n2_ := Aside0.mk ((by rw [hg]; exact (below_size (by repeat (first | (with_reducible first | exact HB.out | apply below_alloc | apply pw_below_drewN | apply below_drew1) | exact HB.out))) : w.heap.size ≤ gb1172)); have n3_ := Aside0.mk ((by rw [hg]; exact (below_size (by repeat (first | (with_reducible first | exact HB.out | apply below_alloc | apply pw_below_drewN | apply below_drew1) | exact HB.out))) : w.heap.size ≤ gb1172)); clear HB; have HB := n0_; have BK1172 := n1_; have GW1172 := n2_; have GE1172 := n3_; clear n0_ n1_ n2_ n3_; clear hb hbox hg; have hcz6_0 := cZ BK1172.out 0 (.int .i64 a0_0) rfl; have hcz6_1 := cZ BK1172.out 1 (.int .i64 a0_1) rfl; have hcz6_2 := cZ BK1172.out 2 (.int .i64 a0_2) rfl; have hcz6_3 := cZ BK1172.out 3 (.int .i64 a0_3) rfl; have hcz6_4 := cZ BK1172.out 4 (.int .i64 a0_4) rfl; have hfz6_0 := blk_frozen BK1172.out 0; have hfz6_1 := blk_frozen BK1172.out 1; have hfz6_2 := blk_frozen BK1172.out 2; have hfz6_3 := blk_frozen BK1172.out 3; have hfz6_4 := blk_frozen BK1172.out 4) | ((with_reducible refine gate_callee (f := 257) rfl ?_); refine goesL_ (some 5) rfl rfl Tryz.func257 (by kernel_rfl) rfl #[.int .i64 a0_3, .int .i64 1, .int .i64 2000] rfl (by (try simp only [mT, mC, mN]); first | done | rfl | (simp only [List.length_drop, List.length_take]; rfl)) ?_; (with_reducible refine (tspec_within.calls a0_3 1 2000 true _ A2.out).mono ?_); rintro e w' ⟨rfl, ⟨nd, rfl⟩⟩; refine ⟨_, rfl, ?_⟩) | (go_at_call 257; (with_reducible refine (tspec_within.calls a0_4 1 a0_3 t1174 _ A4.out).mono ?_); rintro e w' ⟨rfl, ⟨nd, rfl⟩⟩))
  go_ret
  exact ⟨by first | rfl | (simp [errW_none, errW_some] <;> rfl) | (simp [*, errW_none, errW_some] <;> rfl), by repeat (first | (with_reducible first | exact HB.out | apply below_alloc | apply pw_below_drewN | apply below_drew1 | refine below_set ?_ GE1172.out) | exact HB.out)⟩
 ·replace c3 := Bool.eq_false_iff.mpr c3
  subst c3
  have H1 : (some true) = some r := by rw [if_neg (show ¬ (false = true) by decide)] at H; exact H
  clear H
  have H := H1
  clear H1
  obtain rfl := Option.some.inj H
  go_enter Tryz.func258, Tryz.ntmps258
  go_wp2_with (first | ((with_reducible refine gate_dst (N := 1) rfl ?_); refine box_event ?hg (N := 1) ?hd (cs := #[.int .i64 a0_0, .int .i64 a0_1, .int .i64 a0_2, .int .i64 a0_3, .int .i64 a0_4]) (t := 56) ?hr ?_; (case hd => rfl); (case hg => rfl); (case hr => first | (go_simp; done) | (go_simp; rfl)); intro gb1172 hg w7 hbox hb; have n0_ := Aside0.mk (below_step (by repeat (first | (with_reducible first | exact HB.out | apply below_alloc | apply pw_below_drewN | apply below_drew1) | exact HB.out)) hb); have n1_ := Aside0.mk (hbox); have n2_ := Aside0.mk ((by rw [hg]; exact (below_size (by repeat (first | (with_reducible first | exact HB.out | apply below_alloc | apply pw_below_drewN | apply below_drew1) | exact HB.out))) : w.heap.size ≤ gb1172)); have n3_ := Aside0.mk ((by rw [hg]; exact (below_size (by repeat (first | (with_reducible first | exact HB.out | apply below_alloc | apply pw_below_drewN | apply below_drew1) | exact HB.out))) : w.heap.size ≤ gb1172)); clear HB; have HB := n0_; have BK1172 := n1_; have GW1172 := n2_; have GE1172 := n3_; clear n0_ n1_ n2_ n3_; clear hb hbox hg; have hcz8_0 := cZ BK1172.out 0 (.int .i64 a0_0) rfl; have hcz8_1 := cZ BK1172.out 1 (.int .i64 a0_1) rfl; have hcz8_2 := cZ BK1172.out 2 (.int .i64 a0_2) rfl; have hcz8_3 := cZ BK1172.out 3 (.int .i64 a0_3) rfl; have hcz8_4 := cZ BK1172.out 4 (.int .i64 a0_4) rfl; have hfz8_0 := blk_frozen BK1172.out 0; have hfz8_1 := blk_frozen BK1172.out 1; have hfz8_2 := blk_frozen BK1172.out 2; have hfz8_3 := blk_frozen BK1172.out 3; have hfz8_4 := blk_frozen BK1172.out 4) | ((with_reducible refine gate_callee (f := 257) rfl ?_); refine goesL_ (some 5) rfl rfl Tryz.func257 (by kernel_rfl) rfl #[.int .i64 a0_3, .int .i64 1, .int .i64 2000] rfl (by (try simp only [mT, mC, mN]); first | done | rfl | (simp only [List.length_drop, List.length_take]; rfl)) ?_; (with_reducible refine (tspec_within.calls a0_3 1 2000 false _ A2.out).mono ?_); rintro e w' ⟨rfl, ⟨nd, rfl⟩⟩; refine ⟨_, rfl, ?_⟩))
  go_ret
  exact ⟨by first | rfl | (simp [errW_none, errW_some] <;> rfl) | (simp [*, errW_none, errW_some] <;> rfl), by repeat (first | (with_reducible first | exact HB.out | apply below_alloc | apply pw_below_drewN | apply below_drew1 | refine below_set ?_ GE1172.out) | exact HB.out)⟩
def tspec_flaws_3.f (a0_0 : Int) (a0_1 : Int) (a0_2 : Int) (a0_3 : Int) (a0_4 : Int) : Option (Bool) := (tspec_within.f a0_2 a0_3 10000000).bind fun t1176 => (some (!t1176))
set_option maxHeartbeats 8000000 in
set_option maxRecDepth 100000 in
theorem tspec_flaws_3.calls (a0_0 : Int) (a0_1 : Int) (a0_2 : Int) (a0_3 : Int) (a0_4 : Int) (r : Bool) (w : World) (h : tspec_flaws_3.f a0_0 a0_1 a0_2 a0_3 a0_4 = some r) :
  Calls Tryz.prog 259 #[.agg #[.int .i64 a0_0, .int .i64 a0_1, .int .i64 a0_2, .int .i64 a0_3, .int .i64 a0_4]] w fun e w' => e = .returned (.bool r) ∧ Below w.heap.size w w' := by
 have hu56 := Tryz.underlying56
 have HB := Aside0.mk (Below.refl w.heap.size w)
 have H : ((tspec_within.f a0_2 a0_3 10000000).bind fun t1176 => (some (!t1176))) = some r := h
 clear h
 replace H := Option.bind_eq_some_iff.mp H
 obtain ⟨t1176, A20, H⟩ := H
 replace H : (some (!t1176)) = some r := H
 have A2 := Aside0.mk A20
 clear A20
 obtain rfl := Option.some.inj H
 go_enter Tryz.func259, Tryz.ntmps259
 go_wp2_with (first | ((with_reducible refine gate_dst (N := 1) rfl ?_); refine box_event ?hg (N := 1) ?hd (cs := #[.int .i64 a0_0, .int .i64 a0_1, .int .i64 a0_2, .int .i64 a0_3, .int .i64 a0_4]) (t := 56) ?hr ?_; (case hd => rfl); (case hg => rfl); (case hr => first | (go_simp; done) | (go_simp; rfl)); intro gb1175 hg w3 hbox hb; have n0_ := Aside0.mk (below_step (by repeat (first | (with_reducible first | exact HB.out | apply below_alloc | apply pw_below_drewN | apply below_drew1) | exact HB.out)) hb); have n1_ := Aside0.mk (hbox); have n2_ := Aside0.mk ((by rw [hg]; exact (below_size (by repeat (first | (with_reducible first | exact HB.out | apply below_alloc | apply pw_below_drewN | apply below_drew1) | exact HB.out))) : w.heap.size ≤ gb1175)); have n3_ := Aside0.mk ((by rw [hg]; exact (below_size (by repeat (first | (with_reducible first | exact HB.out | apply below_alloc | apply pw_below_drewN | apply below_drew1) | exact HB.out))) : w.heap.size ≤ gb1175)); clear HB; have HB := n0_; have BK1175 := n1_; have GW1175 := n2_; have GE1175 := n3_; clear n0_ n1_ n2_ n3_; clear hb hbox hg; have hcz4_0 := cZ BK1175.out 0 (.int .i64 a0_0) rfl; have hcz4_1 := cZ BK1175.out 1 (.int .i64 a0_1) rfl; have hcz4_2 := cZ BK1175.out 2 (.int .i64 a0_2) rfl; have hcz4_3 := cZ BK1175.out 3 (.int .i64 a0_3) rfl; have hcz4_4 := cZ BK1175.out 4 (.int .i64 a0_4) rfl; have hfz4_0 := blk_frozen BK1175.out 0; have hfz4_1 := blk_frozen BK1175.out 1; have hfz4_2 := blk_frozen BK1175.out 2; have hfz4_3 := blk_frozen BK1175.out 3; have hfz4_4 := blk_frozen BK1175.out 4) | ((with_reducible refine gate_callee (f := 257) rfl ?_); refine goesL_ (some 7) rfl rfl Tryz.func257 (by kernel_rfl) rfl #[.int .i64 a0_2, .int .i64 a0_3, .int .i64 10000000] rfl (by (try simp only [mT, mC, mN]); first | done | rfl | (simp only [List.length_drop, List.length_take]; rfl)) ?_; (with_reducible refine (tspec_within.calls a0_2 a0_3 10000000 t1176 _ A2.out).mono ?_); rintro e w' ⟨rfl, ⟨nd, rfl⟩⟩; refine ⟨_, rfl, ?_⟩))
 go_ret
 exact ⟨by first | rfl | (simp [errW_none, errW_some] <;> rfl) | (simp [*, errW_none, errW_some] <;> rfl), by repeat (first | (with_reducible first | exact HB.out | apply below_alloc | apply pw_below_drewN | apply below_drew1 | refine below_set ?_ GE1175.out) | exact HB.out)⟩
end Go.Proofs.YtecghmlojllkdaaGreat.P

import Derived.Test.YtecghmlojllkdaaGreatTl17
import Derived.Test.YtecghmlojllkdaaGreatTl18
import Derived.Test.YtecghmlojllkdaaGreatTl24
import Derived.Test.YtecghmlojllkdaaGreatTl25
import Derived.Test.YtecghmlojllkdaaGreatTl6
import Derived.Test.YtecghmlojllkdaaGreatTl1
import Derived.Test.YtecghmlojllkdaaGreatTl5
namespace Go.Proofs.YtecghmlojllkdaaGreat.P
open Go.RowKit Go.Proofs.YtecghmlojllkdaaGreatW.PrintWords Go.Proofs.YtecghmlojllkdaaGreatW.PrintLast
set_option linter.unusedVariables false
set_option linter.unusedSimpArgs false
set_option maxRecDepth 100000
set_option maxHeartbeats 1600000 in
theorem ctorSpec (w : World) : Calls Tryz.prog 139 #[] w fun e w' => e = .returned (.agg #[.int .i64 12, .int .i64 2, .int .i64 5, .func (.func 132) #[] #[], .func (.func 134) #[] #[], .func (.func 195) #[] #[]]) ∧ Below w.heap.size w w' := by
 go_enter Tryz.func139, Tryz.ntmps139
 go_wp2
 exact bodyPost_ret (v := .agg #[.int .i64 12, .int .i64 2, .int .i64 5, .func (.func 132) #[] #[], .func (.func 134) #[] #[], .func (.func 195) #[] #[]]) (by simp [results, Tryz.results139, go_sem]) rfl ⟨rfl, (Below.refl _ _).alloc (Nat.le_refl _) _⟩
set_option maxHeartbeats 6400000 in
theorem aswSpec (c t : Int) (A0 : Option Addr) (n0 c0 : Nat) (y0 y1 y2 y3 y4 E : Int) (w : World)
  (hcall : ∀ W, Below w.heap.size w W → Calls Tryz.prog 140 #[.agg #[.int .i64 12, .int .i64 2, .int .i64 5, .func (.func 132) #[] #[], .func (.func 134) #[] #[], .func (.func 195) #[] #[]], .agg #[.int .i64 c, .int .i64 t, .slice A0 n0 c0]] W fun e w' => e = .returned (.tuple #[.agg #[.int .i64 y0, .int .i64 y1, .int .i64 y2, .int .i64 y3, .int .i64 y4], .int .i64 E]) ∧ Below W.heap.size W w') :
  Calls Tryz.prog 67 #[.agg #[.int .i64 c, .int .i64 t, .slice A0 n0 c0]] w fun e w' => e = .returned (.tuple #[.agg #[.int .i64 y0, .int .i64 y1, .int .i64 y2, .int .i64 y3, .int .i64 y4], .int .i64 E]) ∧ Below w.heap.size w w' := by
 have HC := Lib.hid hcall
 clear hcall
 have HB := Lib.hid (Below.refl w.heap.size w)
 go_enter Tryz.func67, Tryz.ntmps67
 go_wp2_with (first | ((with_reducible refine gate_dst (N := 1) rfl ?_); refine box_event ?hg (N := 1) ?hd (cs := #[.int .i64 c, .int .i64 t, .slice A0 n0 c0]) (t := 24) ?hr ?_; (case hd => rfl); (case hg => rfl); (case hr => first | (go_simp; done) | (go_simp; rfl)); intro gO hg w1 hbox hb; have GE_gO : w.heap.size ≤ gO := (by rw [hg]; exact below_size HB.out); replace HB := Lib.hid (below_step HB.out hb); have BK_gO := Lib.hid hbox; clear hb hbox hg) | ((with_reducible refine gate_dst (N := 2) rfl ?_); refine box_event ?hg (N := 2) ?hd (cs := #[.int .i64 0, .int .i64 0, .int .i64 0, .int .i64 0, .int .i64 0]) (t := 56) ?hr ?_; (case hd => rfl); (case hg => rfl); (case hr => first | (go_simp; done) | (go_simp; rfl)); intro gR hg w2 hbox hb; have GE_gR : w.heap.size ≤ gR := (by rw [hg]; exact below_size HB.out); replace HB := Lib.hid (below_step HB.out hb); replace BK_gO := bB BK_gO hb; have BK_gR := Lib.hid hbox; clear hb hbox hg))
 replace HB := Lib.hid (below_drew1 HB.out)
 replace BK_gO := bD BK_gO
 replace BK_gR := bD BK_gR
 refine start_ (n := 7) (S := fun w' => w'.cell? ⟨gO, 0, none⟩ = some (.int .i64 c) ∧ w'.cell? ⟨gO, 1, none⟩ = some (.int .i64 t) ∧ w'.cell? ⟨gO, 2, none⟩ = some (.slice A0 n0 c0)) (ds := [5]) #[false, false, false, false, false, false, false] (by kernel_rfl) rfl rfl ⟨((blk_cell BK_gO.out 0).trans rfl), ((blk_cell BK_gO.out 1).trans rfl), ((blk_cell BK_gO.out 2).trans rfl)⟩ (fun hHeld => ?_)
 generalize w2.drew = w3 at HB BK_gO BK_gR hHeld ⊢
 refine take_ (i := 1) (N := some 5) (v := ?_) (a' := ?_) #[false, true, false, false, false, false, false] rfl rfl (by kernel_rfl) (fun _ _ _ h => h) (Or.inl ⟨by rfl, ?_⟩) hHeld ?_ ?_
 rotate_left
 ·rintro w' ⟨s0, s1, s2⟩
  go_simp
  with_reducible rfl
 rotate_left
 ·simp only [Act.put, sA, sZ, sS, i64_w, i32_w]
  rfl
 refine one_ (i := 0) (N := some 4) #[true, true, false, false, false, false, false] rfl rfl (by kernel_rfl) (by decide) (fun K hK => ?_)
 refine goes_ Tryz.func139 (by kernel_rfl) rfl #[] (by rfl) rfl rfl (by first | rfl | (simp only [List.map_toArray, List.map_nil]; done) | (simp only [List.map_toArray, List.map_nil]; rfl)) ?_
 with_reducible refine (ctorSpec _).mono ?_
 rintro e w4 ⟨rfl, hb⟩
 refine ⟨_, rfl, ?_⟩
 replace HB := Lib.hid (below_step HB.out hb)
 replace BK_gO := bB BK_gO hb
 replace BK_gR := bB BK_gR hb
 clear hb
 refine hK.out _ _ ⟨((blk_cell BK_gO.out 0).trans rfl), ((blk_cell BK_gO.out 1).trans rfl), ((blk_cell BK_gO.out 2).trans rfl)⟩ (fun hHeld => ?_)
 clear hK K
 refine norm_ (a' := ?_) ?_ ?_
 rotate_left
 ·show Act.put _ (some 4) _ = _
  simp only [Act.put, sA, sZ, sS, i64_w, i32_w]
  rfl
 refine one_ (i := 2) (N := some 6) #[true, true, true, false, false, false, false] rfl rfl (by kernel_rfl) (by decide) (fun K hK => ?_)
 refine goes_ Tryz.func140 (by kernel_rfl) rfl #[.agg #[.int .i64 12, .int .i64 2, .int .i64 5, .func (.func 132) #[] #[], .func (.func 134) #[] #[], .func (.func 195) #[] #[]], .agg #[.int .i64 c, .int .i64 t, .slice A0 n0 c0]] (by rfl) rfl rfl (by simp only [mT, mC, mN]; rfl) ?_
 with_reducible refine (HC.out _ HB.out).mono ?_
 rintro e w5 ⟨rfl, hb⟩
 refine ⟨_, rfl, ?_⟩
 replace HB := Lib.hid (below_step HB.out hb)
 replace BK_gO := bB BK_gO hb
 replace BK_gR := bB BK_gR hb
 clear hb
 refine hK.out _ _ ⟨((blk_cell BK_gO.out 0).trans rfl), ((blk_cell BK_gO.out 1).trans rfl), ((blk_cell BK_gO.out 2).trans rfl)⟩ (fun hHeld => ?_)
 clear hK K
 refine norm_ (a' := ?_) ?_ ?_
 rotate_left
 ·show Act.put _ (some 6) _ = _
  simp only [Act.put, sA, sZ, sS, i64_w, i32_w]
  rfl
 refine pure_ (i := 3) (N := some 7) (v := ?_) (a' := ?_) #[true, true, true, true, false, false, false] rfl rfl (by kernel_rfl) (fun _ _ _ h => h) (Or.inl ⟨by rfl, ?_⟩) ?_ ?_
 rotate_left
 ·intro w'
  go_simp
  with_reducible rfl
 rotate_left
 ·simp only [Act.put, sA, sZ, sS, i64_w, i32_w]
  rfl
 refine pure_ (i := 4) (N := some 8) (v := ?_) (a' := ?_) #[true, true, true, true, true, false, false] rfl rfl (by kernel_rfl) (fun _ _ _ h => h) (Or.inl ⟨by rfl, ?_⟩) ?_ ?_
 rotate_left
 ·intro w'
  go_simp
  with_reducible rfl
 rotate_left
 ·simp only [Act.put, sA, sZ, sS, i64_w, i32_w]
  rfl
 refine last_ (i := 5) (N := none) #[true, true, true, true, true, true, false] rfl rfl (by kernel_rfl) (by decide) (fun K hK => ?_)
 have k_gR_0 := bC BK_gR 0 (.int .i64 0) rfl
 have k_gR_1 := bC BK_gR 1 (.int .i64 0) rfl
 have k_gR_2 := bC BK_gR 2 (.int .i64 0) rfl
 have k_gR_3 := bC BK_gR 3 (.int .i64 0) rfl
 have k_gR_4 := bC BK_gR 4 (.int .i64 0) rfl
 have f_gR_0 := bF BK_gR 0
 have f_gR_1 := bF BK_gR 1
 have f_gR_2 := bF BK_gR 2
 have f_gR_3 := bF BK_gR 3
 have f_gR_4 := bF BK_gR 4
 refine skip_ (w1 := ?_) (by rfl) rfl ?_ ?_
 rotate_left
 ·go_simp
  rfl
 refine hK.out _ _ ?_
 clear hK K
 refine pure_ (i := 6) (N := some 3) (v := ?_) (a' := ?_) #[true, true, true, true, true, true, true] rfl rfl (by kernel_rfl) (fun _ _ _ h => h) (Or.inl ⟨by rfl, ?_⟩) ?_ ?_
 rotate_left
 ·intro w'
  go_simp
  with_reducible rfl
 rotate_left
 ·simp only [Act.put, sA, sZ, sS, i64_w, i32_w]
  rfl
 refine done_ (by kernel_rfl) ?_
 go_wp2
 refine bodyPost_ret (results_ct rfl _ _ gR 56 #[.int .i64 y0, .int .i64 y1, .int .i64 y2, .int .i64 y3, .int .i64 y4] (0, 0) _ rfl (blk_put (cs' := #[.int .i64 y0, .int .i64 y1, .int .i64 y2, .int .i64 y3, .int .i64 y4]) (blk_put (cs' := #[.int .i64 y0, .int .i64 y1, .int .i64 y2, .int .i64 y3, .int .i64 0]) (blk_put (cs' := #[.int .i64 y0, .int .i64 y1, .int .i64 y2, .int .i64 0, .int .i64 0]) (blk_put (cs' := #[.int .i64 y0, .int .i64 y1, .int .i64 0, .int .i64 0, .int .i64 0]) (blk_put (cs' := #[.int .i64 y0, .int .i64 0, .int .i64 0, .int .i64 0, .int .i64 0]) (BK_gR.out) 0 _ rfl) 1 _ rfl) 2 _ rfl) 3 _ rfl) 4 _ rfl) Tryz.underlying56 rfl (by kernel_rfl)) rfl ?_
 exact ⟨rfl, below_set (below_set (below_set (below_set (below_set (HB.out) GE_gR) GE_gR) GE_gR) GE_gR) GE_gR⟩
set_option maxHeartbeats 6400000 in
theorem towSpec (x0 x1 x2 x3 x4 C T' E : Int) (l' : List Int) (w : World)
  (hcall : ∀ W, Below w.heap.size w W → Calls Tryz.prog 150 #[.agg #[.int .i64 12, .int .i64 2, .int .i64 5, .func (.func 132) #[] #[], .func (.func 134) #[] #[], .func (.func 195) #[] #[]], .agg #[.int .i64 x0, .int .i64 x1, .int .i64 x2, .int .i64 x3, .int .i64 x4]] W (ObjP C T' E l' W)) :
  Calls Tryz.prog 82 #[.agg #[.int .i64 x0, .int .i64 x1, .int .i64 x2, .int .i64 x3, .int .i64 x4]] w (ObjP C T' E l' w) := by
 have HC := Lib.hid hcall
 clear hcall
 have HB := Lib.hid (Below.refl w.heap.size w)
 go_enter Tryz.func82, Tryz.ntmps82
 go_wp2_with (first | ((with_reducible refine gate_dst (N := 1) rfl ?_); refine box_event ?hg (N := 1) ?hd (cs := #[.int .i64 x0, .int .i64 x1, .int .i64 x2, .int .i64 x3, .int .i64 x4]) (t := 56) ?hr ?_; (case hd => rfl); (case hg => rfl); (case hr => first | (go_simp; done) | (go_simp; rfl)); intro gX hg w1 hbox hb; have GE_gX : w.heap.size ≤ gX := (by rw [hg]; exact below_size HB.out); replace HB := Lib.hid (below_step HB.out hb); have BK_gX := Lib.hid hbox; clear hb hbox hg) | ((with_reducible refine gate_dst (N := 2) rfl ?_); refine box_event ?hg (N := 2) ?hd (cs := #[.int .i64 0, .int .i64 0, .slice none 0 0]) (t := 24) ?hr ?_; (case hd => rfl); (case hg => rfl); (case hr => first | (go_simp; done) | (go_simp; rfl)); intro gR hg w2 hbox hb; have GE_gR : w.heap.size ≤ gR := (by rw [hg]; exact below_size HB.out); replace HB := Lib.hid (below_step HB.out hb); replace BK_gX := bB BK_gX hb; have BK_gR := Lib.hid hbox; clear hb hbox hg))
 replace HB := Lib.hid (below_drew1 HB.out)
 replace BK_gX := bD BK_gX
 replace BK_gR := bD BK_gR
 refine start_ (n := 7) (S := fun w' => w'.cell? ⟨gX, 0, none⟩ = some (.int .i64 x0) ∧ w'.cell? ⟨gX, 1, none⟩ = some (.int .i64 x1) ∧ w'.cell? ⟨gX, 2, none⟩ = some (.int .i64 x2) ∧ w'.cell? ⟨gX, 3, none⟩ = some (.int .i64 x3) ∧ w'.cell? ⟨gX, 4, none⟩ = some (.int .i64 x4)) (ds := [5]) #[false, false, false, false, false, false, false] (by kernel_rfl) rfl rfl ⟨((blk_cell BK_gX.out 0).trans rfl), ((blk_cell BK_gX.out 1).trans rfl), ((blk_cell BK_gX.out 2).trans rfl), ((blk_cell BK_gX.out 3).trans rfl), ((blk_cell BK_gX.out 4).trans rfl)⟩ (fun hHeld => ?_)
 generalize w2.drew = w3 at HB BK_gX BK_gR hHeld ⊢
 refine take_ (i := 1) (N := some 5) (v := ?_) (a' := ?_) #[false, true, false, false, false, false, false] rfl rfl (by kernel_rfl) (fun _ _ _ h => h) (Or.inl ⟨by rfl, ?_⟩) hHeld ?_ ?_
 rotate_left
 ·rintro w' ⟨s0, s1, s2, s3, s4⟩
  go_simp
  with_reducible rfl
 rotate_left
 ·simp only [Act.put, sA, sZ, sS, i64_w, i32_w]
  rfl
 refine one_ (i := 0) (N := some 4) #[true, true, false, false, false, false, false] rfl rfl (by kernel_rfl) (by decide) (fun K hK => ?_)
 refine goes_ Tryz.func139 (by kernel_rfl) rfl #[] (by rfl) rfl rfl (by first | rfl | (simp only [List.map_toArray, List.map_nil]; done) | (simp only [List.map_toArray, List.map_nil]; rfl)) ?_
 with_reducible refine (ctorSpec _).mono ?_
 rintro e w4 ⟨rfl, hb⟩
 refine ⟨_, rfl, ?_⟩
 replace HB := Lib.hid (below_step HB.out hb)
 replace BK_gX := bB BK_gX hb
 replace BK_gR := bB BK_gR hb
 clear hb
 refine hK.out _ _ ⟨((blk_cell BK_gX.out 0).trans rfl), ((blk_cell BK_gX.out 1).trans rfl), ((blk_cell BK_gX.out 2).trans rfl), ((blk_cell BK_gX.out 3).trans rfl), ((blk_cell BK_gX.out 4).trans rfl)⟩ (fun hHeld => ?_)
 clear hK K
 refine norm_ (a' := ?_) ?_ ?_
 rotate_left
 ·show Act.put _ (some 4) _ = _
  simp only [Act.put, sA, sZ, sS, i64_w, i32_w]
  rfl
 refine one_ (i := 2) (N := some 6) #[true, true, true, false, false, false, false] rfl rfl (by kernel_rfl) (by decide) (fun K hK => ?_)
 have LT := (blk_lt BK_gR.out : gR < w4.heap.size)
 have LB := below_size HB.out
 refine goes_ Tryz.func150 (by kernel_rfl) rfl #[.agg #[.int .i64 12, .int .i64 2, .int .i64 5, .func (.func 132) #[] #[], .func (.func 134) #[] #[], .func (.func 195) #[] #[]], .agg #[.int .i64 x0, .int .i64 x1, .int .i64 x2, .int .i64 x3, .int .i64 x4]] (by rfl) rfl rfl (by simp only [mT, mC, mN]; rfl) ?_
 with_reducible refine (HC.out _ HB.out).mono ?_
 rintro e w5 ⟨v9, rfl, hr9, hb⟩
 refine ⟨_, rfl, ?_⟩
 replace HB := Lib.hid (below_step HB.out hb)
 replace BK_gX := bB BK_gX hb
 replace BK_gR := bB BK_gR hb
 clear hb
 obtain ⟨A9, c9, rfl, _, _⟩ := Kd.R_reads hr9
 have HQ := Lib.hid hr9
 clear hr9
 refine hK.out _ _ ⟨((blk_cell BK_gX.out 0).trans rfl), ((blk_cell BK_gX.out 1).trans rfl), ((blk_cell BK_gX.out 2).trans rfl), ((blk_cell BK_gX.out 3).trans rfl), ((blk_cell BK_gX.out 4).trans rfl)⟩ (fun hHeld => ?_)
 clear hK K
 refine norm_ (a' := ?_) ?_ ?_
 rotate_left
 ·show Act.put _ (some 6) _ = _
  simp only [Act.put, sA, sZ, sS, i64_w, i32_w]
  rfl
 refine pure_ (i := 3) (N := some 7) (v := ?_) (a' := ?_) #[true, true, true, true, false, false, false] rfl rfl (by kernel_rfl) (fun _ _ _ h => h) (Or.inl ⟨by rfl, ?_⟩) ?_ ?_
 rotate_left
 ·intro w'
  go_simp
  with_reducible rfl
 rotate_left
 ·simp only [Act.put, sA, sZ, sS, i64_w, i32_w]
  rfl
 refine pure_ (i := 4) (N := some 8) (v := ?_) (a' := ?_) #[true, true, true, true, true, false, false] rfl rfl (by kernel_rfl) (fun _ _ _ h => h) (Or.inl ⟨by rfl, ?_⟩) ?_ ?_
 rotate_left
 ·intro w'
  go_simp
  with_reducible rfl
 rotate_left
 ·simp only [Act.put, sA, sZ, sS, i64_w, i32_w]
  rfl
 refine last_ (i := 5) (N := none) #[true, true, true, true, true, true, false] rfl rfl (by kernel_rfl) (by decide) (fun K hK => ?_)
 have k_gR_0 := bC BK_gR 0 (.int .i64 0) rfl
 have k_gR_1 := bC BK_gR 1 (.int .i64 0) rfl
 have k_gR_2 := bC BK_gR 2 (.slice none 0 0) rfl
 have f_gR_0 := bF BK_gR 0
 have f_gR_1 := bF BK_gR 1
 have f_gR_2 := bF BK_gR 2
 refine skip_ (w1 := ?_) (by rfl) rfl ?_ ?_
 rotate_left
 ·go_simp
  rfl
 refine hK.out _ _ ?_
 clear hK K
 refine pure_ (i := 6) (N := some 3) (v := ?_) (a' := ?_) #[true, true, true, true, true, true, true] rfl rfl (by kernel_rfl) (fun _ _ _ h => h) (Or.inl ⟨by rfl, ?_⟩) ?_ ?_
 rotate_left
 ·intro w'
  go_simp
  with_reducible rfl
 rotate_left
 ·simp only [Act.put, sA, sZ, sS, i64_w, i32_w]
  rfl
 refine done_ (by kernel_rfl) ?_
 go_wp2
 refine bodyPost_ret (results_ct rfl _ _ gR 24 #[.int .i64 C, .int .i64 T', .slice A9 l'.length c9] (0, 0) _ rfl (blk_put (cs' := #[.int .i64 C, .int .i64 T', .slice A9 l'.length c9]) (blk_put (cs' := #[.int .i64 C, .int .i64 T', .slice none 0 0]) (blk_put (cs' := #[.int .i64 C, .int .i64 0, .slice none 0 0]) (BK_gR.out) 0 _ rfl) 1 _ rfl) 2 _ rfl) Tryz.underlying24 rfl (by kernel_rfl)) rfl ?_
 exact ⟨_, rfl, Kd.R_lower (R_old (p := ⟨gR, 2, none⟩) (R_old (p := ⟨gR, 1, none⟩) (R_old (p := ⟨gR, 0, none⟩) HQ.out LT _) LT _) LT _) LB, below_set (below_set (below_set HB.out GE_gR) GE_gR) GE_gR⟩
def object_Spec.f (a0_0 a0_1 a0_2 a0_3 a0_4 : Int) : Option (Int × Int × List Int × Int) := (object_specs_1.f a0_0 a0_1 a0_2 a0_3 a0_4).bind fun m => (object_spec.f a0_0 a0_1 a0_2 a0_3 a0_4).bind fun l' => some (if m then 12 else 0, if m then 2 else 0, if m then l' else [], if m then 0 else 2)
theorem object_Spec.calls (a0_0 a0_1 a0_2 a0_3 a0_4 r1 r2 : Int) (r3 : List Int) (r4 : Int) (w : World) (h : object_Spec.f a0_0 a0_1 a0_2 a0_3 a0_4 = some (r1, r2, r3, r4)) :
  Calls Tryz.prog 82 #[.agg #[.int .i64 a0_0, .int .i64 a0_1, .int .i64 a0_2, .int .i64 a0_3, .int .i64 a0_4]] w fun e w' => ∃ v, e = .returned (.tuple #[.agg #[.int .i64 r1, .int .i64 r2, v], .int .i64 r4]) ∧ Kd.R (Kd.int .i64) 2 w' w.heap.size (fun _ => True) v r3 ∧ Below w.heap.size w w' := by
 obtain ⟨m, hm, h⟩ := Option.bind_eq_some_iff.mp h
 obtain ⟨l', hw, h⟩ := Option.bind_eq_some_iff.mp h
 injection h with h
 simp only [Prod.mk.injEq] at h
 obtain ⟨rfl, rfl, rfl, rfl⟩ := h
 refine towSpec a0_0 a0_1 a0_2 a0_3 a0_4 _ _ _ _ w (fun W hW  => ?_)
 exact objectSpec_run 12 2 5  _ a0_0 a0_1 a0_2 a0_3 a0_4 _ W (fun W' hW' => (object_specs_1.calls a0_0 a0_1 a0_2 a0_3 a0_4 _ W' hm).mono (fun e w' h => ⟨h.1, toBelow h.2⟩)) (fun W' hW' => object_spec.calls a0_0 a0_1 a0_2 a0_3 a0_4 _ W' hw)
def object_AsSpec.f (a0_0 a0_1 : Int) (l0_2 : List Int) : Option (Int × Int × Int × Int × Int × Int) := if a0_0 = 12 ∧ a0_1 = 2 ∧ ((l0_2.length : Nat) : Int) = 5 then ((object_specOf.f l0_2).bind fun (x0, x1, x2, x3, x4) => (object_specs_1.f x0 x1 x2 x3 x4).bind fun m => (object_spec.f x0 x1 x2 x3 x4).bind fun l' => some (if m && decide (l' = l0_2) then x0 else 0, if m && decide (l' = l0_2) then x1 else 0, if m && decide (l' = l0_2) then x2 else 0, if m && decide (l' = l0_2) then x3 else 0, if m && decide (l' = l0_2) then x4 else 0, if m && decide (l' = l0_2) then 0 else 171)) else some (0, 0, 0, 0, 0, 171)
theorem object_AsSpec.calls (a0_0 a0_1 : Int) (A0_2 : Option Addr) (c0_2 : Nat) (l0_2 : List Int) (r1 r2 r3 r4 r5 r6 : Int) (w : World) (hr0_2 : Kd.C (Kd.int .i64) w A0_2 l0_2.length l0_2) (hc0_2 : l0_2.length ≤ c0_2) (h : object_AsSpec.f a0_0 a0_1 l0_2 = some (r1, r2, r3, r4, r5, r6)) :
  Calls Tryz.prog 67 #[.agg #[.int .i64 a0_0, .int .i64 a0_1, .slice A0_2 l0_2.length c0_2]] w fun e w' => e = .returned (.tuple #[.agg #[.int .i64 r1, .int .i64 r2, .int .i64 r3, .int .i64 r4, .int .i64 r5], .int .i64 r6]) ∧ Below w.heap.size w w' := by
 refine aswSpec a0_0 a0_1 A0_2 l0_2.length c0_2 _ _ _ _ _ _ w (fun W hW  => ?_)
 unfold object_AsSpec.f at h
 split at h
 ·rename_i hq
  obtain ⟨rfl, rfl, hlen⟩ := hq
  obtain ⟨⟨x0, x1, x2, x3, x4⟩, ht, h⟩ := Option.bind_eq_some_iff.mp h
  obtain ⟨m, hm, h⟩ := Option.bind_eq_some_iff.mp h
  obtain ⟨l', hw, h⟩ := Option.bind_eq_some_iff.mp h
  refine (asSpec_run 12 2 5 A0_2 c0_2 l0_2 l' x0 x1 x2 x3 x4 _ W (Kd.C_below hr0_2 hW) hc0_2 hlen (fun W' hW' => (object_specOf.calls A0_2 c0_2 l0_2 _ _ _ _ _ W' (Kd.C_below (Kd.C_below hr0_2 hW) hW') hc0_2 ht).mono (fun e w' h => ⟨h.1, toBelow h.2⟩)) (fun W' hW' => (object_specs_1.calls x0 x1 x2 x3 x4 _ W' hm).mono (fun e w' h => ⟨h.1, toBelow h.2⟩)) (fun W' hW' => object_spec.calls x0 x1 x2 x3 x4 _ W' hw)).mono ?_
  rintro e w' ⟨rfl, hb⟩
  injection h with h
  simp only [Prod.mk.injEq] at h
  obtain ⟨rfl, rfl, rfl, rfl, rfl, rfl⟩ := h
  refine ⟨?_, hb⟩
  cases (m && decide (l' = l0_2)) <;> rfl
 ·rename_i hq
  injection h with h
  simp only [Prod.mk.injEq] at h
  obtain ⟨rfl, rfl, rfl, rfl, rfl, rfl⟩ := h
  exact (asSpec_no 12 2 5 a0_0 a0_1 A0_2 c0_2 l0_2 W (by by_cases e1 : a0_0 = 12 <;> by_cases e2 : a0_1 = 2 <;> simp_all)).mono (fun e w' h => ⟨h.1, h.2⟩)
def object_terms_1.f (a0_0 : Int) (a0_1 : Int) : Option (List Int) := (object_list.f (([a0_0, a0_1] : List Int))).bind fun t1151 => (some t1151)
set_option maxHeartbeats 8000000 in
set_option maxRecDepth 100000 in
theorem object_terms_1.calls (a0_0 : Int) (a0_1 : Int) (r : List Int) (w : World) (h : object_terms_1.f a0_0 a0_1 = some r) :
  Calls Tryz.prog 196 #[.agg #[.int .i64 a0_0, .int .i64 a0_1]] w fun e w' => ∃ v0_ : Value, e = .returned (v0_) ∧ Kd.R (Kd.int .i64) 2 w' w.heap.size (fun _ => True) v0_ r ∧ Below w.heap.size w w' := by
 have hu68 := Tryz.underlying68
 have HB := Aside0.mk (Below.refl w.heap.size w)
 have H : ((object_list.f (([a0_0, a0_1] : List Int))).bind fun t1151 => (some t1151)) = some r := h
 clear h
 obtain ⟨y1148, hy1148⟩ : ∃ y_ : List Int, y_ = (([a0_0, a0_1] : List Int)) := ⟨_, rfl⟩
 replace H : ((object_list.f y1148).bind fun t1151 => (some t1151)) = some r := by first | (rw [hy1148]; with_reducible exact H) | (have H2_ := (Option.bind_some _ _).symm.trans H; rw [hy1148]; with_reducible exact H2_) | (have H2_ := (Option.bind_some _ _).symm.trans H; with_reducible exact H2_) | with_reducible exact H | (rw [hy1148]; exact H) | exact H
 have Ny1148 := Aside0.mk hy1148
 clear hy1148
 replace H := Option.bind_eq_some_iff.mp H
 obtain ⟨t1151, A20, H⟩ := H
 replace H : (some t1151) = some r := H
 have A2 := Aside0.mk A20
 clear A20
 obtain rfl := Option.some.inj H
 go_enter Tryz.func196, Tryz.ntmps196
 go_wp2_with (first | ((with_reducible refine gate_dst (N := 1) rfl ?_); refine box_event ?hg (N := 1) ?hd (cs := #[.int .i64 a0_0, .int .i64 a0_1]) (t := 68) ?hr ?_; (case hd => rfl); (case hg => rfl); (case hr => first | (go_simp; done) | (go_simp; rfl)); intro gb1147 hg w3 hbox hb; have n0_ := Aside0.mk (below_step (by repeat (first | (with_reducible first | exact HB.out | apply below_alloc | apply pw_below_drewN | apply below_drew1) | exact HB.out)) hb); have n1_ := Aside0.mk (hbox); have n2_ := Aside0.mk ((by rw [hg]; exact (below_size (by repeat (first | (with_reducible first | exact HB.out | apply below_alloc | apply pw_below_drewN | apply below_drew1) | exact HB.out))) : w.heap.size ≤ gb1147)); have n3_ := Aside0.mk ((by rw [hg]; exact (below_size (by repeat (first | (with_reducible first | exact HB.out | apply below_alloc | apply pw_below_drewN | apply below_drew1) | exact HB.out))) : w.heap.size ≤ gb1147)); clear HB; have HB := n0_; have BK1147 := n1_; have GW1147 := n2_; have GE1147 := n3_; clear n0_ n1_ n2_ n3_; clear hb hbox hg; have hcz4_0 := cZ BK1147.out 0 (.int .i64 a0_0) rfl; have hcz4_1 := cZ BK1147.out 1 (.int .i64 a0_1) rfl; have hfz4_0 := blk_frozen BK1147.out 0; have hfz4_1 := blk_frozen BK1147.out 1) | ((with_reducible refine gate_dst (N := 7) rfl ?_); refine Kd.R_lit (Kd.int .i64) _ 2 ?hg (N := 7) ?hd (xs := ([a0_0, a0_1] : List Int)) (inner := [.int .i64 a0_0, .int .i64 a0_1]) (ok := fun _ => True) (okp := fun _ => True) ?hr ?hp (fun _ hk => hk) trivial (Below.refl _ _) (Nat.le_refl _) (by simp) ?_; (case hd => rfl); (case hg => rfl); (case hr => first | (go_simp; done) | (go_simp; rfl)); (case hp => exact (Reps.one (show Kd.M (Kd.int .i64) _ _ _ a0_0 [.int .i64 a0_0] from rfl) (Reps.one (show Kd.M (Kd.int .i64) _ _ _ a0_1 [.int .i64 a0_1] from rfl) (Reps.none _ _)))); intro v1149 w5 ho6 hb hg_ hnew_; clear hg_ hnew_; (first | rw [← Ny1148.out] at ho6 | (simp only [Int.reduceToNat] at ho6; rw [← Ny1148.out] at ho6)); have n0_ := Aside0.mk (Kd.R_lower ho6 (below_size (by repeat (first | (with_reducible first | exact HB.out | apply below_alloc | apply pw_below_drewN | apply below_drew1 | refine below_set ?_ GE1147.out) | exact HB.out)))); have n1_ := Aside0.mk (blk_below (g := gb1147) (o := .cells #[.int .i64 a0_0, .int .i64 a0_1] 68 (0, 0)) (by (with_reducible repeat (first | refine blk_drewN ?_ _ | refine blk_drew ?_ | refine blk_alloc ?_ _)); exact BK1147.out) hb); have n2_ := Aside0.mk (below_step (by repeat (first | (with_reducible first | exact HB.out | apply below_alloc | apply pw_below_drewN | apply below_drew1 | refine below_set ?_ GE1147.out) | exact HB.out)) hb); clear BK1147; clear HB; have HO1150 := n0_; have BK1147 := n1_; have HB := n2_; clear n0_ n1_ n2_; clear hb ho6; obtain ⟨Ao7, co7, eo7⟩ := Kd.R_slice HO1150.out; subst eo7) | ((with_reducible refine gate_callee (f := 114) rfl ?_); refine goesL_ (some 8) rfl rfl Tryz.func114 (by kernel_rfl) rfl #[.slice Ao7 y1148.length co7] rfl (by (try simp only [mT, mC, mN]); first | done | rfl | (simp only [List.length_drop, List.length_take]; rfl)) ?_; (with_reducible refine (object_list.calls (fun k_ => some k_ = (.slice Ao7 y1148.length co7 : Value).ownBlock) (.slice Ao7 y1148.length co7) y1148 t1151 w _ ?side1 ?side2 A2.out).mono ?_); (case side1 => repeat (first | (with_reducible first | exact HB.out | apply below_alloc | apply pw_below_drewN | apply below_drew1 | refine below_set ?_ GE1147.out) | exact HB.out)); (case side2 => exact Kd.R_tight rfl HO1150.out); rintro e w8 ⟨v1152, rfl, ho0, hb, hkp⟩; refine ⟨_, rfl, ?_⟩; have n0_ := Aside0.mk (blk_kept (by (with_reducible repeat (first | refine blk_drewN ?_ _ | refine blk_drew ?_ | refine blk_alloc ?_ _)); exact BK1147.out) hkp (fun hs_ => (fun e_ => (Kd.R_ne HO1150.out BK1147.out (by decide)) e_) hs_)); have n1_ := Aside0.mk (Kd.R_mono (ok' := fun k_ => True) ho0 (fun k_ hk_ => trivial)); have n2_ := Aside0.mk (hb); clear BK1147; clear HB; clear HO1150; have BK1147 := n0_; have HO1153 := n1_; have HB := n2_; clear n0_ n1_ n2_; (try clear hb); (try clear hkp); (try clear ho0)))
 go_ret
 exact ⟨_, by first | rfl | (simp [errW_none, errW_some] <;> rfl) | (simp [*, errW_none, errW_some] <;> rfl), by (with_reducible repeat (first | apply Kd.R_alloc | apply Kd.R_drewN | apply Kd.R_drew)); exact HO1153.out, by repeat (first | (with_reducible first | exact HB.out | apply below_alloc | apply pw_below_drewN | apply below_drew1 | refine below_set ?_ GE1147.out) | exact HB.out)⟩
def object_terms_2.f (l0 : List Int) : Option (Int × Int) := if 0 < (l0.length : Int) then (if 1 < (l0.length : Int) then (some (rd l0 0, rd l0 1)) else (none)) else (none)
def object_terms_2.T1 : Bool × List (List Nat × List Nat) := (true, [([], []), ([0], [0]), ([1], [1]), ([], []), ([3], [3]), ([4], [4]), ([2, 5], [2, 5]), ([6, 0, 1, 2, 3, 4, 5, 6], [6])])
def object_terms_2.B1 : List Nat := [0, 1, 3, 0, 8, 24, 63, 127]
theorem object_terms_2.tab1 : rtab .any (opsOf Tryz.f197 1) = object_terms_2.T1 := by kernel_rfl
theorem object_terms_2.bits1 : waitsOk object_terms_2.T1.2 object_terms_2.B1 = true := by kernel_rfl
set_option maxHeartbeats 8000000 in
set_option maxRecDepth 100000 in
theorem object_terms_2.calls (A0 : Option Addr) (c0 : Nat) (l0 : List Int) (r1 : Int) (r2 : Int) (w : World) (hr0 : Kd.C (Kd.int .i64) w A0 l0.length l0) (hc0 : l0.length ≤ c0) (h : object_terms_2.f l0 = some (r1, r2)) :
  Calls Tryz.prog 197 #[.slice A0 l0.length c0] w fun e w' => e = .returned (.agg #[.int .i64 r1, .int .i64 r2]) ∧ Below w.heap.size w w' := by
 have hu68 := Tryz.underlying68
 have HR0 := Aside0.mk hr0
 have HC0 := Aside0.mk hc0
 clear hr0 hc0
 have HB := Aside0.mk (Below.refl w.heap.size w)
 have H : (if 0 < (l0.length : Int) then (if 1 < (l0.length : Int) then (some (rd l0 0, rd l0 1)) else (none)) else (none)) = some (r1, r2) := h
 clear h
 by_cases c2 : 0 < (l0.length : Int)
 ·rw [if_pos c2] at H
  have c2b0 : decide (0 < (l0.length : Int)) = true := decide_eq_true c2
  have c2b1 : decide (0 < l0.length) = true := decide_eq_true (by omega)
  clear c2
  by_cases c3 : 1 < (l0.length : Int)
  ·rw [if_pos c3] at H
   have c3b0 : decide (1 < (l0.length : Int)) = true := decide_eq_true c3
   have c3b1 : decide (1 < l0.length) = true := decide_eq_true (by omega)
   clear c3
   simp only [Option.some.injEq, Prod.mk.injEq] at H
   obtain ⟨rfl, rfl⟩ := H
   go_enter Tryz.func197, Tryz.ntmps197
   try go_wp2_with (first | ((with_reducible refine gate_dst (N := 2) rfl ?_); refine box_event ?hg (N := 2) ?hd (cs := #[.int .i64 0, .int .i64 0]) (t := 68) ?hr ?_; (case hd => rfl); (case hg => rfl); (case hr => first | (go_simp; done) | (go_simp; rfl)); intro gb1154 hg w4 hbox hb; have n0_ := Aside0.mk (below_step (by repeat (first | (with_reducible first | exact HB.out | apply below_alloc | apply pw_below_drewN | apply below_drew1) | exact HB.out)) hb); have n1_ := Aside0.mk (hbox); have n2_ := Aside0.mk ((by rw [hg]; exact (below_size (by repeat (first | (with_reducible first | exact HB.out | apply below_alloc | apply pw_below_drewN | apply below_drew1) | exact HB.out))) : w.heap.size ≤ gb1154)); have n3_ := Aside0.mk ((by rw [hg]; exact (below_size (by repeat (first | (with_reducible first | exact HB.out | apply below_alloc | apply pw_below_drewN | apply below_drew1) | exact HB.out))) : w.heap.size ≤ gb1154)); clear HB; have HB := n0_; have BK1154 := n1_; have GW1154 := n2_; have GE1154 := n3_; clear n0_ n1_ n2_ n3_; clear hb hbox hg))
   have n0_ := Aside0.mk (blk_drew BK1154.out)
   have n1_ := Aside0.mk (below_drew1 HB.out)
   clear BK1154
   clear HB
   have BK1154 := n0_
   have HB := n1_
   clear n0_ n1_
   have p1155 : 0 ≤ (0 : Int) := (by omega)
   have q1155 : 0 < (l0.length : Int) := of_decide_eq_true (by first | (with_reducible assumption) | assumption)
   obtain ⟨ad1155, e1155, hx1155_0⟩ := Kd.at_int HR0.out 0 p1155 q1155
   have hw1155_0 := hx1155_0
   (try rw [show ((0 : Int)).toNat = 0 from rfl] at hw1155_0)
   (try rw [show 0 * 1 = 0 from rfl] at hw1155_0)
   (try rw [Addr.add_zero'] at hw1155_0)
   cases e1155
   have qi1155 : (0 < l0.length) = True := eq_true (by omega)
   (try rw [show ((0 : Int)).toNat = 0 from rfl] at hx1155_0)
   (try rw [Addr.add_zero'] at hx1155_0)
   replace hx1155_0 := (HB.out.cell (World.block_lt_of_cell? w _ hx1155_0)).trans hx1155_0
   replace p1155 := eq_true p1155
   replace q1155 := eq_true q1155
   have p1156 : 0 ≤ (1 : Int) := (by omega)
   have q1156 : 1 < (l0.length : Int) := of_decide_eq_true (by first | (with_reducible assumption) | assumption)
   obtain ⟨ad1156, e1156, hx1156_0⟩ := Kd.at_int HR0.out 1 p1156 q1156
   have hw1156_0 := hx1156_0
   (try rw [show ((1 : Int)).toNat = 1 from rfl] at hw1156_0)
   (try rw [show 1 * 1 = 1 from rfl] at hw1156_0)
   (try simp only [Nat.reduceMul, Nat.reduceEqDiff, Go.Addr.add, ↓reduceIte] at hw1156_0)
   obtain rfl : ad1155 = ad1156 := (by injection e1156)
   (try simp only [show (1 : Int).toNat = 1 from rfl, Nat.reduceMul, Nat.reduceEqDiff, Go.Addr.add, ↓reduceIte] at hx1156_0)
   have qi1156 : (1 < l0.length) = True := eq_true (by omega)
   (try rw [show ((1 : Int)).toNat = 1 from rfl] at hx1156_0)
   replace hx1156_0 := (HB.out.cell (World.block_lt_of_cell? w _ hx1156_0)).trans hx1156_0
   replace p1156 := eq_true p1156
   replace q1156 := eq_true q1156
   refine start_ (n := 8) (S := fun w' => w'.cell? ad1155 = some (.int .i64 (rd l0 0)) ∧ w'.cell? ⟨ad1155.block, ad1155.off + 1, none⟩ = some (.int .i64 (rd l0 1))) (ds := []) #[false, false, false, false, false, false, false, false] (by kernel_rfl) rfl rfl ⟨((HB.out.cell (World.block_lt_of_cell? w _ hw1155_0)).trans hw1155_0), ((HB.out.cell (World.block_lt_of_cell? w _ hw1156_0)).trans hw1156_0)⟩ (fun hHeld => ?_); refine with_tabW object_terms_2.tab1 object_terms_2.bits1 (fun HT_ HW_ => ?_)
   generalize w4.drew = w5 at BK1154 HB hx1155_0 hx1156_0 hHeld ⊢
   refine pure_ (i := 0) (N := some 3) (v := ?_) (a' := ?_) #[true, false, false, false, false, false, false, false] rfl rfl (any_of HT_.out (by kernel_rfl)) (fun _ _ _ h => h) (Or.inl ⟨by rfl, ?_⟩) ?_ ?_
   rotate_left
   ·intro w'
    go_simp
    with_reducible rfl
   rotate_left
   ·simp only [Act.put, sA, sZ, sS, i64_w, i32_w]
    rfl
   refine pure_ (i := 1) (N := some 4) (v := ?_) (a' := ?_) #[true, true, false, false, false, false, false, false] rfl rfl (any_of HT_.out (by kernel_rfl)) (fun _ _ _ h => h) (Or.inl ⟨by rfl, ?_⟩) ?_ ?_
   rotate_left
   ·intro w'
    go_simp
    with_reducible rfl
   rotate_left
   ·simp only [Act.put, sA, sZ, sS, i64_w, i32_w]
    rfl
   refine pure_ (i := 3) (N := some 6) (v := ?_) (a' := ?_) #[true, true, false, true, false, false, false, false] rfl rfl (any_of HT_.out (by kernel_rfl)) (fun _ _ _ h => h) (Or.inl ⟨by rfl, ?_⟩) ?_ ?_
   rotate_left
   ·intro w'
    go_simp
    with_reducible rfl
   rotate_left
   ·simp only [Act.put, sA, sZ, sS, i64_w, i32_w]
    rfl
   refine pure_ (i := 4) (N := some 7) (v := ?_) (a' := ?_) #[true, true, false, true, true, false, false, false] rfl rfl (any_of HT_.out (by kernel_rfl)) (fun _ _ _ h => h) (Or.inl ⟨by rfl, ?_⟩) ?_ ?_
   rotate_left
   ·intro w'
    go_simp
    with_reducible rfl
   rotate_left
   ·simp only [Act.put, sA, sZ, sS, i64_w, i32_w]
    rfl
   refine take_ (i := 2) (N := some 5) (v := ?_) (a' := ?_) #[true, true, true, true, true, false, false, false] rfl rfl (take_ofW HT_.out HW_.out (by kernel_rfl)) (fun _ _ _ h => h) (Or.inl ⟨by rfl, ?_⟩) hHeld ?_ ?_
   rotate_left
   ·rintro w' ⟨s0, s1⟩
    go_simp
    with_reducible rfl
   rotate_left
   ·simp only [Act.put, sA, sZ, sS, i64_w, i32_w]
    rfl
   refine take_ (i := 5) (N := some 8) (v := ?_) (a' := ?_) #[true, true, true, true, true, true, false, false] rfl rfl (take_ofW HT_.out HW_.out (by kernel_rfl)) (fun _ _ _ h => h) (Or.inl ⟨by rfl, ?_⟩) hHeld ?_ ?_
   rotate_left
   ·rintro w' ⟨s0, s1⟩
    go_simp
    with_reducible rfl
   rotate_left
   ·simp only [Act.put, sA, sZ, sS, i64_w, i32_w]
    rfl
   refine pure_ (i := 6) (N := some 9) (v := ?_) (a' := ?_) #[true, true, true, true, true, true, true, false] rfl rfl (any_of HT_.out (by kernel_rfl)) (fun _ _ _ h => h) (Or.inl ⟨by rfl, ?_⟩) ?_ ?_
   rotate_left
   ·intro w'
    go_simp
    with_reducible rfl
   rotate_left
   ·simp only [Act.put, sA, sZ, sS, i64_w, i32_w]
    rfl
   refine one_ (i := 7) (N := none) #[true, true, true, true, true, true, true, true] rfl rfl (one_of HT_.out (by kernel_rfl)) (by decide) (fun K hK => ?_)
   have hs6 := cZ BK1154.out 0 (.int .i64 0) rfl
   have hfs6 := blk_frozen BK1154.out 0
   have hs7 := cZ BK1154.out 1 (.int .i64 0) rfl
   have hfs7 := blk_frozen BK1154.out 1
   refine skip_ (w1 := ?_) (by rfl) rfl ?_ ?_
   rotate_left
   ·go_simp
    rfl
   refine hK.out _ _ ⟨((cell_far (p := ⟨gb1154, _, none⟩) (by first | exact Nat.ne_of_lt (Nat.lt_of_lt_of_le (by have := World.block_lt_of_cell? _ _ hw1155_0; first | rwa [add_block] at this | exact this) GW1154.out) | (rw [add_block]; exact Nat.ne_of_lt (Nat.lt_of_lt_of_le (by have := World.block_lt_of_cell? _ _ hw1155_0; first | rwa [add_block] at this | exact this) GW1154.out)) | (show (Addr.add _ _).block ≠ _; rw [add_block]; exact Nat.ne_of_lt (Nat.lt_of_lt_of_le (by have := World.block_lt_of_cell? _ _ hw1155_0; first | rwa [add_block] at this | exact this) GW1154.out)) | (dsimp only; exact Nat.ne_of_lt (Nat.lt_of_lt_of_le (by have := World.block_lt_of_cell? _ _ hw1155_0; first | rwa [add_block] at this | exact this) GW1154.out))) _).trans (((cell_far (p := ⟨gb1154, _, none⟩) (by first | exact Nat.ne_of_lt (Nat.lt_of_lt_of_le (by have := World.block_lt_of_cell? _ _ hw1155_0; first | rwa [add_block] at this | exact this) GW1154.out) | (rw [add_block]; exact Nat.ne_of_lt (Nat.lt_of_lt_of_le (by have := World.block_lt_of_cell? _ _ hw1155_0; first | rwa [add_block] at this | exact this) GW1154.out)) | (show (Addr.add _ _).block ≠ _; rw [add_block]; exact Nat.ne_of_lt (Nat.lt_of_lt_of_le (by have := World.block_lt_of_cell? _ _ hw1155_0; first | rwa [add_block] at this | exact this) GW1154.out)) | (dsimp only; exact Nat.ne_of_lt (Nat.lt_of_lt_of_le (by have := World.block_lt_of_cell? _ _ hw1155_0; first | rwa [add_block] at this | exact this) GW1154.out))) _).trans (hHeld.1)))), ((cell_far (p := ⟨gb1154, _, none⟩) (by first | exact Nat.ne_of_lt (Nat.lt_of_lt_of_le (by have := World.block_lt_of_cell? _ _ hw1156_0; first | rwa [add_block] at this | exact this) GW1154.out) | (rw [add_block]; exact Nat.ne_of_lt (Nat.lt_of_lt_of_le (by have := World.block_lt_of_cell? _ _ hw1156_0; first | rwa [add_block] at this | exact this) GW1154.out)) | (show (Addr.add _ _).block ≠ _; rw [add_block]; exact Nat.ne_of_lt (Nat.lt_of_lt_of_le (by have := World.block_lt_of_cell? _ _ hw1156_0; first | rwa [add_block] at this | exact this) GW1154.out)) | (dsimp only; exact Nat.ne_of_lt (Nat.lt_of_lt_of_le (by have := World.block_lt_of_cell? _ _ hw1156_0; first | rwa [add_block] at this | exact this) GW1154.out))) _).trans (((cell_far (p := ⟨gb1154, _, none⟩) (by first | exact Nat.ne_of_lt (Nat.lt_of_lt_of_le (by have := World.block_lt_of_cell? _ _ hw1156_0; first | rwa [add_block] at this | exact this) GW1154.out) | (rw [add_block]; exact Nat.ne_of_lt (Nat.lt_of_lt_of_le (by have := World.block_lt_of_cell? _ _ hw1156_0; first | rwa [add_block] at this | exact this) GW1154.out)) | (show (Addr.add _ _).block ≠ _; rw [add_block]; exact Nat.ne_of_lt (Nat.lt_of_lt_of_le (by have := World.block_lt_of_cell? _ _ hw1156_0; first | rwa [add_block] at this | exact this) GW1154.out)) | (dsimp only; exact Nat.ne_of_lt (Nat.lt_of_lt_of_le (by have := World.block_lt_of_cell? _ _ hw1156_0; first | rwa [add_block] at this | exact this) GW1154.out))) _).trans (hHeld.2))))⟩ (fun hHeld => ?_)
   clear hK K
   refine done_ (done_of HT_.out (by kernel_rfl)) ?_
   try go_wp2
   refine bodyPost_ret (results_cell_row rfl _ _ gb1154 68 #[.int .i64 (rd l0 0), .int .i64 (rd l0 1)] (0, 0) _ rfl (by (with_reducible repeat (first | refine blk_drewN ?_ _ | refine blk_drew ?_ | refine blk_alloc ?_ _)); refine blk_put (cs := #[.int .i64 (rd l0 0), .int .i64 0]) ?_ 1 _ rfl; (with_reducible repeat (first | refine blk_drewN ?_ _ | refine blk_drew ?_ | refine blk_alloc ?_ _)); refine blk_put (cs := #[.int .i64 0, .int .i64 0]) ?_ 0 _ rfl; (with_reducible repeat (first | refine blk_drewN ?_ _ | refine blk_drew ?_ | refine blk_alloc ?_ _)); exact BK1154.out) Tryz.underlying68 rfl (by kernel_rfl)) rfl ?_
   exact ⟨by first | rfl | (simp [errW_none, errW_some] <;> rfl) | (simp [*, errW_none, errW_some] <;> rfl), by repeat (first | (with_reducible first | exact HB.out | apply below_alloc | apply pw_below_drewN | apply below_drew1 | refine below_set ?_ GE1154.out) | exact HB.out)⟩
  ·rw [if_neg c3] at H
   exact absurd H (by simp)
 ·rw [if_neg c2] at H
  exact absurd H (by simp)
def bound_within.f (a0 : Int) (a1 : Int) (a2 : Int) : Option (Bool) := if a0 ≥ a1 then (some (decide (a0 ≤ a2))) else (some false)
set_option maxHeartbeats 8000000 in
set_option maxRecDepth 100000 in
theorem bound_within.calls (a0 : Int) (a1 : Int) (a2 : Int) (r : Bool) (w : World) (h : bound_within.f a0 a1 a2 = some r) :
  Calls Tryz.prog 260 #[.int .i64 a0, .int .i64 a1, .int .i64 a2] w fun e w' => e = .returned (.bool r) ∧ Drawn0 w w' := by
 have H : (if a0 ≥ a1 then (some (decide (a0 ≤ a2))) else (some false)) = some r := h
 clear h
 by_cases c4 : a0 ≥ a1
 ·rw [if_pos c4] at H
  have c4b0 : decide (a1 ≤ a0) = true := decide_eq_true c4
  clear c4
  obtain rfl := Option.some.inj H
  go_enter Tryz.func260, Tryz.ntmps260
  go_wp2
  go_ret
  exact ⟨by first | rfl | (simp; done) | (simp [*]; done), by repeat (first | exact Drawn0.refl _ | apply Drawn0.step)⟩
 ·rw [if_neg c4] at H
  have c4b0 : decide (a1 ≤ a0) = false := decide_eq_false c4
  clear c4
  obtain rfl := Option.some.inj H
  go_enter Tryz.func260, Tryz.ntmps260
  go_wp2
  go_ret
  exact ⟨by first | rfl | (simp; done) | (simp [*]; done), by repeat (first | exact Drawn0.refl _ | apply Drawn0.step)⟩
end Go.Proofs.YtecghmlojllkdaaGreat.P

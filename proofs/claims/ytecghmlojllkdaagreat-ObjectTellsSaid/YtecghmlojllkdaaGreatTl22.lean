import Derived.Test.YtecghmlojllkdaaGreatTl17
import Derived.Test.YtecghmlojllkdaaGreatTl19
import Derived.Test.YtecghmlojllkdaaGreatTl20
import Derived.Test.YtecghmlojllkdaaGreatTl21
import Derived.Test.YtecghmlojllkdaaGreatTl6
import Derived.Test.YtecghmlojllkdaaGreatTl1
import Derived.Test.YtecghmlojllkdaaGreatTl5
import Derived.Test.YtecghmlojllkdaaGreatTl8
namespace Go.Proofs.YtecghmlojllkdaaGreat.P
open Go.RowKit Go.Proofs.YtecghmlojllkdaaGreatW.PrintWords Go.Proofs.YtecghmlojllkdaaGreatW.PrintLast
set_option linter.unusedVariables false
set_option linter.unusedSimpArgs false
set_option maxRecDepth 100000
set_option maxHeartbeats 1600000 in
theorem ctorWish (w : World) : Calls Tryz.prog 59 #[] w fun e w' => e = .returned (.agg #[.int .i64 9, .int .i64 2, .int .i64 7, .func (.func 131) #[] #[], .func (.func 133) #[] #[], .func (.func 135) #[] #[]]) ∧ Below w.heap.size w w' := by
 go_enter Tryz.func59, Tryz.ntmps59
 go_wp2
 exact bodyPost_ret (v := .agg #[.int .i64 9, .int .i64 2, .int .i64 7, .func (.func 131) #[] #[], .func (.func 133) #[] #[], .func (.func 135) #[] #[]]) (by simp [results, Tryz.results59, go_sem]) rfl ⟨rfl, (Below.refl _ _).alloc (Nat.le_refl _) _⟩
set_option maxHeartbeats 6400000 in
theorem aswWish (c t : Int) (A0 : Option Addr) (n0 c0 : Nat) (y0 y1 y2 y3 y4 y5 y6 E : Int) (w : World)
  (hcall : ∀ W, Below w.heap.size w W → Calls Tryz.prog 60 #[.agg #[.int .i64 9, .int .i64 2, .int .i64 7, .func (.func 131) #[] #[], .func (.func 133) #[] #[], .func (.func 135) #[] #[]], .agg #[.int .i64 c, .int .i64 t, .slice A0 n0 c0]] W fun e w' => e = .returned (.tuple #[.agg #[.int .i64 y0, .int .i64 y1, .int .i64 y2, .int .i64 y3, .int .i64 y4, .int .i64 y5, .int .i64 y6], .int .i64 E]) ∧ Below W.heap.size W w') :
  Calls Tryz.prog 27 #[.agg #[.int .i64 c, .int .i64 t, .slice A0 n0 c0]] w fun e w' => e = .returned (.tuple #[.agg #[.int .i64 y0, .int .i64 y1, .int .i64 y2, .int .i64 y3, .int .i64 y4, .int .i64 y5, .int .i64 y6], .int .i64 E]) ∧ Below w.heap.size w w' := by
 have HC := Lib.hid hcall
 clear hcall
 have HB := Lib.hid (Below.refl w.heap.size w)
 go_enter Tryz.func27, Tryz.ntmps27
 go_wp2_with (first | ((with_reducible refine gate_dst (N := 1) rfl ?_); refine box_event ?hg (N := 1) ?hd (cs := #[.int .i64 c, .int .i64 t, .slice A0 n0 c0]) (t := 24) ?hr ?_; (case hd => rfl); (case hg => rfl); (case hr => first | (go_simp; done) | (go_simp; rfl)); intro gO hg w1 hbox hb; have GE_gO : w.heap.size ≤ gO := (by rw [hg]; exact below_size HB.out); replace HB := Lib.hid (below_step HB.out hb); have BK_gO := Lib.hid hbox; clear hb hbox hg) | ((with_reducible refine gate_dst (N := 2) rfl ?_); refine box_event ?hg (N := 2) ?hd (cs := #[.int .i64 0, .int .i64 0, .int .i64 0, .int .i64 0, .int .i64 0, .int .i64 0, .int .i64 0]) (t := 58) ?hr ?_; (case hd => rfl); (case hg => rfl); (case hr => first | (go_simp; done) | (go_simp; rfl)); intro gR hg w2 hbox hb; have GE_gR : w.heap.size ≤ gR := (by rw [hg]; exact below_size HB.out); replace HB := Lib.hid (below_step HB.out hb); replace BK_gO := bB BK_gO hb; have BK_gR := Lib.hid hbox; clear hb hbox hg))
 replace HB := Lib.hid (below_drew1 HB.out)
 replace BK_gO := bD BK_gO
 replace BK_gR := bD BK_gR
 refine start_ (n := 7) (S := fun w' => w'.cell? ⟨gO, 0, none⟩ = some (.int .i64 c) ∧ w'.cell? ⟨gO, 1, none⟩ = some (.int .i64 t) ∧ w'.cell? ⟨gO, 2, none⟩ = some (.slice A0 n0 c0)) (ds := [5]) #[false, false, false, false, false, false, false] (by kernel_rfl) rfl rfl ⟨((blk_cell BK_gO.out 0).trans rfl), ((blk_cell BK_gO.out 1).trans rfl), ((blk_cell BK_gO.out 2).trans rfl)⟩ (fun hHeld => ?_)
 generalize w2.drew = w3 at HB BK_gO BK_gR hHeld ⊢
 refine take_ (i := 1) (N := some 5) (v := ?_) (a' := ?_) #[false, true, false, false, false, false, false] rfl rfl (by kernel_rfl) (fun _ _ _ h => h) (Or.inl ⟨by rfl, ?_⟩) hHeld ?_ ?_
 rotate_left
 ·rintro w' ⟨s0, s1, s2⟩
  go_simp
  with_reducible rfl
 rotate_left
 ·simp only [Act.put, sA, sZ, sS, i64_w, i32_w]
  rfl
 refine one_ (i := 0) (N := some 4) #[true, true, false, false, false, false, false] rfl rfl (by kernel_rfl) (by decide) (fun K hK => ?_)
 refine goes_ Tryz.func59 (by kernel_rfl) rfl #[] (by rfl) rfl rfl (by first | rfl | (simp only [List.map_toArray, List.map_nil]; done) | (simp only [List.map_toArray, List.map_nil]; rfl)) ?_
 with_reducible refine (ctorWish _).mono ?_
 rintro e w4 ⟨rfl, hb⟩
 refine ⟨_, rfl, ?_⟩
 replace HB := Lib.hid (below_step HB.out hb)
 replace BK_gO := bB BK_gO hb
 replace BK_gR := bB BK_gR hb
 clear hb
 refine hK.out _ _ ⟨((blk_cell BK_gO.out 0).trans rfl), ((blk_cell BK_gO.out 1).trans rfl), ((blk_cell BK_gO.out 2).trans rfl)⟩ (fun hHeld => ?_)
 clear hK K
 refine norm_ (a' := ?_) ?_ ?_
 rotate_left
 ·show Act.put _ (some 4) _ = _
  simp only [Act.put, sA, sZ, sS, i64_w, i32_w]
  rfl
 refine one_ (i := 2) (N := some 6) #[true, true, true, false, false, false, false] rfl rfl (by kernel_rfl) (by decide) (fun K hK => ?_)
 refine goes_ Tryz.func60 (by kernel_rfl) rfl #[.agg #[.int .i64 9, .int .i64 2, .int .i64 7, .func (.func 131) #[] #[], .func (.func 133) #[] #[], .func (.func 135) #[] #[]], .agg #[.int .i64 c, .int .i64 t, .slice A0 n0 c0]] (by rfl) rfl rfl (by simp only [mT, mC, mN]; rfl) ?_
 with_reducible refine (HC.out _ HB.out).mono ?_
 rintro e w5 ⟨rfl, hb⟩
 refine ⟨_, rfl, ?_⟩
 replace HB := Lib.hid (below_step HB.out hb)
 replace BK_gO := bB BK_gO hb
 replace BK_gR := bB BK_gR hb
 clear hb
 refine hK.out _ _ ⟨((blk_cell BK_gO.out 0).trans rfl), ((blk_cell BK_gO.out 1).trans rfl), ((blk_cell BK_gO.out 2).trans rfl)⟩ (fun hHeld => ?_)
 clear hK K
 refine norm_ (a' := ?_) ?_ ?_
 rotate_left
 ·show Act.put _ (some 6) _ = _
  simp only [Act.put, sA, sZ, sS, i64_w, i32_w]
  rfl
 refine pure_ (i := 3) (N := some 7) (v := ?_) (a' := ?_) #[true, true, true, true, false, false, false] rfl rfl (by kernel_rfl) (fun _ _ _ h => h) (Or.inl ⟨by rfl, ?_⟩) ?_ ?_
 rotate_left
 ·intro w'
  go_simp
  with_reducible rfl
 rotate_left
 ·simp only [Act.put, sA, sZ, sS, i64_w, i32_w]
  rfl
 refine pure_ (i := 4) (N := some 8) (v := ?_) (a' := ?_) #[true, true, true, true, true, false, false] rfl rfl (by kernel_rfl) (fun _ _ _ h => h) (Or.inl ⟨by rfl, ?_⟩) ?_ ?_
 rotate_left
 ·intro w'
  go_simp
  with_reducible rfl
 rotate_left
 ·simp only [Act.put, sA, sZ, sS, i64_w, i32_w]
  rfl
 refine last_ (i := 5) (N := none) #[true, true, true, true, true, true, false] rfl rfl (by kernel_rfl) (by decide) (fun K hK => ?_)
 have k_gR_0 := bC BK_gR 0 (.int .i64 0) rfl
 have k_gR_1 := bC BK_gR 1 (.int .i64 0) rfl
 have k_gR_2 := bC BK_gR 2 (.int .i64 0) rfl
 have k_gR_3 := bC BK_gR 3 (.int .i64 0) rfl
 have k_gR_4 := bC BK_gR 4 (.int .i64 0) rfl
 have k_gR_5 := bC BK_gR 5 (.int .i64 0) rfl
 have k_gR_6 := bC BK_gR 6 (.int .i64 0) rfl
 have f_gR_0 := bF BK_gR 0
 have f_gR_1 := bF BK_gR 1
 have f_gR_2 := bF BK_gR 2
 have f_gR_3 := bF BK_gR 3
 have f_gR_4 := bF BK_gR 4
 have f_gR_5 := bF BK_gR 5
 have f_gR_6 := bF BK_gR 6
 refine skip_ (w1 := ?_) (by rfl) rfl ?_ ?_
 rotate_left
 ·go_simp
  rfl
 refine hK.out _ _ ?_
 clear hK K
 refine pure_ (i := 6) (N := some 3) (v := ?_) (a' := ?_) #[true, true, true, true, true, true, true] rfl rfl (by kernel_rfl) (fun _ _ _ h => h) (Or.inl ⟨by rfl, ?_⟩) ?_ ?_
 rotate_left
 ·intro w'
  go_simp
  with_reducible rfl
 rotate_left
 ·simp only [Act.put, sA, sZ, sS, i64_w, i32_w]
  rfl
 refine done_ (by kernel_rfl) ?_
 go_wp2
 refine bodyPost_ret (results_ct rfl _ _ gR 58 #[.int .i64 y0, .int .i64 y1, .int .i64 y2, .int .i64 y3, .int .i64 y4, .int .i64 y5, .int .i64 y6] (0, 0) _ rfl (blk_put (cs' := #[.int .i64 y0, .int .i64 y1, .int .i64 y2, .int .i64 y3, .int .i64 y4, .int .i64 y5, .int .i64 y6]) (blk_put (cs' := #[.int .i64 y0, .int .i64 y1, .int .i64 y2, .int .i64 y3, .int .i64 y4, .int .i64 y5, .int .i64 0]) (blk_put (cs' := #[.int .i64 y0, .int .i64 y1, .int .i64 y2, .int .i64 y3, .int .i64 y4, .int .i64 0, .int .i64 0]) (blk_put (cs' := #[.int .i64 y0, .int .i64 y1, .int .i64 y2, .int .i64 y3, .int .i64 0, .int .i64 0, .int .i64 0]) (blk_put (cs' := #[.int .i64 y0, .int .i64 y1, .int .i64 y2, .int .i64 0, .int .i64 0, .int .i64 0, .int .i64 0]) (blk_put (cs' := #[.int .i64 y0, .int .i64 y1, .int .i64 0, .int .i64 0, .int .i64 0, .int .i64 0, .int .i64 0]) (blk_put (cs' := #[.int .i64 y0, .int .i64 0, .int .i64 0, .int .i64 0, .int .i64 0, .int .i64 0, .int .i64 0]) (BK_gR.out) 0 _ rfl) 1 _ rfl) 2 _ rfl) 3 _ rfl) 4 _ rfl) 5 _ rfl) 6 _ rfl) Tryz.underlying58 rfl (by kernel_rfl)) rfl ?_
 exact ⟨rfl, below_set (below_set (below_set (below_set (below_set (below_set (below_set (HB.out) GE_gR) GE_gR) GE_gR) GE_gR) GE_gR) GE_gR) GE_gR⟩
set_option maxHeartbeats 6400000 in
theorem towWish (x0 x1 x2 x3 x4 x5 x6 C T' E : Int) (l' : List Int) (w : World)
  (hcall : ∀ W, Below w.heap.size w W → Calls Tryz.prog 148 #[.agg #[.int .i64 9, .int .i64 2, .int .i64 7, .func (.func 131) #[] #[], .func (.func 133) #[] #[], .func (.func 135) #[] #[]], .agg #[.int .i64 x0, .int .i64 x1, .int .i64 x2, .int .i64 x3, .int .i64 x4, .int .i64 x5, .int .i64 x6]] W (ObjP C T' E l' W)) :
  Calls Tryz.prog 79 #[.agg #[.int .i64 x0, .int .i64 x1, .int .i64 x2, .int .i64 x3, .int .i64 x4, .int .i64 x5, .int .i64 x6]] w (ObjP C T' E l' w) := by
 have HC := Lib.hid hcall
 clear hcall
 have HB := Lib.hid (Below.refl w.heap.size w)
 go_enter Tryz.func79, Tryz.ntmps79
 go_wp2_with (first | ((with_reducible refine gate_dst (N := 1) rfl ?_); refine box_event ?hg (N := 1) ?hd (cs := #[.int .i64 x0, .int .i64 x1, .int .i64 x2, .int .i64 x3, .int .i64 x4, .int .i64 x5, .int .i64 x6]) (t := 58) ?hr ?_; (case hd => rfl); (case hg => rfl); (case hr => first | (go_simp; done) | (go_simp; rfl)); intro gX hg w1 hbox hb; have GE_gX : w.heap.size ≤ gX := (by rw [hg]; exact below_size HB.out); replace HB := Lib.hid (below_step HB.out hb); have BK_gX := Lib.hid hbox; clear hb hbox hg) | ((with_reducible refine gate_dst (N := 2) rfl ?_); refine box_event ?hg (N := 2) ?hd (cs := #[.int .i64 0, .int .i64 0, .slice none 0 0]) (t := 24) ?hr ?_; (case hd => rfl); (case hg => rfl); (case hr => first | (go_simp; done) | (go_simp; rfl)); intro gR hg w2 hbox hb; have GE_gR : w.heap.size ≤ gR := (by rw [hg]; exact below_size HB.out); replace HB := Lib.hid (below_step HB.out hb); replace BK_gX := bB BK_gX hb; have BK_gR := Lib.hid hbox; clear hb hbox hg))
 replace HB := Lib.hid (below_drew1 HB.out)
 replace BK_gX := bD BK_gX
 replace BK_gR := bD BK_gR
 refine start_ (n := 7) (S := fun w' => w'.cell? ⟨gX, 0, none⟩ = some (.int .i64 x0) ∧ w'.cell? ⟨gX, 1, none⟩ = some (.int .i64 x1) ∧ w'.cell? ⟨gX, 2, none⟩ = some (.int .i64 x2) ∧ w'.cell? ⟨gX, 3, none⟩ = some (.int .i64 x3) ∧ w'.cell? ⟨gX, 4, none⟩ = some (.int .i64 x4) ∧ w'.cell? ⟨gX, 5, none⟩ = some (.int .i64 x5) ∧ w'.cell? ⟨gX, 6, none⟩ = some (.int .i64 x6)) (ds := [5]) #[false, false, false, false, false, false, false] (by kernel_rfl) rfl rfl ⟨((blk_cell BK_gX.out 0).trans rfl), ((blk_cell BK_gX.out 1).trans rfl), ((blk_cell BK_gX.out 2).trans rfl), ((blk_cell BK_gX.out 3).trans rfl), ((blk_cell BK_gX.out 4).trans rfl), ((blk_cell BK_gX.out 5).trans rfl), ((blk_cell BK_gX.out 6).trans rfl)⟩ (fun hHeld => ?_)
 generalize w2.drew = w3 at HB BK_gX BK_gR hHeld ⊢
 refine take_ (i := 1) (N := some 5) (v := ?_) (a' := ?_) #[false, true, false, false, false, false, false] rfl rfl (by kernel_rfl) (fun _ _ _ h => h) (Or.inl ⟨by rfl, ?_⟩) hHeld ?_ ?_
 rotate_left
 ·rintro w' ⟨s0, s1, s2, s3, s4, s5, s6⟩
  go_simp
  with_reducible rfl
 rotate_left
 ·simp only [Act.put, sA, sZ, sS, i64_w, i32_w]
  rfl
 refine one_ (i := 0) (N := some 4) #[true, true, false, false, false, false, false] rfl rfl (by kernel_rfl) (by decide) (fun K hK => ?_)
 refine goes_ Tryz.func59 (by kernel_rfl) rfl #[] (by rfl) rfl rfl (by first | rfl | (simp only [List.map_toArray, List.map_nil]; done) | (simp only [List.map_toArray, List.map_nil]; rfl)) ?_
 with_reducible refine (ctorWish _).mono ?_
 rintro e w4 ⟨rfl, hb⟩
 refine ⟨_, rfl, ?_⟩
 replace HB := Lib.hid (below_step HB.out hb)
 replace BK_gX := bB BK_gX hb
 replace BK_gR := bB BK_gR hb
 clear hb
 refine hK.out _ _ ⟨((blk_cell BK_gX.out 0).trans rfl), ((blk_cell BK_gX.out 1).trans rfl), ((blk_cell BK_gX.out 2).trans rfl), ((blk_cell BK_gX.out 3).trans rfl), ((blk_cell BK_gX.out 4).trans rfl), ((blk_cell BK_gX.out 5).trans rfl), ((blk_cell BK_gX.out 6).trans rfl)⟩ (fun hHeld => ?_)
 clear hK K
 refine norm_ (a' := ?_) ?_ ?_
 rotate_left
 ·show Act.put _ (some 4) _ = _
  simp only [Act.put, sA, sZ, sS, i64_w, i32_w]
  rfl
 refine one_ (i := 2) (N := some 6) #[true, true, true, false, false, false, false] rfl rfl (by kernel_rfl) (by decide) (fun K hK => ?_)
 have LT := (blk_lt BK_gR.out : gR < w4.heap.size)
 have LB := below_size HB.out
 refine goes_ Tryz.func148 (by kernel_rfl) rfl #[.agg #[.int .i64 9, .int .i64 2, .int .i64 7, .func (.func 131) #[] #[], .func (.func 133) #[] #[], .func (.func 135) #[] #[]], .agg #[.int .i64 x0, .int .i64 x1, .int .i64 x2, .int .i64 x3, .int .i64 x4, .int .i64 x5, .int .i64 x6]] (by rfl) rfl rfl (by simp only [mT, mC, mN]; rfl) ?_
 with_reducible refine (HC.out _ HB.out).mono ?_
 rintro e w5 ⟨v9, rfl, hr9, hb⟩
 refine ⟨_, rfl, ?_⟩
 replace HB := Lib.hid (below_step HB.out hb)
 replace BK_gX := bB BK_gX hb
 replace BK_gR := bB BK_gR hb
 clear hb
 obtain ⟨A9, c9, rfl, _, _⟩ := Kd.R_reads hr9
 have HQ := Lib.hid hr9
 clear hr9
 refine hK.out _ _ ⟨((blk_cell BK_gX.out 0).trans rfl), ((blk_cell BK_gX.out 1).trans rfl), ((blk_cell BK_gX.out 2).trans rfl), ((blk_cell BK_gX.out 3).trans rfl), ((blk_cell BK_gX.out 4).trans rfl), ((blk_cell BK_gX.out 5).trans rfl), ((blk_cell BK_gX.out 6).trans rfl)⟩ (fun hHeld => ?_)
 clear hK K
 refine norm_ (a' := ?_) ?_ ?_
 rotate_left
 ·show Act.put _ (some 6) _ = _
  simp only [Act.put, sA, sZ, sS, i64_w, i32_w]
  rfl
 refine pure_ (i := 3) (N := some 7) (v := ?_) (a' := ?_) #[true, true, true, true, false, false, false] rfl rfl (by kernel_rfl) (fun _ _ _ h => h) (Or.inl ⟨by rfl, ?_⟩) ?_ ?_
 rotate_left
 ·intro w'
  go_simp
  with_reducible rfl
 rotate_left
 ·simp only [Act.put, sA, sZ, sS, i64_w, i32_w]
  rfl
 refine pure_ (i := 4) (N := some 8) (v := ?_) (a' := ?_) #[true, true, true, true, true, false, false] rfl rfl (by kernel_rfl) (fun _ _ _ h => h) (Or.inl ⟨by rfl, ?_⟩) ?_ ?_
 rotate_left
 ·intro w'
  go_simp
  with_reducible rfl
 rotate_left
 ·simp only [Act.put, sA, sZ, sS, i64_w, i32_w]
  rfl
 refine last_ (i := 5) (N := none) #[true, true, true, true, true, true, false] rfl rfl (by kernel_rfl) (by decide) (fun K hK => ?_)
 have k_gR_0 := bC BK_gR 0 (.int .i64 0) rfl
 have k_gR_1 := bC BK_gR 1 (.int .i64 0) rfl
 have k_gR_2 := bC BK_gR 2 (.slice none 0 0) rfl
 have f_gR_0 := bF BK_gR 0
 have f_gR_1 := bF BK_gR 1
 have f_gR_2 := bF BK_gR 2
 refine skip_ (w1 := ?_) (by rfl) rfl ?_ ?_
 rotate_left
 ·go_simp
  rfl
 refine hK.out _ _ ?_
 clear hK K
 refine pure_ (i := 6) (N := some 3) (v := ?_) (a' := ?_) #[true, true, true, true, true, true, true] rfl rfl (by kernel_rfl) (fun _ _ _ h => h) (Or.inl ⟨by rfl, ?_⟩) ?_ ?_
 rotate_left
 ·intro w'
  go_simp
  with_reducible rfl
 rotate_left
 ·simp only [Act.put, sA, sZ, sS, i64_w, i32_w]
  rfl
 refine done_ (by kernel_rfl) ?_
 go_wp2
 refine bodyPost_ret (results_ct rfl _ _ gR 24 #[.int .i64 C, .int .i64 T', .slice A9 l'.length c9] (0, 0) _ rfl (blk_put (cs' := #[.int .i64 C, .int .i64 T', .slice A9 l'.length c9]) (blk_put (cs' := #[.int .i64 C, .int .i64 T', .slice none 0 0]) (blk_put (cs' := #[.int .i64 C, .int .i64 0, .slice none 0 0]) (BK_gR.out) 0 _ rfl) 1 _ rfl) 2 _ rfl) Tryz.underlying24 rfl (by kernel_rfl)) rfl ?_
 exact ⟨_, rfl, Kd.R_lower (R_old (p := ⟨gR, 2, none⟩) (R_old (p := ⟨gR, 1, none⟩) (R_old (p := ⟨gR, 0, none⟩) HQ.out LT _) LT _) LT _) LB, below_set (below_set (below_set HB.out GE_gR) GE_gR) GE_gR⟩
def object_Wish.f (a0_0 a0_1 a0_2 a0_3 a0_4 a0_5 a0_6 : Int) : Option (Int × Int × List Int × Int) := (object_wishes_3.f a0_0 a0_1 a0_2 a0_3 a0_4 a0_5 a0_6).bind fun m => (object_wishes_1.f a0_0 a0_1 a0_2 a0_3 a0_4 a0_5 a0_6).bind fun l' => some (if m then 9 else 0, if m then 2 else 0, if m then l' else [], if m then 0 else 2)
theorem object_Wish.calls (a0_0 a0_1 a0_2 a0_3 a0_4 a0_5 a0_6 r1 r2 : Int) (r3 : List Int) (r4 : Int) (w : World) (h : object_Wish.f a0_0 a0_1 a0_2 a0_3 a0_4 a0_5 a0_6 = some (r1, r2, r3, r4)) :
  Calls Tryz.prog 79 #[.agg #[.int .i64 a0_0, .int .i64 a0_1, .int .i64 a0_2, .int .i64 a0_3, .int .i64 a0_4, .int .i64 a0_5, .int .i64 a0_6]] w fun e w' => ∃ v, e = .returned (.tuple #[.agg #[.int .i64 r1, .int .i64 r2, v], .int .i64 r4]) ∧ Kd.R (Kd.int .i64) 2 w' w.heap.size (fun _ => True) v r3 ∧ Below w.heap.size w w' := by
 obtain ⟨m, hm, h⟩ := Option.bind_eq_some_iff.mp h
 obtain ⟨l', hw, h⟩ := Option.bind_eq_some_iff.mp h
 injection h with h
 simp only [Prod.mk.injEq] at h
 obtain ⟨rfl, rfl, rfl, rfl⟩ := h
 refine towWish a0_0 a0_1 a0_2 a0_3 a0_4 a0_5 a0_6 _ _ _ _ w (fun W hW  => ?_)
 exact objectFlow_run 9 2 7  _ a0_0 a0_1 a0_2 a0_3 a0_4 a0_5 a0_6 _ W (fun W' hW' => (object_wishes_3.calls a0_0 a0_1 a0_2 a0_3 a0_4 a0_5 a0_6 _ W' hm).mono (fun e w' h => ⟨h.1, toBelow h.2⟩)) (fun W' hW' => object_wishes_1.calls a0_0 a0_1 a0_2 a0_3 a0_4 a0_5 a0_6 _ W' hw)
def object_AsWish.f (a0_0 a0_1 : Int) (l0_2 : List Int) : Option (Int × Int × Int × Int × Int × Int × Int × Int) := if a0_0 = 9 ∧ a0_1 = 2 ∧ ((l0_2.length : Nat) : Int) = 7 then ((object_wishes_2.f l0_2).bind fun (x0, x1, x2, x3, x4, x5, x6) => (object_wishes_3.f x0 x1 x2 x3 x4 x5 x6).bind fun m => (object_wishes_1.f x0 x1 x2 x3 x4 x5 x6).bind fun l' => some (if m && decide (l' = l0_2) then x0 else 0, if m && decide (l' = l0_2) then x1 else 0, if m && decide (l' = l0_2) then x2 else 0, if m && decide (l' = l0_2) then x3 else 0, if m && decide (l' = l0_2) then x4 else 0, if m && decide (l' = l0_2) then x5 else 0, if m && decide (l' = l0_2) then x6 else 0, if m && decide (l' = l0_2) then 0 else 171)) else some (0, 0, 0, 0, 0, 0, 0, 171)
theorem object_AsWish.calls (a0_0 a0_1 : Int) (A0_2 : Option Addr) (c0_2 : Nat) (l0_2 : List Int) (r1 r2 r3 r4 r5 r6 r7 r8 : Int) (w : World) (hr0_2 : Kd.C (Kd.int .i64) w A0_2 l0_2.length l0_2) (hc0_2 : l0_2.length ≤ c0_2) (h : object_AsWish.f a0_0 a0_1 l0_2 = some (r1, r2, r3, r4, r5, r6, r7, r8)) :
  Calls Tryz.prog 27 #[.agg #[.int .i64 a0_0, .int .i64 a0_1, .slice A0_2 l0_2.length c0_2]] w fun e w' => e = .returned (.tuple #[.agg #[.int .i64 r1, .int .i64 r2, .int .i64 r3, .int .i64 r4, .int .i64 r5, .int .i64 r6, .int .i64 r7], .int .i64 r8]) ∧ Below w.heap.size w w' := by
 refine aswWish a0_0 a0_1 A0_2 l0_2.length c0_2 _ _ _ _ _ _ _ _ w (fun W hW  => ?_)
 unfold object_AsWish.f at h
 split at h
 ·rename_i hq
  obtain ⟨rfl, rfl, hlen⟩ := hq
  obtain ⟨⟨x0, x1, x2, x3, x4, x5, x6⟩, ht, h⟩ := Option.bind_eq_some_iff.mp h
  obtain ⟨m, hm, h⟩ := Option.bind_eq_some_iff.mp h
  obtain ⟨l', hw, h⟩ := Option.bind_eq_some_iff.mp h
  refine (asFlow_run 9 2 7 A0_2 c0_2 l0_2 l' x0 x1 x2 x3 x4 x5 x6 _ W (Kd.C_below hr0_2 hW) hc0_2 hlen (fun W' hW' => (object_wishes_2.calls A0_2 c0_2 l0_2 _ _ _ _ _ _ _ W' (Kd.C_below (Kd.C_below hr0_2 hW) hW') hc0_2 ht).mono (fun e w' h => ⟨h.1, toBelow h.2⟩)) (fun W' hW' => (object_wishes_3.calls x0 x1 x2 x3 x4 x5 x6 _ W' hm).mono (fun e w' h => ⟨h.1, toBelow h.2⟩)) (fun W' hW' => object_wishes_1.calls x0 x1 x2 x3 x4 x5 x6 _ W' hw)).mono ?_
  rintro e w' ⟨rfl, hb⟩
  injection h with h
  simp only [Prod.mk.injEq] at h
  obtain ⟨rfl, rfl, rfl, rfl, rfl, rfl, rfl, rfl⟩ := h
  refine ⟨?_, hb⟩
  cases (m && decide (l' = l0_2)) <;> rfl
 ·rename_i hq
  injection h with h
  simp only [Prod.mk.injEq] at h
  obtain ⟨rfl, rfl, rfl, rfl, rfl, rfl, rfl, rfl⟩ := h
  exact (asFlow_no 9 2 7 a0_0 a0_1 A0_2 c0_2 l0_2 W (by by_cases e1 : a0_0 = 9 <;> by_cases e2 : a0_1 = 2 <;> simp_all)).mono (fun e w' h => ⟨h.1, h.2⟩)
def object_senders_1.f (a0_0 : Int) (a0_1 : Int) : Option (List Int) := (object_list.f (([a0_0, a0_1] : List Int))).bind fun t1136 => (some t1136)
set_option maxHeartbeats 8000000 in
set_option maxRecDepth 100000 in
theorem object_senders_1.calls (a0_0 : Int) (a0_1 : Int) (r : List Int) (w : World) (h : object_senders_1.f a0_0 a0_1 = some r) :
  Calls Tryz.prog 192 #[.agg #[.int .i64 a0_0, .int .i64 a0_1]] w fun e w' => ∃ v0_ : Value, e = .returned (v0_) ∧ Kd.R (Kd.int .i64) 2 w' w.heap.size (fun _ => True) v0_ r ∧ Below w.heap.size w w' := by
 have hu66 := Tryz.underlying66
 have HB := Aside0.mk (Below.refl w.heap.size w)
 have H : ((object_list.f (([a0_0, a0_1] : List Int))).bind fun t1136 => (some t1136)) = some r := h
 clear h
 obtain ⟨y1133, hy1133⟩ : ∃ y_ : List Int, y_ = (([a0_0, a0_1] : List Int)) := ⟨_, rfl⟩
 replace H : ((object_list.f y1133).bind fun t1136 => (some t1136)) = some r := by first | (rw [hy1133]; with_reducible exact H) | (have H2_ := (Option.bind_some _ _).symm.trans H; rw [hy1133]; with_reducible exact H2_) | (have H2_ := (Option.bind_some _ _).symm.trans H; with_reducible exact H2_) | with_reducible exact H | (rw [hy1133]; exact H) | exact H
 have Ny1133 := Aside0.mk hy1133
 clear hy1133
 replace H := Option.bind_eq_some_iff.mp H
 obtain ⟨t1136, A20, H⟩ := H
 replace H : (some t1136) = some r := H
 have A2 := Aside0.mk A20
 clear A20
 obtain rfl := Option.some.inj H
 go_enter Tryz.func192, Tryz.ntmps192
 go_wp2_with (first | ((with_reducible refine gate_dst (N := 1) rfl ?_); refine box_event ?hg (N := 1) ?hd (cs := #[.int .i64 a0_0, .int .i64 a0_1]) (t := 66) ?hr ?_; (case hd => rfl); (case hg => rfl); (case hr => first | (go_simp; done) | (go_simp; rfl)); intro gb1132 hg w3 hbox hb; have n0_ := Aside0.mk (below_step (by repeat (first | (with_reducible first | exact HB.out | apply below_alloc | apply pw_below_drewN | apply below_drew1) | exact HB.out)) hb); have n1_ := Aside0.mk (hbox); have n2_ := Aside0.mk ((by rw [hg]; exact (below_size (by repeat (first | (with_reducible first | exact HB.out | apply below_alloc | apply pw_below_drewN | apply below_drew1) | exact HB.out))) : w.heap.size ≤ gb1132)); have n3_ := Aside0.mk ((by rw [hg]; exact (below_size (by repeat (first | (with_reducible first | exact HB.out | apply below_alloc | apply pw_below_drewN | apply below_drew1) | exact HB.out))) : w.heap.size ≤ gb1132)); clear HB; have HB := n0_; have BK1132 := n1_; have GW1132 := n2_; have GE1132 := n3_; clear n0_ n1_ n2_ n3_; clear hb hbox hg; have hcz4_0 := cZ BK1132.out 0 (.int .i64 a0_0) rfl; have hcz4_1 := cZ BK1132.out 1 (.int .i64 a0_1) rfl; have hfz4_0 := blk_frozen BK1132.out 0; have hfz4_1 := blk_frozen BK1132.out 1) | ((with_reducible refine gate_dst (N := 7) rfl ?_); refine Kd.R_lit (Kd.int .i64) _ 2 ?hg (N := 7) ?hd (xs := ([a0_0, a0_1] : List Int)) (inner := [.int .i64 a0_0, .int .i64 a0_1]) (ok := fun _ => True) (okp := fun _ => True) ?hr ?hp (fun _ hk => hk) trivial (Below.refl _ _) (Nat.le_refl _) (by simp) ?_; (case hd => rfl); (case hg => rfl); (case hr => first | (go_simp; done) | (go_simp; rfl)); (case hp => exact (Reps.one (show Kd.M (Kd.int .i64) _ _ _ a0_0 [.int .i64 a0_0] from rfl) (Reps.one (show Kd.M (Kd.int .i64) _ _ _ a0_1 [.int .i64 a0_1] from rfl) (Reps.none _ _)))); intro v1134 w5 ho6 hb hg_ hnew_; clear hg_ hnew_; (first | rw [← Ny1133.out] at ho6 | (simp only [Int.reduceToNat] at ho6; rw [← Ny1133.out] at ho6)); have n0_ := Aside0.mk (Kd.R_lower ho6 (below_size (by repeat (first | (with_reducible first | exact HB.out | apply below_alloc | apply pw_below_drewN | apply below_drew1 | refine below_set ?_ GE1132.out) | exact HB.out)))); have n1_ := Aside0.mk (blk_below (g := gb1132) (o := .cells #[.int .i64 a0_0, .int .i64 a0_1] 66 (0, 0)) (by (with_reducible repeat (first | refine blk_drewN ?_ _ | refine blk_drew ?_ | refine blk_alloc ?_ _)); exact BK1132.out) hb); have n2_ := Aside0.mk (below_step (by repeat (first | (with_reducible first | exact HB.out | apply below_alloc | apply pw_below_drewN | apply below_drew1 | refine below_set ?_ GE1132.out) | exact HB.out)) hb); clear BK1132; clear HB; have HO1135 := n0_; have BK1132 := n1_; have HB := n2_; clear n0_ n1_ n2_; clear hb ho6; obtain ⟨Ao7, co7, eo7⟩ := Kd.R_slice HO1135.out; subst eo7) | ((with_reducible refine gate_callee (f := 114) rfl ?_); refine goesL_ (some 8) rfl rfl Tryz.func114 (by kernel_rfl) rfl #[.slice Ao7 y1133.length co7] rfl (by (try simp only [mT, mC, mN]); first | done | rfl | (simp only [List.length_drop, List.length_take]; rfl)) ?_; (with_reducible refine (object_list.calls (fun k_ => some k_ = (.slice Ao7 y1133.length co7 : Value).ownBlock) (.slice Ao7 y1133.length co7) y1133 t1136 w _ ?side1 ?side2 A2.out).mono ?_); (case side1 => repeat (first | (with_reducible first | exact HB.out | apply below_alloc | apply pw_below_drewN | apply below_drew1 | refine below_set ?_ GE1132.out) | exact HB.out)); (case side2 => exact Kd.R_tight rfl HO1135.out); rintro e w8 ⟨v1137, rfl, ho0, hb, hkp⟩; refine ⟨_, rfl, ?_⟩; have n0_ := Aside0.mk (blk_kept (by (with_reducible repeat (first | refine blk_drewN ?_ _ | refine blk_drew ?_ | refine blk_alloc ?_ _)); exact BK1132.out) hkp (fun hs_ => (fun e_ => (Kd.R_ne HO1135.out BK1132.out (by decide)) e_) hs_)); have n1_ := Aside0.mk (Kd.R_mono (ok' := fun k_ => True) ho0 (fun k_ hk_ => trivial)); have n2_ := Aside0.mk (hb); clear BK1132; clear HB; clear HO1135; have BK1132 := n0_; have HO1138 := n1_; have HB := n2_; clear n0_ n1_ n2_; (try clear hb); (try clear hkp); (try clear ho0)))
 go_ret
 exact ⟨_, by first | rfl | (simp [errW_none, errW_some] <;> rfl) | (simp [*, errW_none, errW_some] <;> rfl), by (with_reducible repeat (first | apply Kd.R_alloc | apply Kd.R_drewN | apply Kd.R_drew)); exact HO1138.out, by repeat (first | (with_reducible first | exact HB.out | apply below_alloc | apply pw_below_drewN | apply below_drew1 | refine below_set ?_ GE1132.out) | exact HB.out)⟩
def object_senders_2.f (l0 : List Int) : Option (Int × Int) := if 0 < (l0.length : Int) then (if 1 < (l0.length : Int) then (some (rd l0 0, rd l0 1)) else (none)) else (none)
def object_senders_2.T1 : Bool × List (List Nat × List Nat) := (true, [([], []), ([0], [0]), ([1], [1]), ([], []), ([3], [3]), ([4], [4]), ([2, 5], [2, 5]), ([6, 0, 1, 2, 3, 4, 5, 6], [6])])
def object_senders_2.B1 : List Nat := [0, 1, 3, 0, 8, 24, 63, 127]
theorem object_senders_2.tab1 : rtab .any (opsOf Tryz.f193 1) = object_senders_2.T1 := by kernel_rfl
theorem object_senders_2.bits1 : waitsOk object_senders_2.T1.2 object_senders_2.B1 = true := by kernel_rfl
set_option maxHeartbeats 8000000 in
set_option maxRecDepth 100000 in
theorem object_senders_2.calls (A0 : Option Addr) (c0 : Nat) (l0 : List Int) (r1 : Int) (r2 : Int) (w : World) (hr0 : Kd.C (Kd.int .i64) w A0 l0.length l0) (hc0 : l0.length ≤ c0) (h : object_senders_2.f l0 = some (r1, r2)) :
  Calls Tryz.prog 193 #[.slice A0 l0.length c0] w fun e w' => e = .returned (.agg #[.int .i64 r1, .int .i64 r2]) ∧ Below w.heap.size w w' := by
 have hu66 := Tryz.underlying66
 have HR0 := Aside0.mk hr0
 have HC0 := Aside0.mk hc0
 clear hr0 hc0
 have HB := Aside0.mk (Below.refl w.heap.size w)
 have H : (if 0 < (l0.length : Int) then (if 1 < (l0.length : Int) then (some (rd l0 0, rd l0 1)) else (none)) else (none)) = some (r1, r2) := h
 clear h
 by_cases c2 : 0 < (l0.length : Int)
 ·rw [if_pos c2] at H
  have c2b0 : decide (0 < (l0.length : Int)) = true := decide_eq_true c2
  have c2b1 : decide (0 < l0.length) = true := decide_eq_true (by omega)
  clear c2
  by_cases c3 : 1 < (l0.length : Int)
  ·rw [if_pos c3] at H
   have c3b0 : decide (1 < (l0.length : Int)) = true := decide_eq_true c3
   have c3b1 : decide (1 < l0.length) = true := decide_eq_true (by omega)
   clear c3
   simp only [Option.some.injEq, Prod.mk.injEq] at H
   obtain ⟨rfl, rfl⟩ := H
   go_enter Tryz.func193, Tryz.ntmps193
   try go_wp2_with (first | ((with_reducible refine gate_dst (N := 2) rfl ?_); refine box_event ?hg (N := 2) ?hd (cs := #[.int .i64 0, .int .i64 0]) (t := 66) ?hr ?_; (case hd => rfl); (case hg => rfl); (case hr => first | (go_simp; done) | (go_simp; rfl)); intro gb1139 hg w4 hbox hb; have n0_ := Aside0.mk (below_step (by repeat (first | (with_reducible first | exact HB.out | apply below_alloc | apply pw_below_drewN | apply below_drew1) | exact HB.out)) hb); have n1_ := Aside0.mk (hbox); have n2_ := Aside0.mk ((by rw [hg]; exact (below_size (by repeat (first | (with_reducible first | exact HB.out | apply below_alloc | apply pw_below_drewN | apply below_drew1) | exact HB.out))) : w.heap.size ≤ gb1139)); have n3_ := Aside0.mk ((by rw [hg]; exact (below_size (by repeat (first | (with_reducible first | exact HB.out | apply below_alloc | apply pw_below_drewN | apply below_drew1) | exact HB.out))) : w.heap.size ≤ gb1139)); clear HB; have HB := n0_; have BK1139 := n1_; have GW1139 := n2_; have GE1139 := n3_; clear n0_ n1_ n2_ n3_; clear hb hbox hg))
   have n0_ := Aside0.mk (blk_drew BK1139.out)
   have n1_ := Aside0.mk (below_drew1 HB.out)
   clear BK1139
   clear HB
   have BK1139 := n0_
   have HB := n1_
   clear n0_ n1_
   have p1140 : 0 ≤ (0 : Int) := (by omega)
   have q1140 : 0 < (l0.length : Int) := of_decide_eq_true (by first | (with_reducible assumption) | assumption)
   obtain ⟨ad1140, e1140, hx1140_0⟩ := Kd.at_int HR0.out 0 p1140 q1140
   have hw1140_0 := hx1140_0
   (try rw [show ((0 : Int)).toNat = 0 from rfl] at hw1140_0)
   (try rw [show 0 * 1 = 0 from rfl] at hw1140_0)
   (try rw [Addr.add_zero'] at hw1140_0)
   cases e1140
   have qi1140 : (0 < l0.length) = True := eq_true (by omega)
   (try rw [show ((0 : Int)).toNat = 0 from rfl] at hx1140_0)
   (try rw [Addr.add_zero'] at hx1140_0)
   replace hx1140_0 := (HB.out.cell (World.block_lt_of_cell? w _ hx1140_0)).trans hx1140_0
   replace p1140 := eq_true p1140
   replace q1140 := eq_true q1140
   have p1141 : 0 ≤ (1 : Int) := (by omega)
   have q1141 : 1 < (l0.length : Int) := of_decide_eq_true (by first | (with_reducible assumption) | assumption)
   obtain ⟨ad1141, e1141, hx1141_0⟩ := Kd.at_int HR0.out 1 p1141 q1141
   have hw1141_0 := hx1141_0
   (try rw [show ((1 : Int)).toNat = 1 from rfl] at hw1141_0)
   (try rw [show 1 * 1 = 1 from rfl] at hw1141_0)
   (try simp only [Nat.reduceMul, Nat.reduceEqDiff, Go.Addr.add, ↓reduceIte] at hw1141_0)
   obtain rfl : ad1140 = ad1141 := (by injection e1141)
   (try simp only [show (1 : Int).toNat = 1 from rfl, Nat.reduceMul, Nat.reduceEqDiff, Go.Addr.add, ↓reduceIte] at hx1141_0)
   have qi1141 : (1 < l0.length) = True := eq_true (by omega)
   (try rw [show ((1 : Int)).toNat = 1 from rfl] at hx1141_0)
   replace hx1141_0 := (HB.out.cell (World.block_lt_of_cell? w _ hx1141_0)).trans hx1141_0
   replace p1141 := eq_true p1141
   replace q1141 := eq_true q1141
   refine start_ (n := 8) (S := fun w' => w'.cell? ad1140 = some (.int .i64 (rd l0 0)) ∧ w'.cell? ⟨ad1140.block, ad1140.off + 1, none⟩ = some (.int .i64 (rd l0 1))) (ds := []) #[false, false, false, false, false, false, false, false] (by kernel_rfl) rfl rfl ⟨((HB.out.cell (World.block_lt_of_cell? w _ hw1140_0)).trans hw1140_0), ((HB.out.cell (World.block_lt_of_cell? w _ hw1141_0)).trans hw1141_0)⟩ (fun hHeld => ?_); refine with_tabW object_senders_2.tab1 object_senders_2.bits1 (fun HT_ HW_ => ?_)
   generalize w4.drew = w5 at BK1139 HB hx1140_0 hx1141_0 hHeld ⊢
   refine pure_ (i := 0) (N := some 3) (v := ?_) (a' := ?_) #[true, false, false, false, false, false, false, false] rfl rfl (any_of HT_.out (by kernel_rfl)) (fun _ _ _ h => h) (Or.inl ⟨by rfl, ?_⟩) ?_ ?_
   rotate_left
   ·intro w'
    go_simp
    with_reducible rfl
   rotate_left
   ·simp only [Act.put, sA, sZ, sS, i64_w, i32_w]
    rfl
   refine pure_ (i := 1) (N := some 4) (v := ?_) (a' := ?_) #[true, true, false, false, false, false, false, false] rfl rfl (any_of HT_.out (by kernel_rfl)) (fun _ _ _ h => h) (Or.inl ⟨by rfl, ?_⟩) ?_ ?_
   rotate_left
   ·intro w'
    go_simp
    with_reducible rfl
   rotate_left
   ·simp only [Act.put, sA, sZ, sS, i64_w, i32_w]
    rfl
   refine pure_ (i := 3) (N := some 6) (v := ?_) (a' := ?_) #[true, true, false, true, false, false, false, false] rfl rfl (any_of HT_.out (by kernel_rfl)) (fun _ _ _ h => h) (Or.inl ⟨by rfl, ?_⟩) ?_ ?_
   rotate_left
   ·intro w'
    go_simp
    with_reducible rfl
   rotate_left
   ·simp only [Act.put, sA, sZ, sS, i64_w, i32_w]
    rfl
   refine pure_ (i := 4) (N := some 7) (v := ?_) (a' := ?_) #[true, true, false, true, true, false, false, false] rfl rfl (any_of HT_.out (by kernel_rfl)) (fun _ _ _ h => h) (Or.inl ⟨by rfl, ?_⟩) ?_ ?_
   rotate_left
   ·intro w'
    go_simp
    with_reducible rfl
   rotate_left
   ·simp only [Act.put, sA, sZ, sS, i64_w, i32_w]
    rfl
   refine take_ (i := 2) (N := some 5) (v := ?_) (a' := ?_) #[true, true, true, true, true, false, false, false] rfl rfl (take_ofW HT_.out HW_.out (by kernel_rfl)) (fun _ _ _ h => h) (Or.inl ⟨by rfl, ?_⟩) hHeld ?_ ?_
   rotate_left
   ·rintro w' ⟨s0, s1⟩
    go_simp
    with_reducible rfl
   rotate_left
   ·simp only [Act.put, sA, sZ, sS, i64_w, i32_w]
    rfl
   refine take_ (i := 5) (N := some 8) (v := ?_) (a' := ?_) #[true, true, true, true, true, true, false, false] rfl rfl (take_ofW HT_.out HW_.out (by kernel_rfl)) (fun _ _ _ h => h) (Or.inl ⟨by rfl, ?_⟩) hHeld ?_ ?_
   rotate_left
   ·rintro w' ⟨s0, s1⟩
    go_simp
    with_reducible rfl
   rotate_left
   ·simp only [Act.put, sA, sZ, sS, i64_w, i32_w]
    rfl
   refine pure_ (i := 6) (N := some 9) (v := ?_) (a' := ?_) #[true, true, true, true, true, true, true, false] rfl rfl (any_of HT_.out (by kernel_rfl)) (fun _ _ _ h => h) (Or.inl ⟨by rfl, ?_⟩) ?_ ?_
   rotate_left
   ·intro w'
    go_simp
    with_reducible rfl
   rotate_left
   ·simp only [Act.put, sA, sZ, sS, i64_w, i32_w]
    rfl
   refine one_ (i := 7) (N := none) #[true, true, true, true, true, true, true, true] rfl rfl (one_of HT_.out (by kernel_rfl)) (by decide) (fun K hK => ?_)
   have hs6 := cZ BK1139.out 0 (.int .i64 0) rfl
   have hfs6 := blk_frozen BK1139.out 0
   have hs7 := cZ BK1139.out 1 (.int .i64 0) rfl
   have hfs7 := blk_frozen BK1139.out 1
   refine skip_ (w1 := ?_) (by rfl) rfl ?_ ?_
   rotate_left
   ·go_simp
    rfl
   refine hK.out _ _ ⟨((cell_far (p := ⟨gb1139, _, none⟩) (by first | exact Nat.ne_of_lt (Nat.lt_of_lt_of_le (by have := World.block_lt_of_cell? _ _ hw1140_0; first | rwa [add_block] at this | exact this) GW1139.out) | (rw [add_block]; exact Nat.ne_of_lt (Nat.lt_of_lt_of_le (by have := World.block_lt_of_cell? _ _ hw1140_0; first | rwa [add_block] at this | exact this) GW1139.out)) | (show (Addr.add _ _).block ≠ _; rw [add_block]; exact Nat.ne_of_lt (Nat.lt_of_lt_of_le (by have := World.block_lt_of_cell? _ _ hw1140_0; first | rwa [add_block] at this | exact this) GW1139.out)) | (dsimp only; exact Nat.ne_of_lt (Nat.lt_of_lt_of_le (by have := World.block_lt_of_cell? _ _ hw1140_0; first | rwa [add_block] at this | exact this) GW1139.out))) _).trans (((cell_far (p := ⟨gb1139, _, none⟩) (by first | exact Nat.ne_of_lt (Nat.lt_of_lt_of_le (by have := World.block_lt_of_cell? _ _ hw1140_0; first | rwa [add_block] at this | exact this) GW1139.out) | (rw [add_block]; exact Nat.ne_of_lt (Nat.lt_of_lt_of_le (by have := World.block_lt_of_cell? _ _ hw1140_0; first | rwa [add_block] at this | exact this) GW1139.out)) | (show (Addr.add _ _).block ≠ _; rw [add_block]; exact Nat.ne_of_lt (Nat.lt_of_lt_of_le (by have := World.block_lt_of_cell? _ _ hw1140_0; first | rwa [add_block] at this | exact this) GW1139.out)) | (dsimp only; exact Nat.ne_of_lt (Nat.lt_of_lt_of_le (by have := World.block_lt_of_cell? _ _ hw1140_0; first | rwa [add_block] at this | exact this) GW1139.out))) _).trans (hHeld.1)))), ((cell_far (p := ⟨gb1139, _, none⟩) (by first | exact Nat.ne_of_lt (Nat.lt_of_lt_of_le (by have := World.block_lt_of_cell? _ _ hw1141_0; first | rwa [add_block] at this | exact this) GW1139.out) | (rw [add_block]; exact Nat.ne_of_lt (Nat.lt_of_lt_of_le (by have := World.block_lt_of_cell? _ _ hw1141_0; first | rwa [add_block] at this | exact this) GW1139.out)) | (show (Addr.add _ _).block ≠ _; rw [add_block]; exact Nat.ne_of_lt (Nat.lt_of_lt_of_le (by have := World.block_lt_of_cell? _ _ hw1141_0; first | rwa [add_block] at this | exact this) GW1139.out)) | (dsimp only; exact Nat.ne_of_lt (Nat.lt_of_lt_of_le (by have := World.block_lt_of_cell? _ _ hw1141_0; first | rwa [add_block] at this | exact this) GW1139.out))) _).trans (((cell_far (p := ⟨gb1139, _, none⟩) (by first | exact Nat.ne_of_lt (Nat.lt_of_lt_of_le (by have := World.block_lt_of_cell? _ _ hw1141_0; first | rwa [add_block] at this | exact this) GW1139.out) | (rw [add_block]; exact Nat.ne_of_lt (Nat.lt_of_lt_of_le (by have := World.block_lt_of_cell? _ _ hw1141_0; first | rwa [add_block] at this | exact this) GW1139.out)) | (show (Addr.add _ _).block ≠ _; rw [add_block]; exact Nat.ne_of_lt (Nat.lt_of_lt_of_le (by have := World.block_lt_of_cell? _ _ hw1141_0; first | rwa [add_block] at this | exact this) GW1139.out)) | (dsimp only; exact Nat.ne_of_lt (Nat.lt_of_lt_of_le (by have := World.block_lt_of_cell? _ _ hw1141_0; first | rwa [add_block] at this | exact this) GW1139.out))) _).trans (hHeld.2))))⟩ (fun hHeld => ?_)
   clear hK K
   refine done_ (done_of HT_.out (by kernel_rfl)) ?_
   try go_wp2
   refine bodyPost_ret (results_cell_row rfl _ _ gb1139 66 #[.int .i64 (rd l0 0), .int .i64 (rd l0 1)] (0, 0) _ rfl (by (with_reducible repeat (first | refine blk_drewN ?_ _ | refine blk_drew ?_ | refine blk_alloc ?_ _)); refine blk_put (cs := #[.int .i64 (rd l0 0), .int .i64 0]) ?_ 1 _ rfl; (with_reducible repeat (first | refine blk_drewN ?_ _ | refine blk_drew ?_ | refine blk_alloc ?_ _)); refine blk_put (cs := #[.int .i64 0, .int .i64 0]) ?_ 0 _ rfl; (with_reducible repeat (first | refine blk_drewN ?_ _ | refine blk_drew ?_ | refine blk_alloc ?_ _)); exact BK1139.out) Tryz.underlying66 rfl (by kernel_rfl)) rfl ?_
   exact ⟨by first | rfl | (simp [errW_none, errW_some] <;> rfl) | (simp [*, errW_none, errW_some] <;> rfl), by repeat (first | (with_reducible first | exact HB.out | apply below_alloc | apply pw_below_drewN | apply below_drew1 | refine below_set ?_ GE1139.out) | exact HB.out)⟩
  ·rw [if_neg c3] at H
   exact absurd H (by simp)
 ·rw [if_neg c2] at H
  exact absurd H (by simp)
def object_senders_3.f (a0_0 : Int) (a0_1 : Int) : Option (Bool) := (object_node.f a0_0).bind fun t1143 => (if t1143 = true then ((object_port.f a0_1).bind fun t1144 => (some t1144)) else (some false))
set_option maxHeartbeats 8000000 in
set_option maxRecDepth 100000 in
theorem object_senders_3.calls (a0_0 : Int) (a0_1 : Int) (r : Bool) (w : World) (h : object_senders_3.f a0_0 a0_1 = some r) :
  Calls Tryz.prog 194 #[.agg #[.int .i64 a0_0, .int .i64 a0_1]] w fun e w' => e = .returned (.bool r) ∧ Below w.heap.size w w' := by
 have hu66 := Tryz.underlying66
 have HB := Aside0.mk (Below.refl w.heap.size w)
 have H : ((object_node.f a0_0).bind fun t1143 => (if t1143 = true then ((object_port.f a0_1).bind fun t1144 => (some t1144)) else (some false))) = some r := h
 clear h
 replace H := Option.bind_eq_some_iff.mp H
 obtain ⟨t1143, A20, H⟩ := H
 replace H : (if t1143 = true then ((object_port.f a0_1).bind fun t1144 => (some t1144)) else (some false)) = some r := H
 have A2 := Aside0.mk A20
 clear A20
 by_cases c3 : t1143 = true
 ·subst c3
  have H1 : ((object_port.f a0_1).bind fun t1144 => (some t1144)) = some r := by rw [if_pos rfl] at H; exact H
  clear H
  have H := H1
  clear H1
  replace H := Option.bind_eq_some_iff.mp H
  obtain ⟨t1144, A40, H⟩ := H
  replace H : (some t1144) = some r := H
  have A4 := Aside0.mk A40
  clear A40
  obtain rfl := Option.some.inj H
  go_enter Tryz.func194, Tryz.ntmps194
  go_wp2_with (first | ((with_reducible refine gate_dst (N := 1) rfl ?_); refine box_event ?hg (N := 1) ?hd (cs := #[.int .i64 a0_0, .int .i64 a0_1]) (t := 66) ?hr ?_; (case hd => rfl); (case hg => rfl); (case hr => first | (go_simp; done) | (go_simp; rfl)); intro gb1142 hg w5 hbox hb; have n0_ := Aside0.mk (below_step (by repeat (first | (with_reducible first | exact HB.out | apply below_alloc | apply pw_below_drewN | apply below_drew1) | exact HB.out)) hb); have n1_ := Aside0.mk (hbox); have n2_ := Aside0.mk ((by rw [hg]; exact (below_size (by repeat (first | (with_reducible first | exact HB.out | apply below_alloc | apply pw_below_drewN | apply below_drew1) | exact HB.out))) : w.heap.size ≤ gb1142)); have n3_ := Aside0.mk ((by rw [hg]; exact (below_size (by repeat (first | (with_reducible first | exact HB.out | apply below_alloc | apply pw_below_drewN | apply below_drew1) | exact HB.out))) : w.heap.size ≤ gb1142)); clear HB; have HB := n0_; have BK1142 := n1_; have GW1142 := n2_; have GE1142 := n3_; clear n0_ n1_ n2_ n3_; clear hb hbox hg; have hcz6_0 := cZ BK1142.out 0 (.int .i64 a0_0) rfl; have hcz6_1 := cZ BK1142.out 1 (.int .i64 a0_1) rfl; have hfz6_0 := blk_frozen BK1142.out 0; have hfz6_1 := blk_frozen BK1142.out 1) | ((with_reducible refine gate_callee (f := 117) rfl ?_); refine goesL_ (some 5) rfl rfl Tryz.func117 (by kernel_rfl) rfl #[.int .i64 a0_0] rfl (by (try simp only [mT, mC, mN]); first | done | rfl | (simp only [List.length_drop, List.length_take]; rfl)) ?_; (with_reducible refine (object_node.calls a0_0 true _ A2.out).mono ?_); rintro e w' ⟨rfl, ⟨nd, rfl⟩⟩; refine ⟨_, rfl, ?_⟩) | (go_at_call 118; (with_reducible refine (object_port.calls a0_1 t1144 _ A4.out).mono ?_); rintro e w' ⟨rfl, ⟨nd, rfl⟩⟩))
  go_ret
  exact ⟨by first | rfl | (simp [errW_none, errW_some] <;> rfl) | (simp [*, errW_none, errW_some] <;> rfl), by repeat (first | (with_reducible first | exact HB.out | apply below_alloc | apply pw_below_drewN | apply below_drew1 | refine below_set ?_ GE1142.out) | exact HB.out)⟩
 ·replace c3 := Bool.eq_false_iff.mpr c3
  subst c3
  have H1 : (some false) = some r := by rw [if_neg (show ¬ (false = true) by decide)] at H; exact H
  clear H
  have H := H1
  clear H1
  obtain rfl := Option.some.inj H
  go_enter Tryz.func194, Tryz.ntmps194
  go_wp2_with (first | ((with_reducible refine gate_dst (N := 1) rfl ?_); refine box_event ?hg (N := 1) ?hd (cs := #[.int .i64 a0_0, .int .i64 a0_1]) (t := 66) ?hr ?_; (case hd => rfl); (case hg => rfl); (case hr => first | (go_simp; done) | (go_simp; rfl)); intro gb1142 hg w7 hbox hb; have n0_ := Aside0.mk (below_step (by repeat (first | (with_reducible first | exact HB.out | apply below_alloc | apply pw_below_drewN | apply below_drew1) | exact HB.out)) hb); have n1_ := Aside0.mk (hbox); have n2_ := Aside0.mk ((by rw [hg]; exact (below_size (by repeat (first | (with_reducible first | exact HB.out | apply below_alloc | apply pw_below_drewN | apply below_drew1) | exact HB.out))) : w.heap.size ≤ gb1142)); have n3_ := Aside0.mk ((by rw [hg]; exact (below_size (by repeat (first | (with_reducible first | exact HB.out | apply below_alloc | apply pw_below_drewN | apply below_drew1) | exact HB.out))) : w.heap.size ≤ gb1142)); clear HB; have HB := n0_; have BK1142 := n1_; have GW1142 := n2_; have GE1142 := n3_; clear n0_ n1_ n2_ n3_; clear hb hbox hg; have hcz8_0 := cZ BK1142.out 0 (.int .i64 a0_0) rfl; have hcz8_1 := cZ BK1142.out 1 (.int .i64 a0_1) rfl; have hfz8_0 := blk_frozen BK1142.out 0; have hfz8_1 := blk_frozen BK1142.out 1) | ((with_reducible refine gate_callee (f := 117) rfl ?_); refine goesL_ (some 5) rfl rfl Tryz.func117 (by kernel_rfl) rfl #[.int .i64 a0_0] rfl (by (try simp only [mT, mC, mN]); first | done | rfl | (simp only [List.length_drop, List.length_take]; rfl)) ?_; (with_reducible refine (object_node.calls a0_0 false _ A2.out).mono ?_); rintro e w' ⟨rfl, ⟨nd, rfl⟩⟩; refine ⟨_, rfl, ?_⟩))
  go_ret
  exact ⟨by first | rfl | (simp [errW_none, errW_some] <;> rfl) | (simp [*, errW_none, errW_some] <;> rfl), by repeat (first | (with_reducible first | exact HB.out | apply below_alloc | apply pw_below_drewN | apply below_drew1 | refine below_set ?_ GE1142.out) | exact HB.out)⟩
end Go.Proofs.YtecghmlojllkdaaGreat.P

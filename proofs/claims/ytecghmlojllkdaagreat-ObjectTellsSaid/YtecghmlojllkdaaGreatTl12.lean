import Derived.Test.YtecghmlojllkdaaGreatTl10
import Derived.Test.YtecghmlojllkdaaGreatTl11
import Derived.Test.YtecghmlojllkdaaGreatTl6
import Derived.Test.YtecghmlojllkdaaGreatTl1
import Derived.Test.YtecghmlojllkdaaGreatTl5
namespace Go.Proofs.YtecghmlojllkdaaGreat.P
open Go.RowKit Go.Proofs.YtecghmlojllkdaaGreatW.PrintWords Go.Proofs.YtecghmlojllkdaaGreatW.PrintLast
set_option linter.unusedVariables false
set_option linter.unusedSimpArgs false
set_option maxRecDepth 100000
set_option maxHeartbeats 1600000 in
theorem ctorHop (w : World) : Calls Tryz.prog 51 #[] w fun e w' => e = .returned (.agg #[.int .i64 3, .int .i64 1, .int .i64 2, .func (.func 120) #[] #[], .func (.func 121) #[] #[], .func (.func 122) #[] #[]]) ∧ Below w.heap.size w w' := by
 go_enter Tryz.func51, Tryz.ntmps51
 go_wp2
 exact bodyPost_ret (v := .agg #[.int .i64 3, .int .i64 1, .int .i64 2, .func (.func 120) #[] #[], .func (.func 121) #[] #[], .func (.func 122) #[] #[]]) (by simp [results, Tryz.results51, go_sem]) rfl ⟨rfl, (Below.refl _ _).alloc (Nat.le_refl _) _⟩
set_option maxHeartbeats 6400000 in
theorem aswHop (c t : Int) (A0 : Option Addr) (n0 c0 : Nat) (y0 y1 E : Int) (w : World)
  (hcall : ∀ W, Below w.heap.size w W → Calls Tryz.prog 52 #[.agg #[.int .i64 3, .int .i64 1, .int .i64 2, .func (.func 120) #[] #[], .func (.func 121) #[] #[], .func (.func 122) #[] #[]], .agg #[.int .i64 c, .int .i64 t, .slice A0 n0 c0]] W fun e w' => e = .returned (.tuple #[.agg #[.int .i64 y0, .int .i64 y1], .int .i64 E]) ∧ Below W.heap.size W w') :
  Calls Tryz.prog 15 #[.agg #[.int .i64 c, .int .i64 t, .slice A0 n0 c0]] w fun e w' => e = .returned (.tuple #[.agg #[.int .i64 y0, .int .i64 y1], .int .i64 E]) ∧ Below w.heap.size w w' := by
 have HC := Lib.hid hcall
 clear hcall
 have HB := Lib.hid (Below.refl w.heap.size w)
 go_enter Tryz.func15, Tryz.ntmps15
 go_wp2_with (first | ((with_reducible refine gate_dst (N := 1) rfl ?_); refine box_event ?hg (N := 1) ?hd (cs := #[.int .i64 c, .int .i64 t, .slice A0 n0 c0]) (t := 24) ?hr ?_; (case hd => rfl); (case hg => rfl); (case hr => first | (go_simp; done) | (go_simp; rfl)); intro gO hg w1 hbox hb; have GE_gO : w.heap.size ≤ gO := (by rw [hg]; exact below_size HB.out); replace HB := Lib.hid (below_step HB.out hb); have BK_gO := Lib.hid hbox; clear hb hbox hg) | ((with_reducible refine gate_dst (N := 2) rfl ?_); refine box_event ?hg (N := 2) ?hd (cs := #[.int .i64 0, .int .i64 0]) (t := 35) ?hr ?_; (case hd => rfl); (case hg => rfl); (case hr => first | (go_simp; done) | (go_simp; rfl)); intro gR hg w2 hbox hb; have GE_gR : w.heap.size ≤ gR := (by rw [hg]; exact below_size HB.out); replace HB := Lib.hid (below_step HB.out hb); replace BK_gO := bB BK_gO hb; have BK_gR := Lib.hid hbox; clear hb hbox hg))
 replace HB := Lib.hid (below_drew1 HB.out)
 replace BK_gO := bD BK_gO
 replace BK_gR := bD BK_gR
 refine start_ (n := 7) (S := fun w' => w'.cell? ⟨gO, 0, none⟩ = some (.int .i64 c) ∧ w'.cell? ⟨gO, 1, none⟩ = some (.int .i64 t) ∧ w'.cell? ⟨gO, 2, none⟩ = some (.slice A0 n0 c0)) (ds := [5]) #[false, false, false, false, false, false, false] (by kernel_rfl) rfl rfl ⟨((blk_cell BK_gO.out 0).trans rfl), ((blk_cell BK_gO.out 1).trans rfl), ((blk_cell BK_gO.out 2).trans rfl)⟩ (fun hHeld => ?_)
 generalize w2.drew = w3 at HB BK_gO BK_gR hHeld ⊢
 refine take_ (i := 1) (N := some 5) (v := ?_) (a' := ?_) #[false, true, false, false, false, false, false] rfl rfl (by kernel_rfl) (fun _ _ _ h => h) (Or.inl ⟨by rfl, ?_⟩) hHeld ?_ ?_
 rotate_left
 ·rintro w' ⟨s0, s1, s2⟩
  go_simp
  with_reducible rfl
 rotate_left
 ·simp only [Act.put, sA, sZ, sS, i64_w, i32_w]
  rfl
 refine one_ (i := 0) (N := some 4) #[true, true, false, false, false, false, false] rfl rfl (by kernel_rfl) (by decide) (fun K hK => ?_)
 refine goes_ Tryz.func51 (by kernel_rfl) rfl #[] (by rfl) rfl rfl (by first | rfl | (simp only [List.map_toArray, List.map_nil]; done) | (simp only [List.map_toArray, List.map_nil]; rfl)) ?_
 with_reducible refine (ctorHop _).mono ?_
 rintro e w4 ⟨rfl, hb⟩
 refine ⟨_, rfl, ?_⟩
 replace HB := Lib.hid (below_step HB.out hb)
 replace BK_gO := bB BK_gO hb
 replace BK_gR := bB BK_gR hb
 clear hb
 refine hK.out _ _ ⟨((blk_cell BK_gO.out 0).trans rfl), ((blk_cell BK_gO.out 1).trans rfl), ((blk_cell BK_gO.out 2).trans rfl)⟩ (fun hHeld => ?_)
 clear hK K
 refine norm_ (a' := ?_) ?_ ?_
 rotate_left
 ·show Act.put _ (some 4) _ = _
  simp only [Act.put, sA, sZ, sS, i64_w, i32_w]
  rfl
 refine one_ (i := 2) (N := some 6) #[true, true, true, false, false, false, false] rfl rfl (by kernel_rfl) (by decide) (fun K hK => ?_)
 refine goes_ Tryz.func52 (by kernel_rfl) rfl #[.agg #[.int .i64 3, .int .i64 1, .int .i64 2, .func (.func 120) #[] #[], .func (.func 121) #[] #[], .func (.func 122) #[] #[]], .agg #[.int .i64 c, .int .i64 t, .slice A0 n0 c0]] (by rfl) rfl rfl (by simp only [mT, mC, mN]; rfl) ?_
 with_reducible refine (HC.out _ HB.out).mono ?_
 rintro e w5 ⟨rfl, hb⟩
 refine ⟨_, rfl, ?_⟩
 replace HB := Lib.hid (below_step HB.out hb)
 replace BK_gO := bB BK_gO hb
 replace BK_gR := bB BK_gR hb
 clear hb
 refine hK.out _ _ ⟨((blk_cell BK_gO.out 0).trans rfl), ((blk_cell BK_gO.out 1).trans rfl), ((blk_cell BK_gO.out 2).trans rfl)⟩ (fun hHeld => ?_)
 clear hK K
 refine norm_ (a' := ?_) ?_ ?_
 rotate_left
 ·show Act.put _ (some 6) _ = _
  simp only [Act.put, sA, sZ, sS, i64_w, i32_w]
  rfl
 refine pure_ (i := 3) (N := some 7) (v := ?_) (a' := ?_) #[true, true, true, true, false, false, false] rfl rfl (by kernel_rfl) (fun _ _ _ h => h) (Or.inl ⟨by rfl, ?_⟩) ?_ ?_
 rotate_left
 ·intro w'
  go_simp
  with_reducible rfl
 rotate_left
 ·simp only [Act.put, sA, sZ, sS, i64_w, i32_w]
  rfl
 refine pure_ (i := 4) (N := some 8) (v := ?_) (a' := ?_) #[true, true, true, true, true, false, false] rfl rfl (by kernel_rfl) (fun _ _ _ h => h) (Or.inl ⟨by rfl, ?_⟩) ?_ ?_
 rotate_left
 ·intro w'
  go_simp
  with_reducible rfl
 rotate_left
 ·simp only [Act.put, sA, sZ, sS, i64_w, i32_w]
  rfl
 refine last_ (i := 5) (N := none) #[true, true, true, true, true, true, false] rfl rfl (by kernel_rfl) (by decide) (fun K hK => ?_)
 have k_gR_0 := bC BK_gR 0 (.int .i64 0) rfl
 have k_gR_1 := bC BK_gR 1 (.int .i64 0) rfl
 have f_gR_0 := bF BK_gR 0
 have f_gR_1 := bF BK_gR 1
 refine skip_ (w1 := ?_) (by rfl) rfl ?_ ?_
 rotate_left
 ·go_simp
  rfl
 refine hK.out _ _ ?_
 clear hK K
 refine pure_ (i := 6) (N := some 3) (v := ?_) (a' := ?_) #[true, true, true, true, true, true, true] rfl rfl (by kernel_rfl) (fun _ _ _ h => h) (Or.inl ⟨by rfl, ?_⟩) ?_ ?_
 rotate_left
 ·intro w'
  go_simp
  with_reducible rfl
 rotate_left
 ·simp only [Act.put, sA, sZ, sS, i64_w, i32_w]
  rfl
 refine done_ (by kernel_rfl) ?_
 go_wp2
 refine bodyPost_ret (results_ct rfl _ _ gR 35 #[.int .i64 y0, .int .i64 y1] (0, 0) _ rfl (blk_put (cs' := #[.int .i64 y0, .int .i64 y1]) (blk_put (cs' := #[.int .i64 y0, .int .i64 0]) (BK_gR.out) 0 _ rfl) 1 _ rfl) Tryz.underlying35 rfl (by kernel_rfl)) rfl ?_
 exact ⟨rfl, below_set (below_set (HB.out) GE_gR) GE_gR⟩
set_option maxHeartbeats 6400000 in
theorem towHop (x0 x1 C T' E : Int) (l' : List Int) (w : World)
  (hcall : ∀ W, Below w.heap.size w W → Calls Tryz.prog 145 #[.agg #[.int .i64 3, .int .i64 1, .int .i64 2, .func (.func 120) #[] #[], .func (.func 121) #[] #[], .func (.func 122) #[] #[]], .agg #[.int .i64 x0, .int .i64 x1]] W (ObjP C T' E l' W)) :
  Calls Tryz.prog 75 #[.agg #[.int .i64 x0, .int .i64 x1]] w (ObjP C T' E l' w) := by
 have HC := Lib.hid hcall
 clear hcall
 have HB := Lib.hid (Below.refl w.heap.size w)
 go_enter Tryz.func75, Tryz.ntmps75
 go_wp2_with (first | ((with_reducible refine gate_dst (N := 1) rfl ?_); refine box_event ?hg (N := 1) ?hd (cs := #[.int .i64 x0, .int .i64 x1]) (t := 35) ?hr ?_; (case hd => rfl); (case hg => rfl); (case hr => first | (go_simp; done) | (go_simp; rfl)); intro gX hg w1 hbox hb; have GE_gX : w.heap.size ≤ gX := (by rw [hg]; exact below_size HB.out); replace HB := Lib.hid (below_step HB.out hb); have BK_gX := Lib.hid hbox; clear hb hbox hg) | ((with_reducible refine gate_dst (N := 2) rfl ?_); refine box_event ?hg (N := 2) ?hd (cs := #[.int .i64 0, .int .i64 0, .slice none 0 0]) (t := 24) ?hr ?_; (case hd => rfl); (case hg => rfl); (case hr => first | (go_simp; done) | (go_simp; rfl)); intro gR hg w2 hbox hb; have GE_gR : w.heap.size ≤ gR := (by rw [hg]; exact below_size HB.out); replace HB := Lib.hid (below_step HB.out hb); replace BK_gX := bB BK_gX hb; have BK_gR := Lib.hid hbox; clear hb hbox hg))
 replace HB := Lib.hid (below_drew1 HB.out)
 replace BK_gX := bD BK_gX
 replace BK_gR := bD BK_gR
 refine start_ (n := 7) (S := fun w' => w'.cell? ⟨gX, 0, none⟩ = some (.int .i64 x0) ∧ w'.cell? ⟨gX, 1, none⟩ = some (.int .i64 x1)) (ds := [5]) #[false, false, false, false, false, false, false] (by kernel_rfl) rfl rfl ⟨((blk_cell BK_gX.out 0).trans rfl), ((blk_cell BK_gX.out 1).trans rfl)⟩ (fun hHeld => ?_)
 generalize w2.drew = w3 at HB BK_gX BK_gR hHeld ⊢
 refine take_ (i := 1) (N := some 5) (v := ?_) (a' := ?_) #[false, true, false, false, false, false, false] rfl rfl (by kernel_rfl) (fun _ _ _ h => h) (Or.inl ⟨by rfl, ?_⟩) hHeld ?_ ?_
 rotate_left
 ·rintro w' ⟨s0, s1⟩
  go_simp
  with_reducible rfl
 rotate_left
 ·simp only [Act.put, sA, sZ, sS, i64_w, i32_w]
  rfl
 refine one_ (i := 0) (N := some 4) #[true, true, false, false, false, false, false] rfl rfl (by kernel_rfl) (by decide) (fun K hK => ?_)
 refine goes_ Tryz.func51 (by kernel_rfl) rfl #[] (by rfl) rfl rfl (by first | rfl | (simp only [List.map_toArray, List.map_nil]; done) | (simp only [List.map_toArray, List.map_nil]; rfl)) ?_
 with_reducible refine (ctorHop _).mono ?_
 rintro e w4 ⟨rfl, hb⟩
 refine ⟨_, rfl, ?_⟩
 replace HB := Lib.hid (below_step HB.out hb)
 replace BK_gX := bB BK_gX hb
 replace BK_gR := bB BK_gR hb
 clear hb
 refine hK.out _ _ ⟨((blk_cell BK_gX.out 0).trans rfl), ((blk_cell BK_gX.out 1).trans rfl)⟩ (fun hHeld => ?_)
 clear hK K
 refine norm_ (a' := ?_) ?_ ?_
 rotate_left
 ·show Act.put _ (some 4) _ = _
  simp only [Act.put, sA, sZ, sS, i64_w, i32_w]
  rfl
 refine one_ (i := 2) (N := some 6) #[true, true, true, false, false, false, false] rfl rfl (by kernel_rfl) (by decide) (fun K hK => ?_)
 have LT := (blk_lt BK_gR.out : gR < w4.heap.size)
 have LB := below_size HB.out
 refine goes_ Tryz.func145 (by kernel_rfl) rfl #[.agg #[.int .i64 3, .int .i64 1, .int .i64 2, .func (.func 120) #[] #[], .func (.func 121) #[] #[], .func (.func 122) #[] #[]], .agg #[.int .i64 x0, .int .i64 x1]] (by rfl) rfl rfl (by simp only [mT, mC, mN]; rfl) ?_
 with_reducible refine (HC.out _ HB.out).mono ?_
 rintro e w5 ⟨v9, rfl, hr9, hb⟩
 refine ⟨_, rfl, ?_⟩
 replace HB := Lib.hid (below_step HB.out hb)
 replace BK_gX := bB BK_gX hb
 replace BK_gR := bB BK_gR hb
 clear hb
 obtain ⟨A9, c9, rfl, _, _⟩ := Kd.R_reads hr9
 have HQ := Lib.hid hr9
 clear hr9
 refine hK.out _ _ ⟨((blk_cell BK_gX.out 0).trans rfl), ((blk_cell BK_gX.out 1).trans rfl)⟩ (fun hHeld => ?_)
 clear hK K
 refine norm_ (a' := ?_) ?_ ?_
 rotate_left
 ·show Act.put _ (some 6) _ = _
  simp only [Act.put, sA, sZ, sS, i64_w, i32_w]
  rfl
 refine pure_ (i := 3) (N := some 7) (v := ?_) (a' := ?_) #[true, true, true, true, false, false, false] rfl rfl (by kernel_rfl) (fun _ _ _ h => h) (Or.inl ⟨by rfl, ?_⟩) ?_ ?_
 rotate_left
 ·intro w'
  go_simp
  with_reducible rfl
 rotate_left
 ·simp only [Act.put, sA, sZ, sS, i64_w, i32_w]
  rfl
 refine pure_ (i := 4) (N := some 8) (v := ?_) (a' := ?_) #[true, true, true, true, true, false, false] rfl rfl (by kernel_rfl) (fun _ _ _ h => h) (Or.inl ⟨by rfl, ?_⟩) ?_ ?_
 rotate_left
 ·intro w'
  go_simp
  with_reducible rfl
 rotate_left
 ·simp only [Act.put, sA, sZ, sS, i64_w, i32_w]
  rfl
 refine last_ (i := 5) (N := none) #[true, true, true, true, true, true, false] rfl rfl (by kernel_rfl) (by decide) (fun K hK => ?_)
 have k_gR_0 := bC BK_gR 0 (.int .i64 0) rfl
 have k_gR_1 := bC BK_gR 1 (.int .i64 0) rfl
 have k_gR_2 := bC BK_gR 2 (.slice none 0 0) rfl
 have f_gR_0 := bF BK_gR 0
 have f_gR_1 := bF BK_gR 1
 have f_gR_2 := bF BK_gR 2
 refine skip_ (w1 := ?_) (by rfl) rfl ?_ ?_
 rotate_left
 ·go_simp
  rfl
 refine hK.out _ _ ?_
 clear hK K
 refine pure_ (i := 6) (N := some 3) (v := ?_) (a' := ?_) #[true, true, true, true, true, true, true] rfl rfl (by kernel_rfl) (fun _ _ _ h => h) (Or.inl ⟨by rfl, ?_⟩) ?_ ?_
 rotate_left
 ·intro w'
  go_simp
  with_reducible rfl
 rotate_left
 ·simp only [Act.put, sA, sZ, sS, i64_w, i32_w]
  rfl
 refine done_ (by kernel_rfl) ?_
 go_wp2
 refine bodyPost_ret (results_ct rfl _ _ gR 24 #[.int .i64 C, .int .i64 T', .slice A9 l'.length c9] (0, 0) _ rfl (blk_put (cs' := #[.int .i64 C, .int .i64 T', .slice A9 l'.length c9]) (blk_put (cs' := #[.int .i64 C, .int .i64 T', .slice none 0 0]) (blk_put (cs' := #[.int .i64 C, .int .i64 0, .slice none 0 0]) (BK_gR.out) 0 _ rfl) 1 _ rfl) 2 _ rfl) Tryz.underlying24 rfl (by kernel_rfl)) rfl ?_
 exact ⟨_, rfl, Kd.R_lower (R_old (p := ⟨gR, 2, none⟩) (R_old (p := ⟨gR, 1, none⟩) (R_old (p := ⟨gR, 0, none⟩) HQ.out LT _) LT _) LT _) LB, below_set (below_set (below_set HB.out GE_gR) GE_gR) GE_gR⟩
def object_Hop.f (a0_0 a0_1 : Int) : Option (Int × Int × List Int × Int) := (object_hops_3.f a0_0 a0_1).bind fun m => (object_hops_1.f a0_0 a0_1).bind fun l' => some (if m then 3 else 0, if m then 1 else 0, if m then l' else [], if m then 0 else 2)
theorem object_Hop.calls (a0_0 a0_1 r1 r2 : Int) (r3 : List Int) (r4 : Int) (w : World) (h : object_Hop.f a0_0 a0_1 = some (r1, r2, r3, r4)) :
  Calls Tryz.prog 75 #[.agg #[.int .i64 a0_0, .int .i64 a0_1]] w fun e w' => ∃ v, e = .returned (.tuple #[.agg #[.int .i64 r1, .int .i64 r2, v], .int .i64 r4]) ∧ Kd.R (Kd.int .i64) 2 w' w.heap.size (fun _ => True) v r3 ∧ Below w.heap.size w w' := by
 obtain ⟨m, hm, h⟩ := Option.bind_eq_some_iff.mp h
 obtain ⟨l', hw, h⟩ := Option.bind_eq_some_iff.mp h
 injection h with h
 simp only [Prod.mk.injEq] at h
 obtain ⟨rfl, rfl, rfl, rfl⟩ := h
 refine towHop a0_0 a0_1 _ _ _ _ w (fun W hW  => ?_)
 exact objectHop_run 3 1 2  _ a0_0 a0_1 _ W (fun W' hW' => (object_hops_3.calls a0_0 a0_1 _ W' hm).mono (fun e w' h => ⟨h.1, toBelow h.2⟩)) (fun W' hW' => object_hops_1.calls a0_0 a0_1 _ W' hw)
def object_AsHop.f (a0_0 a0_1 : Int) (l0_2 : List Int) : Option (Int × Int × Int) := if a0_0 = 3 ∧ a0_1 = 1 ∧ ((l0_2.length : Nat) : Int) = 2 then ((object_hops_2.f l0_2).bind fun (x0, x1) => (object_hops_3.f x0 x1).bind fun m => (object_hops_1.f x0 x1).bind fun l' => some (if m && decide (l' = l0_2) then x0 else 0, if m && decide (l' = l0_2) then x1 else 0, if m && decide (l' = l0_2) then 0 else 171)) else some (0, 0, 171)
theorem object_AsHop.calls (a0_0 a0_1 : Int) (A0_2 : Option Addr) (c0_2 : Nat) (l0_2 : List Int) (r1 r2 r3 : Int) (w : World) (hr0_2 : Kd.C (Kd.int .i64) w A0_2 l0_2.length l0_2) (hc0_2 : l0_2.length ≤ c0_2) (h : object_AsHop.f a0_0 a0_1 l0_2 = some (r1, r2, r3)) :
  Calls Tryz.prog 15 #[.agg #[.int .i64 a0_0, .int .i64 a0_1, .slice A0_2 l0_2.length c0_2]] w fun e w' => e = .returned (.tuple #[.agg #[.int .i64 r1, .int .i64 r2], .int .i64 r3]) ∧ Below w.heap.size w w' := by
 refine aswHop a0_0 a0_1 A0_2 l0_2.length c0_2 _ _ _ w (fun W hW  => ?_)
 unfold object_AsHop.f at h
 split at h
 ·rename_i hq
  obtain ⟨rfl, rfl, hlen⟩ := hq
  obtain ⟨⟨x0, x1⟩, ht, h⟩ := Option.bind_eq_some_iff.mp h
  obtain ⟨m, hm, h⟩ := Option.bind_eq_some_iff.mp h
  obtain ⟨l', hw, h⟩ := Option.bind_eq_some_iff.mp h
  refine (asHop_run 3 1 2 A0_2 c0_2 l0_2 l' x0 x1 _ W (Kd.C_below hr0_2 hW) hc0_2 hlen (fun W' hW' => (object_hops_2.calls A0_2 c0_2 l0_2 _ _ W' (Kd.C_below (Kd.C_below hr0_2 hW) hW') hc0_2 ht).mono (fun e w' h => ⟨h.1, toBelow h.2⟩)) (fun W' hW' => (object_hops_3.calls x0 x1 _ W' hm).mono (fun e w' h => ⟨h.1, toBelow h.2⟩)) (fun W' hW' => object_hops_1.calls x0 x1 _ W' hw)).mono ?_
  rintro e w' ⟨rfl, hb⟩
  injection h with h
  simp only [Prod.mk.injEq] at h
  obtain ⟨rfl, rfl, rfl⟩ := h
  refine ⟨?_, hb⟩
  cases (m && decide (l' = l0_2)) <;> rfl
 ·rename_i hq
  injection h with h
  simp only [Prod.mk.injEq] at h
  obtain ⟨rfl, rfl, rfl⟩ := h
  exact (asHop_no 3 1 2 a0_0 a0_1 A0_2 c0_2 l0_2 W (by by_cases e1 : a0_0 = 3 <;> by_cases e2 : a0_1 = 1 <;> simp_all)).mono (fun e w' h => ⟨h.1, h.2⟩)
def object_faults_1.f (a0_0 : Int) (a0_1 : Int) (a0_2 : Int) : Option (List Int) := (object_list.f (([a0_0, Go.bits .or .i64 (wrap64 (a0_1 * 65536)) a0_2] : List Int))).bind fun t1099 => (some t1099)
set_option maxHeartbeats 8000000 in
set_option maxRecDepth 100000 in
theorem object_faults_1.calls (a0_0 : Int) (a0_1 : Int) (a0_2 : Int) (r : List Int) (w : World) (h : object_faults_1.f a0_0 a0_1 a0_2 = some r) :
  Calls Tryz.prog 125 #[.agg #[.int .i64 a0_0, .int .i64 a0_1, .int .i64 a0_2]] w fun e w' => ∃ v0_ : Value, e = .returned (v0_) ∧ Kd.R (Kd.int .i64) 2 w' w.heap.size (fun _ => True) v0_ r ∧ Below w.heap.size w w' := by
 have hu45 := Tryz.underlying45
 have HB := Aside0.mk (Below.refl w.heap.size w)
 have H : ((object_list.f (([a0_0, Go.bits .or .i64 (wrap64 (a0_1 * 65536)) a0_2] : List Int))).bind fun t1099 => (some t1099)) = some r := h
 clear h
 obtain ⟨y1096, hy1096⟩ : ∃ y_ : List Int, y_ = (([a0_0, Go.bits .or .i64 (wrap64 (a0_1 * 65536)) a0_2] : List Int)) := ⟨_, rfl⟩
 replace H : ((object_list.f y1096).bind fun t1099 => (some t1099)) = some r := by first | (rw [hy1096]; with_reducible exact H) | (have H2_ := (Option.bind_some _ _).symm.trans H; rw [hy1096]; with_reducible exact H2_) | (have H2_ := (Option.bind_some _ _).symm.trans H; with_reducible exact H2_) | with_reducible exact H | (rw [hy1096]; exact H) | exact H
 have Ny1096 := Aside0.mk hy1096
 clear hy1096
 replace H := Option.bind_eq_some_iff.mp H
 obtain ⟨t1099, A20, H⟩ := H
 replace H : (some t1099) = some r := H
 have A2 := Aside0.mk A20
 clear A20
 obtain rfl := Option.some.inj H
 go_enter Tryz.func125, Tryz.ntmps125
 go_wp2_with (first | ((with_reducible refine gate_dst (N := 1) rfl ?_); refine box_event ?hg (N := 1) ?hd (cs := #[.int .i64 a0_0, .int .i64 a0_1, .int .i64 a0_2]) (t := 45) ?hr ?_; (case hd => rfl); (case hg => rfl); (case hr => first | (go_simp; done) | (go_simp; rfl)); intro gb1095 hg w3 hbox hb; have n0_ := Aside0.mk (below_step (by repeat (first | (with_reducible first | exact HB.out | apply below_alloc | apply pw_below_drewN | apply below_drew1) | exact HB.out)) hb); have n1_ := Aside0.mk (hbox); have n2_ := Aside0.mk ((by rw [hg]; exact (below_size (by repeat (first | (with_reducible first | exact HB.out | apply below_alloc | apply pw_below_drewN | apply below_drew1) | exact HB.out))) : w.heap.size ≤ gb1095)); have n3_ := Aside0.mk ((by rw [hg]; exact (below_size (by repeat (first | (with_reducible first | exact HB.out | apply below_alloc | apply pw_below_drewN | apply below_drew1) | exact HB.out))) : w.heap.size ≤ gb1095)); clear HB; have HB := n0_; have BK1095 := n1_; have GW1095 := n2_; have GE1095 := n3_; clear n0_ n1_ n2_ n3_; clear hb hbox hg; have hcz4_0 := cZ BK1095.out 0 (.int .i64 a0_0) rfl; have hcz4_1 := cZ BK1095.out 1 (.int .i64 a0_1) rfl; have hcz4_2 := cZ BK1095.out 2 (.int .i64 a0_2) rfl; have hfz4_0 := blk_frozen BK1095.out 0; have hfz4_1 := blk_frozen BK1095.out 1; have hfz4_2 := blk_frozen BK1095.out 2) | ((with_reducible refine gate_dst (N := 11) rfl ?_); refine Kd.R_lit (Kd.int .i64) _ 2 ?hg (N := 11) ?hd (xs := ([a0_0, Go.bits .or .i64 (wrap64 (a0_1 * 65536)) a0_2] : List Int)) (inner := [.int .i64 a0_0, .int .i64 (Go.bits .or .i64 (wrap64 (a0_1 * 65536)) a0_2)]) (ok := fun _ => True) (okp := fun _ => True) ?hr ?hp (fun _ hk => hk) trivial (Below.refl _ _) (Nat.le_refl _) (by simp) ?_; (case hd => rfl); (case hg => rfl); (case hr => first | (go_simp; done) | (go_simp; rfl)); (case hp => exact (Reps.one (show Kd.M (Kd.int .i64) _ _ _ a0_0 [.int .i64 a0_0] from rfl) (Reps.one (show Kd.M (Kd.int .i64) _ _ _ (Go.bits .or .i64 (wrap64 (a0_1 * 65536)) a0_2) [.int .i64 (Go.bits .or .i64 (wrap64 (a0_1 * 65536)) a0_2)] from rfl) (Reps.none _ _)))); intro v1097 w5 ho6 hb hg_ hnew_; clear hg_ hnew_; (first | rw [← Ny1096.out] at ho6 | (simp only [Int.reduceToNat] at ho6; rw [← Ny1096.out] at ho6)); have n0_ := Aside0.mk (Kd.R_lower ho6 (below_size (by repeat (first | (with_reducible first | exact HB.out | apply below_alloc | apply pw_below_drewN | apply below_drew1 | refine below_set ?_ GE1095.out) | exact HB.out)))); have n1_ := Aside0.mk (blk_below (g := gb1095) (o := .cells #[.int .i64 a0_0, .int .i64 a0_1, .int .i64 a0_2] 45 (0, 0)) (by (with_reducible repeat (first | refine blk_drewN ?_ _ | refine blk_drew ?_ | refine blk_alloc ?_ _)); exact BK1095.out) hb); have n2_ := Aside0.mk (below_step (by repeat (first | (with_reducible first | exact HB.out | apply below_alloc | apply pw_below_drewN | apply below_drew1 | refine below_set ?_ GE1095.out) | exact HB.out)) hb); clear BK1095; clear HB; have HO1098 := n0_; have BK1095 := n1_; have HB := n2_; clear n0_ n1_ n2_; clear hb ho6; obtain ⟨Ao7, co7, eo7⟩ := Kd.R_slice HO1098.out; subst eo7) | ((with_reducible refine gate_callee (f := 114) rfl ?_); refine goesL_ (some 12) rfl rfl Tryz.func114 (by kernel_rfl) rfl #[.slice Ao7 y1096.length co7] rfl (by (try simp only [mT, mC, mN]); first | done | rfl | (simp only [List.length_drop, List.length_take]; rfl)) ?_; (with_reducible refine (object_list.calls (fun k_ => some k_ = (.slice Ao7 y1096.length co7 : Value).ownBlock) (.slice Ao7 y1096.length co7) y1096 t1099 w _ ?side1 ?side2 A2.out).mono ?_); (case side1 => repeat (first | (with_reducible first | exact HB.out | apply below_alloc | apply pw_below_drewN | apply below_drew1 | refine below_set ?_ GE1095.out) | exact HB.out)); (case side2 => exact Kd.R_tight rfl HO1098.out); rintro e w8 ⟨v1100, rfl, ho0, hb, hkp⟩; refine ⟨_, rfl, ?_⟩; have n0_ := Aside0.mk (blk_kept (by (with_reducible repeat (first | refine blk_drewN ?_ _ | refine blk_drew ?_ | refine blk_alloc ?_ _)); exact BK1095.out) hkp (fun hs_ => (fun e_ => (Kd.R_ne HO1098.out BK1095.out (by decide)) e_) hs_)); have n1_ := Aside0.mk (Kd.R_mono (ok' := fun k_ => True) ho0 (fun k_ hk_ => trivial)); have n2_ := Aside0.mk (hb); clear BK1095; clear HB; clear HO1098; have BK1095 := n0_; have HO1101 := n1_; have HB := n2_; clear n0_ n1_ n2_; (try clear hb); (try clear hkp); (try clear ho0)))
 go_ret
 exact ⟨_, by first | rfl | (simp [errW_none, errW_some] <;> rfl) | (simp [*, errW_none, errW_some] <;> rfl), by (with_reducible repeat (first | apply Kd.R_alloc | apply Kd.R_drewN | apply Kd.R_drew)); exact HO1101.out, by repeat (first | (with_reducible first | exact HB.out | apply below_alloc | apply pw_below_drewN | apply below_drew1 | refine below_set ?_ GE1095.out) | exact HB.out)⟩
def object_faults_2.f (l0 : List Int) : Option (Int × Int × Int) := if 0 < (l0.length : Int) then (if 1 < (l0.length : Int) then (some (rd l0 0, (rd l0 1) / 65536, Go.bits .and .i64 (rd l0 1) 65535)) else (none)) else (none)
def object_faults_2.T1 : Bool × List (List Nat × List Nat) := (true, [([], []), ([0], [0]), ([1], [1]), ([], []), ([3], [3]), ([4], [4]), ([5], [5]), ([], []), ([7], [7]), ([8], [8]), ([9], [9]), ([2, 6, 10], [2, 6, 10]), ([11, 0, 1, 2, 3, 4, 5, 6, 7, 8, 9, 10, 11], [11])])
def object_faults_2.B1 : List Nat := [0, 1, 3, 0, 8, 24, 56, 0, 128, 384, 896, 2047, 4095]
theorem object_faults_2.tab1 : rtab .any (opsOf Tryz.f126 1) = object_faults_2.T1 := by kernel_rfl
theorem object_faults_2.bits1 : waitsOk object_faults_2.T1.2 object_faults_2.B1 = true := by kernel_rfl
set_option maxHeartbeats 8000000 in
set_option maxRecDepth 100000 in
theorem object_faults_2.calls (A0 : Option Addr) (c0 : Nat) (l0 : List Int) (r1 : Int) (r2 : Int) (r3 : Int) (w : World) (hr0 : Kd.C (Kd.int .i64) w A0 l0.length l0) (hc0 : l0.length ≤ c0) (h : object_faults_2.f l0 = some (r1, r2, r3)) :
  Calls Tryz.prog 126 #[.slice A0 l0.length c0] w fun e w' => e = .returned (.agg #[.int .i64 r1, .int .i64 r2, .int .i64 r3]) ∧ Below w.heap.size w w' := by
 have hu45 := Tryz.underlying45
 have HR0 := Aside0.mk hr0
 have HC0 := Aside0.mk hc0
 clear hr0 hc0
 have HB := Aside0.mk (Below.refl w.heap.size w)
 have H : (if 0 < (l0.length : Int) then (if 1 < (l0.length : Int) then (some (rd l0 0, (rd l0 1) / 65536, Go.bits .and .i64 (rd l0 1) 65535)) else (none)) else (none)) = some (r1, r2, r3) := h
 clear h
 by_cases c2 : 0 < (l0.length : Int)
 ·rw [if_pos c2] at H
  have c2b0 : decide (0 < (l0.length : Int)) = true := decide_eq_true c2
  have c2b1 : decide (0 < l0.length) = true := decide_eq_true (by omega)
  clear c2
  by_cases c3 : 1 < (l0.length : Int)
  ·rw [if_pos c3] at H
   have c3b0 : decide (1 < (l0.length : Int)) = true := decide_eq_true c3
   have c3b1 : decide (1 < l0.length) = true := decide_eq_true (by omega)
   clear c3
   simp only [Option.some.injEq, Prod.mk.injEq] at H
   obtain ⟨rfl, rfl, rfl⟩ := H
   go_enter Tryz.func126, Tryz.ntmps126
   try go_wp2_with (first | ((with_reducible refine gate_dst (N := 2) rfl ?_); refine box_event ?hg (N := 2) ?hd (cs := #[.int .i64 0, .int .i64 0, .int .i64 0]) (t := 45) ?hr ?_; (case hd => rfl); (case hg => rfl); (case hr => first | (go_simp; done) | (go_simp; rfl)); intro gb1102 hg w4 hbox hb; have n0_ := Aside0.mk (below_step (by repeat (first | (with_reducible first | exact HB.out | apply below_alloc | apply pw_below_drewN | apply below_drew1) | exact HB.out)) hb); have n1_ := Aside0.mk (hbox); have n2_ := Aside0.mk ((by rw [hg]; exact (below_size (by repeat (first | (with_reducible first | exact HB.out | apply below_alloc | apply pw_below_drewN | apply below_drew1) | exact HB.out))) : w.heap.size ≤ gb1102)); have n3_ := Aside0.mk ((by rw [hg]; exact (below_size (by repeat (first | (with_reducible first | exact HB.out | apply below_alloc | apply pw_below_drewN | apply below_drew1) | exact HB.out))) : w.heap.size ≤ gb1102)); clear HB; have HB := n0_; have BK1102 := n1_; have GW1102 := n2_; have GE1102 := n3_; clear n0_ n1_ n2_ n3_; clear hb hbox hg))
   have n0_ := Aside0.mk (blk_drew BK1102.out)
   have n1_ := Aside0.mk (below_drew1 HB.out)
   clear BK1102
   clear HB
   have BK1102 := n0_
   have HB := n1_
   clear n0_ n1_
   have p1103 : 0 ≤ (0 : Int) := (by omega)
   have q1103 : 0 < (l0.length : Int) := of_decide_eq_true (by first | (with_reducible assumption) | assumption)
   obtain ⟨ad1103, e1103, hx1103_0⟩ := Kd.at_int HR0.out 0 p1103 q1103
   have hw1103_0 := hx1103_0
   (try rw [show ((0 : Int)).toNat = 0 from rfl] at hw1103_0)
   (try rw [show 0 * 1 = 0 from rfl] at hw1103_0)
   (try rw [Addr.add_zero'] at hw1103_0)
   cases e1103
   have qi1103 : (0 < l0.length) = True := eq_true (by omega)
   (try rw [show ((0 : Int)).toNat = 0 from rfl] at hx1103_0)
   (try rw [Addr.add_zero'] at hx1103_0)
   replace hx1103_0 := (HB.out.cell (World.block_lt_of_cell? w _ hx1103_0)).trans hx1103_0
   replace p1103 := eq_true p1103
   replace q1103 := eq_true q1103
   have p1104 : 0 ≤ (1 : Int) := (by omega)
   have q1104 : 1 < (l0.length : Int) := of_decide_eq_true (by first | (with_reducible assumption) | assumption)
   obtain ⟨ad1104, e1104, hx1104_0⟩ := Kd.at_int HR0.out 1 p1104 q1104
   have hw1104_0 := hx1104_0
   (try rw [show ((1 : Int)).toNat = 1 from rfl] at hw1104_0)
   (try rw [show 1 * 1 = 1 from rfl] at hw1104_0)
   (try simp only [Nat.reduceMul, Nat.reduceEqDiff, Go.Addr.add, ↓reduceIte] at hw1104_0)
   obtain rfl : ad1103 = ad1104 := (by injection e1104)
   (try simp only [show (1 : Int).toNat = 1 from rfl, Nat.reduceMul, Nat.reduceEqDiff, Go.Addr.add, ↓reduceIte] at hx1104_0)
   have qi1104 : (1 < l0.length) = True := eq_true (by omega)
   (try rw [show ((1 : Int)).toNat = 1 from rfl] at hx1104_0)
   replace hx1104_0 := (HB.out.cell (World.block_lt_of_cell? w _ hx1104_0)).trans hx1104_0
   replace p1104 := eq_true p1104
   replace q1104 := eq_true q1104
   have p1105 : 0 ≤ (1 : Int) := (by omega)
   have q1105 : 1 < (l0.length : Int) := of_decide_eq_true (by first | (with_reducible assumption) | assumption)
   obtain ⟨ad1105, e1105, hx1105_0⟩ := Kd.at_int HR0.out 1 p1105 q1105
   have hw1105_0 := hx1105_0
   (try rw [show ((1 : Int)).toNat = 1 from rfl] at hw1105_0)
   (try rw [show 1 * 1 = 1 from rfl] at hw1105_0)
   (try simp only [Nat.reduceMul, Nat.reduceEqDiff, Go.Addr.add, ↓reduceIte] at hw1105_0)
   obtain rfl : ad1103 = ad1105 := (by injection e1105)
   (try simp only [show (1 : Int).toNat = 1 from rfl, Nat.reduceMul, Nat.reduceEqDiff, Go.Addr.add, ↓reduceIte] at hx1105_0)
   have qi1105 : (1 < l0.length) = True := eq_true (by omega)
   (try rw [show ((1 : Int)).toNat = 1 from rfl] at hx1105_0)
   replace hx1105_0 := (HB.out.cell (World.block_lt_of_cell? w _ hx1105_0)).trans hx1105_0
   replace p1105 := eq_true p1105
   replace q1105 := eq_true q1105
   refine start_ (n := 13) (S := fun w' => w'.cell? ad1103 = some (.int .i64 (rd l0 0)) ∧ w'.cell? ⟨ad1103.block, ad1103.off + 1, none⟩ = some (.int .i64 (rd l0 1)) ∧ w'.cell? ⟨ad1103.block, ad1103.off + 1, none⟩ = some (.int .i64 (rd l0 1))) (ds := []) #[false, false, false, false, false, false, false, false, false, false, false, false, false] (by kernel_rfl) rfl rfl ⟨((HB.out.cell (World.block_lt_of_cell? w _ hw1103_0)).trans hw1103_0), ((HB.out.cell (World.block_lt_of_cell? w _ hw1104_0)).trans hw1104_0), ((HB.out.cell (World.block_lt_of_cell? w _ hw1105_0)).trans hw1105_0)⟩ (fun hHeld => ?_); refine with_tabW object_faults_2.tab1 object_faults_2.bits1 (fun HT_ HW_ => ?_)
   generalize w4.drew = w5 at BK1102 HB hx1103_0 hx1104_0 hx1105_0 hHeld ⊢
   refine pure_ (i := 0) (N := some 3) (v := ?_) (a' := ?_) #[true, false, false, false, false, false, false, false, false, false, false, false, false] rfl rfl (any_of HT_.out (by kernel_rfl)) (fun _ _ _ h => h) (Or.inl ⟨by rfl, ?_⟩) ?_ ?_
   rotate_left
   ·intro w'
    go_simp
    with_reducible rfl
   rotate_left
   ·simp only [Act.put, sA, sZ, sS, i64_w, i32_w]
    rfl
   refine pure_ (i := 1) (N := some 4) (v := ?_) (a' := ?_) #[true, true, false, false, false, false, false, false, false, false, false, false, false] rfl rfl (any_of HT_.out (by kernel_rfl)) (fun _ _ _ h => h) (Or.inl ⟨by rfl, ?_⟩) ?_ ?_
   rotate_left
   ·intro w'
    go_simp
    with_reducible rfl
   rotate_left
   ·simp only [Act.put, sA, sZ, sS, i64_w, i32_w]
    rfl
   refine pure_ (i := 3) (N := some 6) (v := ?_) (a' := ?_) #[true, true, false, true, false, false, false, false, false, false, false, false, false] rfl rfl (any_of HT_.out (by kernel_rfl)) (fun _ _ _ h => h) (Or.inl ⟨by rfl, ?_⟩) ?_ ?_
   rotate_left
   ·intro w'
    go_simp
    with_reducible rfl
   rotate_left
   ·simp only [Act.put, sA, sZ, sS, i64_w, i32_w]
    rfl
   refine pure_ (i := 4) (N := some 7) (v := ?_) (a' := ?_) #[true, true, false, true, true, false, false, false, false, false, false, false, false] rfl rfl (any_of HT_.out (by kernel_rfl)) (fun _ _ _ h => h) (Or.inl ⟨by rfl, ?_⟩) ?_ ?_
   rotate_left
   ·intro w'
    go_simp
    with_reducible rfl
   rotate_left
   ·simp only [Act.put, sA, sZ, sS, i64_w, i32_w]
    rfl
   refine pure_ (i := 7) (N := some 10) (v := ?_) (a' := ?_) #[true, true, false, true, true, false, false, true, false, false, false, false, false] rfl rfl (any_of HT_.out (by kernel_rfl)) (fun _ _ _ h => h) (Or.inl ⟨by rfl, ?_⟩) ?_ ?_
   rotate_left
   ·intro w'
    go_simp
    with_reducible rfl
   rotate_left
   ·simp only [Act.put, sA, sZ, sS, i64_w, i32_w]
    rfl
   refine pure_ (i := 8) (N := some 11) (v := ?_) (a' := ?_) #[true, true, false, true, true, false, false, true, true, false, false, false, false] rfl rfl (any_of HT_.out (by kernel_rfl)) (fun _ _ _ h => h) (Or.inl ⟨by rfl, ?_⟩) ?_ ?_
   rotate_left
   ·intro w'
    go_simp
    with_reducible rfl
   rotate_left
   ·simp only [Act.put, sA, sZ, sS, i64_w, i32_w]
    rfl
   refine take_ (i := 2) (N := some 5) (v := ?_) (a' := ?_) #[true, true, true, true, true, false, false, true, true, false, false, false, false] rfl rfl (take_ofW HT_.out HW_.out (by kernel_rfl)) (fun _ _ _ h => h) (Or.inl ⟨by rfl, ?_⟩) hHeld ?_ ?_
   rotate_left
   ·rintro w' ⟨s0, s1, s2⟩
    go_simp
    with_reducible rfl
   rotate_left
   ·simp only [Act.put, sA, sZ, sS, i64_w, i32_w]
    rfl
   refine take_ (i := 5) (N := some 8) (v := ?_) (a' := ?_) #[true, true, true, true, true, true, false, true, true, false, false, false, false] rfl rfl (take_ofW HT_.out HW_.out (by kernel_rfl)) (fun _ _ _ h => h) (Or.inl ⟨by rfl, ?_⟩) hHeld ?_ ?_
   rotate_left
   ·rintro w' ⟨s0, s1, s2⟩
    go_simp
    with_reducible rfl
   rotate_left
   ·simp only [Act.put, sA, sZ, sS, i64_w, i32_w]
    rfl
   refine pure_ (i := 6) (N := some 9) (v := ?_) (a' := ?_) #[true, true, true, true, true, true, true, true, true, false, false, false, false] rfl rfl (any_of HT_.out (by kernel_rfl)) (fun _ _ _ h => h) (Or.inl ⟨by rfl, ?_⟩) ?_ ?_
   rotate_left
   ·intro w'
    go_simp
    with_reducible rfl
   rotate_left
   ·simp only [Act.put, sA, sZ, sS, i64_w, i32_w]
    rfl
   refine take_ (i := 9) (N := some 12) (v := ?_) (a' := ?_) #[true, true, true, true, true, true, true, true, true, true, false, false, false] rfl rfl (take_ofW HT_.out HW_.out (by kernel_rfl)) (fun _ _ _ h => h) (Or.inl ⟨by rfl, ?_⟩) hHeld ?_ ?_
   rotate_left
   ·rintro w' ⟨s0, s1, s2⟩
    go_simp
    with_reducible rfl
   rotate_left
   ·simp only [Act.put, sA, sZ, sS, i64_w, i32_w]
    rfl
   refine pure_ (i := 10) (N := some 13) (v := ?_) (a' := ?_) #[true, true, true, true, true, true, true, true, true, true, true, false, false] rfl rfl (any_of HT_.out (by kernel_rfl)) (fun _ _ _ h => h) (Or.inl ⟨by rfl, ?_⟩) ?_ ?_
   rotate_left
   ·intro w'
    go_simp
    with_reducible rfl
   rotate_left
   ·simp only [Act.put, sA, sZ, sS, i64_w, i32_w]
    rfl
   refine pure_ (i := 11) (N := some 14) (v := ?_) (a' := ?_) #[true, true, true, true, true, true, true, true, true, true, true, true, false] rfl rfl (any_of HT_.out (by kernel_rfl)) (fun _ _ _ h => h) (Or.inl ⟨by rfl, ?_⟩) ?_ ?_
   rotate_left
   ·intro w'
    go_simp
    with_reducible rfl
   rotate_left
   ·simp only [Act.put, sA, sZ, sS, i64_w, i32_w]
    rfl
   refine one_ (i := 12) (N := none) #[true, true, true, true, true, true, true, true, true, true, true, true, true] rfl rfl (one_of HT_.out (by kernel_rfl)) (by decide) (fun K hK => ?_)
   have hs6 := cZ BK1102.out 0 (.int .i64 0) rfl
   have hfs6 := blk_frozen BK1102.out 0
   have hs7 := cZ BK1102.out 1 (.int .i64 0) rfl
   have hfs7 := blk_frozen BK1102.out 1
   have hs8 := cZ BK1102.out 2 (.int .i64 0) rfl
   have hfs8 := blk_frozen BK1102.out 2
   refine skip_ (w1 := ?_) (by rfl) rfl ?_ ?_
   rotate_left
   ·go_simp
    rfl
   refine hK.out _ _ ⟨((cell_far (p := ⟨gb1102, _, none⟩) (by first | exact Nat.ne_of_lt (Nat.lt_of_lt_of_le (by have := World.block_lt_of_cell? _ _ hw1103_0; first | rwa [add_block] at this | exact this) GW1102.out) | (rw [add_block]; exact Nat.ne_of_lt (Nat.lt_of_lt_of_le (by have := World.block_lt_of_cell? _ _ hw1103_0; first | rwa [add_block] at this | exact this) GW1102.out)) | (show (Addr.add _ _).block ≠ _; rw [add_block]; exact Nat.ne_of_lt (Nat.lt_of_lt_of_le (by have := World.block_lt_of_cell? _ _ hw1103_0; first | rwa [add_block] at this | exact this) GW1102.out)) | (dsimp only; exact Nat.ne_of_lt (Nat.lt_of_lt_of_le (by have := World.block_lt_of_cell? _ _ hw1103_0; first | rwa [add_block] at this | exact this) GW1102.out))) _).trans (((cell_far (p := ⟨gb1102, _, none⟩) (by first | exact Nat.ne_of_lt (Nat.lt_of_lt_of_le (by have := World.block_lt_of_cell? _ _ hw1103_0; first | rwa [add_block] at this | exact this) GW1102.out) | (rw [add_block]; exact Nat.ne_of_lt (Nat.lt_of_lt_of_le (by have := World.block_lt_of_cell? _ _ hw1103_0; first | rwa [add_block] at this | exact this) GW1102.out)) | (show (Addr.add _ _).block ≠ _; rw [add_block]; exact Nat.ne_of_lt (Nat.lt_of_lt_of_le (by have := World.block_lt_of_cell? _ _ hw1103_0; first | rwa [add_block] at this | exact this) GW1102.out)) | (dsimp only; exact Nat.ne_of_lt (Nat.lt_of_lt_of_le (by have := World.block_lt_of_cell? _ _ hw1103_0; first | rwa [add_block] at this | exact this) GW1102.out))) _).trans (((cell_far (p := ⟨gb1102, _, none⟩) (by first | exact Nat.ne_of_lt (Nat.lt_of_lt_of_le (by have := World.block_lt_of_cell? _ _ hw1103_0; first | rwa [add_block] at this | exact this) GW1102.out) | (rw [add_block]; exact Nat.ne_of_lt (Nat.lt_of_lt_of_le (by have := World.block_lt_of_cell? _ _ hw1103_0; first | rwa [add_block] at this | exact this) GW1102.out)) | (show (Addr.add _ _).block ≠ _; rw [add_block]; exact Nat.ne_of_lt (Nat.lt_of_lt_of_le (by have := World.block_lt_of_cell? _ _ hw1103_0; first | rwa [add_block] at this | exact this) GW1102.out)) | (dsimp only; exact Nat.ne_of_lt (Nat.lt_of_lt_of_le (by have := World.block_lt_of_cell? _ _ hw1103_0; first | rwa [add_block] at this | exact this) GW1102.out))) _).trans (hHeld.1)))))), ((cell_far (p := ⟨gb1102, _, none⟩) (by first | exact Nat.ne_of_lt (Nat.lt_of_lt_of_le (by have := World.block_lt_of_cell? _ _ hw1104_0; first | rwa [add_block] at this | exact this) GW1102.out) | (rw [add_block]; exact Nat.ne_of_lt (Nat.lt_of_lt_of_le (by have := World.block_lt_of_cell? _ _ hw1104_0; first | rwa [add_block] at this | exact this) GW1102.out)) | (show (Addr.add _ _).block ≠ _; rw [add_block]; exact Nat.ne_of_lt (Nat.lt_of_lt_of_le (by have := World.block_lt_of_cell? _ _ hw1104_0; first | rwa [add_block] at this | exact this) GW1102.out)) | (dsimp only; exact Nat.ne_of_lt (Nat.lt_of_lt_of_le (by have := World.block_lt_of_cell? _ _ hw1104_0; first | rwa [add_block] at this | exact this) GW1102.out))) _).trans (((cell_far (p := ⟨gb1102, _, none⟩) (by first | exact Nat.ne_of_lt (Nat.lt_of_lt_of_le (by have := World.block_lt_of_cell? _ _ hw1104_0; first | rwa [add_block] at this | exact this) GW1102.out) | (rw [add_block]; exact Nat.ne_of_lt (Nat.lt_of_lt_of_le (by have := World.block_lt_of_cell? _ _ hw1104_0; first | rwa [add_block] at this | exact this) GW1102.out)) | (show (Addr.add _ _).block ≠ _; rw [add_block]; exact Nat.ne_of_lt (Nat.lt_of_lt_of_le (by have := World.block_lt_of_cell? _ _ hw1104_0; first | rwa [add_block] at this | exact this) GW1102.out)) | (dsimp only; exact Nat.ne_of_lt (Nat.lt_of_lt_of_le (by have := World.block_lt_of_cell? _ _ hw1104_0; first | rwa [add_block] at this | exact this) GW1102.out))) _).trans (((cell_far (p := ⟨gb1102, _, none⟩) (by first | exact Nat.ne_of_lt (Nat.lt_of_lt_of_le (by have := World.block_lt_of_cell? _ _ hw1104_0; first | rwa [add_block] at this | exact this) GW1102.out) | (rw [add_block]; exact Nat.ne_of_lt (Nat.lt_of_lt_of_le (by have := World.block_lt_of_cell? _ _ hw1104_0; first | rwa [add_block] at this | exact this) GW1102.out)) | (show (Addr.add _ _).block ≠ _; rw [add_block]; exact Nat.ne_of_lt (Nat.lt_of_lt_of_le (by have := World.block_lt_of_cell? _ _ hw1104_0; first | rwa [add_block] at this | exact this) GW1102.out)) | (dsimp only; exact Nat.ne_of_lt (Nat.lt_of_lt_of_le (by have := World.block_lt_of_cell? _ _ hw1104_0; first | rwa [add_block] at this | exact this) GW1102.out))) _).trans (hHeld.2.1)))))), ((cell_far (p := ⟨gb1102, _, none⟩) (by first | exact Nat.ne_of_lt (Nat.lt_of_lt_of_le (by have := World.block_lt_of_cell? _ _ hw1105_0; first | rwa [add_block] at this | exact this) GW1102.out) | (rw [add_block]; exact Nat.ne_of_lt (Nat.lt_of_lt_of_le (by have := World.block_lt_of_cell? _ _ hw1105_0; first | rwa [add_block] at this | exact this) GW1102.out)) | (show (Addr.add _ _).block ≠ _; rw [add_block]; exact Nat.ne_of_lt (Nat.lt_of_lt_of_le (by have := World.block_lt_of_cell? _ _ hw1105_0; first | rwa [add_block] at this | exact this) GW1102.out)) | (dsimp only; exact Nat.ne_of_lt (Nat.lt_of_lt_of_le (by have := World.block_lt_of_cell? _ _ hw1105_0; first | rwa [add_block] at this | exact this) GW1102.out))) _).trans (((cell_far (p := ⟨gb1102, _, none⟩) (by first | exact Nat.ne_of_lt (Nat.lt_of_lt_of_le (by have := World.block_lt_of_cell? _ _ hw1105_0; first | rwa [add_block] at this | exact this) GW1102.out) | (rw [add_block]; exact Nat.ne_of_lt (Nat.lt_of_lt_of_le (by have := World.block_lt_of_cell? _ _ hw1105_0; first | rwa [add_block] at this | exact this) GW1102.out)) | (show (Addr.add _ _).block ≠ _; rw [add_block]; exact Nat.ne_of_lt (Nat.lt_of_lt_of_le (by have := World.block_lt_of_cell? _ _ hw1105_0; first | rwa [add_block] at this | exact this) GW1102.out)) | (dsimp only; exact Nat.ne_of_lt (Nat.lt_of_lt_of_le (by have := World.block_lt_of_cell? _ _ hw1105_0; first | rwa [add_block] at this | exact this) GW1102.out))) _).trans (((cell_far (p := ⟨gb1102, _, none⟩) (by first | exact Nat.ne_of_lt (Nat.lt_of_lt_of_le (by have := World.block_lt_of_cell? _ _ hw1105_0; first | rwa [add_block] at this | exact this) GW1102.out) | (rw [add_block]; exact Nat.ne_of_lt (Nat.lt_of_lt_of_le (by have := World.block_lt_of_cell? _ _ hw1105_0; first | rwa [add_block] at this | exact this) GW1102.out)) | (show (Addr.add _ _).block ≠ _; rw [add_block]; exact Nat.ne_of_lt (Nat.lt_of_lt_of_le (by have := World.block_lt_of_cell? _ _ hw1105_0; first | rwa [add_block] at this | exact this) GW1102.out)) | (dsimp only; exact Nat.ne_of_lt (Nat.lt_of_lt_of_le (by have := World.block_lt_of_cell? _ _ hw1105_0; first | rwa [add_block] at this | exact this) GW1102.out))) _).trans (hHeld.2.2))))))⟩ (fun hHeld => ?_)
   clear hK K
   refine done_ (done_of HT_.out (by kernel_rfl)) ?_
   try go_wp2
   refine bodyPost_ret (results_cell_row rfl _ _ gb1102 45 #[.int .i64 (rd l0 0), .int .i64 ((rd l0 1) / 65536), .int .i64 (Go.bits .and .i64 (rd l0 1) 65535)] (0, 0) _ rfl (by (with_reducible repeat (first | refine blk_drewN ?_ _ | refine blk_drew ?_ | refine blk_alloc ?_ _)); refine blk_put (cs := #[.int .i64 (rd l0 0), .int .i64 ((rd l0 1) / 65536), .int .i64 0]) ?_ 2 _ rfl; (with_reducible repeat (first | refine blk_drewN ?_ _ | refine blk_drew ?_ | refine blk_alloc ?_ _)); refine blk_put (cs := #[.int .i64 (rd l0 0), .int .i64 0, .int .i64 0]) ?_ 1 _ rfl; (with_reducible repeat (first | refine blk_drewN ?_ _ | refine blk_drew ?_ | refine blk_alloc ?_ _)); refine blk_put (cs := #[.int .i64 0, .int .i64 0, .int .i64 0]) ?_ 0 _ rfl; (with_reducible repeat (first | refine blk_drewN ?_ _ | refine blk_drew ?_ | refine blk_alloc ?_ _)); exact BK1102.out) Tryz.underlying45 rfl (by kernel_rfl)) rfl ?_
   exact ⟨by first | rfl | (simp [errW_none, errW_some] <;> rfl) | (simp [*, errW_none, errW_some] <;> rfl), by repeat (first | (with_reducible first | exact HB.out | apply below_alloc | apply pw_below_drewN | apply below_drew1 | refine below_set ?_ GE1102.out) | exact HB.out)⟩
  ·rw [if_neg c3] at H
   exact absurd H (by simp)
 ·rw [if_neg c2] at H
  exact absurd H (by simp)
end Go.Proofs.YtecghmlojllkdaaGreat.P

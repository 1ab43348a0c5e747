import Derived.Test.YtecghmlojllkdaaGreatTl12
import Derived.Test.YtecghmlojllkdaaGreatTl13
import Derived.Test.YtecghmlojllkdaaGreatTl14
import Derived.Test.YtecghmlojllkdaaGreatTl6
import Derived.Maps.RangeWalk
import Derived.Maps.OwnOps
namespace Go.Proofs.YtecghmlojllkdaaGreat.P
open Go.RowKit Go.Proofs.YtecghmlojllkdaaGreatW.PrintWords Go.Proofs.YtecghmlojllkdaaGreatW.PrintLast
set_option linter.unusedVariables false
set_option linter.unusedSimpArgs false
set_option maxRecDepth 100000
set_option maxHeartbeats 1600000 in
theorem ctorFault (w : World) : Calls Tryz.prog 55 #[] w fun e w' => e = .returned (.agg #[.int .i64 6, .int .i64 1, .int .i64 2, .func (.func 125) #[] #[], .func (.func 126) #[] #[], .func (.func 127) #[] #[]]) ∧ Below w.heap.size w w' := by
 go_enter Tryz.func55, Tryz.ntmps55
 go_wp2
 exact bodyPost_ret (v := .agg #[.int .i64 6, .int .i64 1, .int .i64 2, .func (.func 125) #[] #[], .func (.func 126) #[] #[], .func (.func 127) #[] #[]]) (by simp [results, Tryz.results55, go_sem]) rfl ⟨rfl, (Below.refl _ _).alloc (Nat.le_refl _) _⟩
set_option maxHeartbeats 6400000 in
theorem aswFault (c t : Int) (A0 : Option Addr) (n0 c0 : Nat) (y0 y1 y2 E : Int) (w : World)
  (hcall : ∀ W, Below w.heap.size w W → Calls Tryz.prog 56 #[.agg #[.int .i64 6, .int .i64 1, .int .i64 2, .func (.func 125) #[] #[], .func (.func 126) #[] #[], .func (.func 127) #[] #[]], .agg #[.int .i64 c, .int .i64 t, .slice A0 n0 c0]] W fun e w' => e = .returned (.tuple #[.agg #[.int .i64 y0, .int .i64 y1, .int .i64 y2], .int .i64 E]) ∧ Below W.heap.size W w') :
  Calls Tryz.prog 21 #[.agg #[.int .i64 c, .int .i64 t, .slice A0 n0 c0]] w fun e w' => e = .returned (.tuple #[.agg #[.int .i64 y0, .int .i64 y1, .int .i64 y2], .int .i64 E]) ∧ Below w.heap.size w w' := by
 have HC := Lib.hid hcall
 clear hcall
 have HB := Lib.hid (Below.refl w.heap.size w)
 go_enter Tryz.func21, Tryz.ntmps21
 go_wp2_with (first | ((with_reducible refine gate_dst (N := 1) rfl ?_); refine box_event ?hg (N := 1) ?hd (cs := #[.int .i64 c, .int .i64 t, .slice A0 n0 c0]) (t := 24) ?hr ?_; (case hd => rfl); (case hg => rfl); (case hr => first | (go_simp; done) | (go_simp; rfl)); intro gO hg w1 hbox hb; have GE_gO : w.heap.size ≤ gO := (by rw [hg]; exact below_size HB.out); replace HB := Lib.hid (below_step HB.out hb); have BK_gO := Lib.hid hbox; clear hb hbox hg) | ((with_reducible refine gate_dst (N := 2) rfl ?_); refine box_event ?hg (N := 2) ?hd (cs := #[.int .i64 0, .int .i64 0, .int .i64 0]) (t := 45) ?hr ?_; (case hd => rfl); (case hg => rfl); (case hr => first | (go_simp; done) | (go_simp; rfl)); intro gR hg w2 hbox hb; have GE_gR : w.heap.size ≤ gR := (by rw [hg]; exact below_size HB.out); replace HB := Lib.hid (below_step HB.out hb); replace BK_gO := bB BK_gO hb; have BK_gR := Lib.hid hbox; clear hb hbox hg))
 replace HB := Lib.hid (below_drew1 HB.out)
 replace BK_gO := bD BK_gO
 replace BK_gR := bD BK_gR
 refine start_ (n := 7) (S := fun w' => w'.cell? ⟨gO, 0, none⟩ = some (.int .i64 c) ∧ w'.cell? ⟨gO, 1, none⟩ = some (.int .i64 t) ∧ w'.cell? ⟨gO, 2, none⟩ = some (.slice A0 n0 c0)) (ds := [5]) #[false, false, false, false, false, false, false] (by kernel_rfl) rfl rfl ⟨((blk_cell BK_gO.out 0).trans rfl), ((blk_cell BK_gO.out 1).trans rfl), ((blk_cell BK_gO.out 2).trans rfl)⟩ (fun hHeld => ?_)
 generalize w2.drew = w3 at HB BK_gO BK_gR hHeld ⊢
 refine take_ (i := 1) (N := some 5) (v := ?_) (a' := ?_) #[false, true, false, false, false, false, false] rfl rfl (by kernel_rfl) (fun _ _ _ h => h) (Or.inl ⟨by rfl, ?_⟩) hHeld ?_ ?_
 rotate_left
 ·rintro w' ⟨s0, s1, s2⟩
  go_simp
  with_reducible rfl
 rotate_left
 ·simp only [Act.put, sA, sZ, sS, i64_w, i32_w]
  rfl
 refine one_ (i := 0) (N := some 4) #[true, true, false, false, false, false, false] rfl rfl (by kernel_rfl) (by decide) (fun K hK => ?_)
 refine goes_ Tryz.func55 (by kernel_rfl) rfl #[] (by rfl) rfl rfl (by first | rfl | (simp only [List.map_toArray, List.map_nil]; done) | (simp only [List.map_toArray, List.map_nil]; rfl)) ?_
 with_reducible refine (ctorFault _).mono ?_
 rintro e w4 ⟨rfl, hb⟩
 refine ⟨_, rfl, ?_⟩
 replace HB := Lib.hid (below_step HB.out hb)
 replace BK_gO := bB BK_gO hb
 replace BK_gR := bB BK_gR hb
 clear hb
 refine hK.out _ _ ⟨((blk_cell BK_gO.out 0).trans rfl), ((blk_cell BK_gO.out 1).trans rfl), ((blk_cell BK_gO.out 2).trans rfl)⟩ (fun hHeld => ?_)
 clear hK K
 refine norm_ (a' := ?_) ?_ ?_
 rotate_left
 ·show Act.put _ (some 4) _ = _
  simp only [Act.put, sA, sZ, sS, i64_w, i32_w]
  rfl
 refine one_ (i := 2) (N := some 6) #[true, true, true, false, false, false, false] rfl rfl (by kernel_rfl) (by decide) (fun K hK => ?_)
 refine goes_ Tryz.func56 (by kernel_rfl) rfl #[.agg #[.int .i64 6, .int .i64 1, .int .i64 2, .func (.func 125) #[] #[], .func (.func 126) #[] #[], .func (.func 127) #[] #[]], .agg #[.int .i64 c, .int .i64 t, .slice A0 n0 c0]] (by rfl) rfl rfl (by simp only [mT, mC, mN]; rfl) ?_
 with_reducible refine (HC.out _ HB.out).mono ?_
 rintro e w5 ⟨rfl, hb⟩
 refine ⟨_, rfl, ?_⟩
 replace HB := Lib.hid (below_step HB.out hb)
 replace BK_gO := bB BK_gO hb
 replace BK_gR := bB BK_gR hb
 clear hb
 refine hK.out _ _ ⟨((blk_cell BK_gO.out 0).trans rfl), ((blk_cell BK_gO.out 1).trans rfl), ((blk_cell BK_gO.out 2).trans rfl)⟩ (fun hHeld => ?_)
 clear hK K
 refine norm_ (a' := ?_) ?_ ?_
 rotate_left
 ·show Act.put _ (some 6) _ = _
  simp only [Act.put, sA, sZ, sS, i64_w, i32_w]
  rfl
 refine pure_ (i := 3) (N := some 7) (v := ?_) (a' := ?_) #[true, true, true, true, false, false, false] rfl rfl (by kernel_rfl) (fun _ _ _ h => h) (Or.inl ⟨by rfl, ?_⟩) ?_ ?_
 rotate_left
 ·intro w'
  go_simp
  with_reducible rfl
 rotate_left
 ·simp only [Act.put, sA, sZ, sS, i64_w, i32_w]
  rfl
 refine pure_ (i := 4) (N := some 8) (v := ?_) (a' := ?_) #[true, true, true, true, true, false, false] rfl rfl (by kernel_rfl) (fun _ _ _ h => h) (Or.inl ⟨by rfl, ?_⟩) ?_ ?_
 rotate_left
 ·intro w'
  go_simp
  with_reducible rfl
 rotate_left
 ·simp only [Act.put, sA, sZ, sS, i64_w, i32_w]
  rfl
 refine last_ (i := 5) (N := none) #[true, true, true, true, true, true, false] rfl rfl (by kernel_rfl) (by decide) (fun K hK => ?_)
 have k_gR_0 := bC BK_gR 0 (.int .i64 0) rfl
 have k_gR_1 := bC BK_gR 1 (.int .i64 0) rfl
 have k_gR_2 := bC BK_gR 2 (.int .i64 0) rfl
 have f_gR_0 := bF BK_gR 0
 have f_gR_1 := bF BK_gR 1
 have f_gR_2 := bF BK_gR 2
 refine skip_ (w1 := ?_) (by rfl) rfl ?_ ?_
 rotate_left
 ·go_simp
  rfl
 refine hK.out _ _ ?_
 clear hK K
 refine pure_ (i := 6) (N := some 3) (v := ?_) (a' := ?_) #[true, true, true, true, true, true, true] rfl rfl (by kernel_rfl) (fun _ _ _ h => h) (Or.inl ⟨by rfl, ?_⟩) ?_ ?_
 rotate_left
 ·intro w'
  go_simp
  with_reducible rfl
 rotate_left
 ·simp only [Act.put, sA, sZ, sS, i64_w, i32_w]
  rfl
 refine done_ (by kernel_rfl) ?_
 go_wp2
 refine bodyPost_ret (results_ct rfl _ _ gR 45 #[.int .i64 y0, .int .i64 y1, .int .i64 y2] (0, 0) _ rfl (blk_put (cs' := #[.int .i64 y0, .int .i64 y1, .int .i64 y2]) (blk_put (cs' := #[.int .i64 y0, .int .i64 y1, .int .i64 0]) (blk_put (cs' := #[.int .i64 y0, .int .i64 0, .int .i64 0]) (BK_gR.out) 0 _ rfl) 1 _ rfl) 2 _ rfl) Tryz.underlying45 rfl (by kernel_rfl)) rfl ?_
 exact ⟨rfl, below_set (below_set (below_set (HB.out) GE_gR) GE_gR) GE_gR⟩
set_option maxHeartbeats 6400000 in
theorem towFault (x0 x1 x2 C T' E : Int) (l' : List Int) (w : World)
  (hcall : ∀ W, Below w.heap.size w W → Calls Tryz.prog 146 #[.agg #[.int .i64 6, .int .i64 1, .int .i64 2, .func (.func 125) #[] #[], .func (.func 126) #[] #[], .func (.func 127) #[] #[]], .agg #[.int .i64 x0, .int .i64 x1, .int .i64 x2]] W (ObjP C T' E l' W)) :
  Calls Tryz.prog 76 #[.agg #[.int .i64 x0, .int .i64 x1, .int .i64 x2]] w (ObjP C T' E l' w) := by
 have HC := Lib.hid hcall
 clear hcall
 have HB := Lib.hid (Below.refl w.heap.size w)
 go_enter Tryz.func76, Tryz.ntmps76
 go_wp2_with (first | ((with_reducible refine gate_dst (N := 1) rfl ?_); refine box_event ?hg (N := 1) ?hd (cs := #[.int .i64 x0, .int .i64 x1, .int .i64 x2]) (t := 45) ?hr ?_; (case hd => rfl); (case hg => rfl); (case hr => first | (go_simp; done) | (go_simp; rfl)); intro gX hg w1 hbox hb; have GE_gX : w.heap.size ≤ gX := (by rw [hg]; exact below_size HB.out); replace HB := Lib.hid (below_step HB.out hb); have BK_gX := Lib.hid hbox; clear hb hbox hg) | ((with_reducible refine gate_dst (N := 2) rfl ?_); refine box_event ?hg (N := 2) ?hd (cs := #[.int .i64 0, .int .i64 0, .slice none 0 0]) (t := 24) ?hr ?_; (case hd => rfl); (case hg => rfl); (case hr => first | (go_simp; done) | (go_simp; rfl)); intro gR hg w2 hbox hb; have GE_gR : w.heap.size ≤ gR := (by rw [hg]; exact below_size HB.out); replace HB := Lib.hid (below_step HB.out hb); replace BK_gX := bB BK_gX hb; have BK_gR := Lib.hid hbox; clear hb hbox hg))
 replace HB := Lib.hid (below_drew1 HB.out)
 replace BK_gX := bD BK_gX
 replace BK_gR := bD BK_gR
 refine start_ (n := 7) (S := fun w' => w'.cell? ⟨gX, 0, none⟩ = some (.int .i64 x0) ∧ w'.cell? ⟨gX, 1, none⟩ = some (.int .i64 x1) ∧ w'.cell? ⟨gX, 2, none⟩ = some (.int .i64 x2)) (ds := [5]) #[false, false, false, false, false, false, false] (by kernel_rfl) rfl rfl ⟨((blk_cell BK_gX.out 0).trans rfl), ((blk_cell BK_gX.out 1).trans rfl), ((blk_cell BK_gX.out 2).trans rfl)⟩ (fun hHeld => ?_)
 generalize w2.drew = w3 at HB BK_gX BK_gR hHeld ⊢
 refine take_ (i := 1) (N := some 5) (v := ?_) (a' := ?_) #[false, true, false, false, false, false, false] rfl rfl (by kernel_rfl) (fun _ _ _ h => h) (Or.inl ⟨by rfl, ?_⟩) hHeld ?_ ?_
 rotate_left
 ·rintro w' ⟨s0, s1, s2⟩
  go_simp
  with_reducible rfl
 rotate_left
 ·simp only [Act.put, sA, sZ, sS, i64_w, i32_w]
  rfl
 refine one_ (i := 0) (N := some 4) #[true, true, false, false, false, false, false] rfl rfl (by kernel_rfl) (by decide) (fun K hK => ?_)
 refine goes_ Tryz.func55 (by kernel_rfl) rfl #[] (by rfl) rfl rfl (by first | rfl | (simp only [List.map_toArray, List.map_nil]; done) | (simp only [List.map_toArray, List.map_nil]; rfl)) ?_
 with_reducible refine (ctorFault _).mono ?_
 rintro e w4 ⟨rfl, hb⟩
 refine ⟨_, rfl, ?_⟩
 replace HB := Lib.hid (below_step HB.out hb)
 replace BK_gX := bB BK_gX hb
 replace BK_gR := bB BK_gR hb
 clear hb
 refine hK.out _ _ ⟨((blk_cell BK_gX.out 0).trans rfl), ((blk_cell BK_gX.out 1).trans rfl), ((blk_cell BK_gX.out 2).trans rfl)⟩ (fun hHeld => ?_)
 clear hK K
 refine norm_ (a' := ?_) ?_ ?_
 rotate_left
 ·show Act.put _ (some 4) _ = _
  simp only [Act.put, sA, sZ, sS, i64_w, i32_w]
  rfl
 refine one_ (i := 2) (N := some 6) #[true, true, true, false, false, false, false] rfl rfl (by kernel_rfl) (by decide) (fun K hK => ?_)
 have LT := (blk_lt BK_gR.out : gR < w4.heap.size)
 have LB := below_size HB.out
 refine goes_ Tryz.func146 (by kernel_rfl) rfl #[.agg #[.int .i64 6, .int .i64 1, .int .i64 2, .func (.func 125) #[] #[], .func (.func 126) #[] #[], .func (.func 127) #[] #[]], .agg #[.int .i64 x0, .int .i64 x1, .int .i64 x2]] (by rfl) rfl rfl (by simp only [mT, mC, mN]; rfl) ?_
 with_reducible refine (HC.out _ HB.out).mono ?_
 rintro e w5 ⟨v9, rfl, hr9, hb⟩
 refine ⟨_, rfl, ?_⟩
 replace HB := Lib.hid (below_step HB.out hb)
 replace BK_gX := bB BK_gX hb
 replace BK_gR := bB BK_gR hb
 clear hb
 obtain ⟨A9, c9, rfl, _, _⟩ := Kd.R_reads hr9
 have HQ := Lib.hid hr9
 clear hr9
 refine hK.out _ _ ⟨((blk_cell BK_gX.out 0).trans rfl), ((blk_cell BK_gX.out 1).trans rfl), ((blk_cell BK_gX.out 2).trans rfl)⟩ (fun hHeld => ?_)
 clear hK K
 refine norm_ (a' := ?_) ?_ ?_
 rotate_left
 ·show Act.put _ (some 6) _ = _
  simp only [Act.put, sA, sZ, sS, i64_w, i32_w]
  rfl
 refine pure_ (i := 3) (N := some 7) (v := ?_) (a' := ?_) #[true, true, true, true, false, false, false] rfl rfl (by kernel_rfl) (fun _ _ _ h => h) (Or.inl ⟨by rfl, ?_⟩) ?_ ?_
 rotate_left
 ·intro w'
  go_simp
  with_reducible rfl
 rotate_left
 ·simp only [Act.put, sA, sZ, sS, i64_w, i32_w]
  rfl
 refine pure_ (i := 4) (N := some 8) (v := ?_) (a' := ?_) #[true, true, true, true, true, false, false] rfl rfl (by kernel_rfl) (fun _ _ _ h => h) (Or.inl ⟨by rfl, ?_⟩) ?_ ?_
 rotate_left
 ·intro w'
  go_simp
  with_reducible rfl
 rotate_left
 ·simp only [Act.put, sA, sZ, sS, i64_w, i32_w]
  rfl
 refine last_ (i := 5) (N := none) #[true, true, true, true, true, true, false] rfl rfl (by kernel_rfl) (by decide) (fun K hK => ?_)
 have k_gR_0 := bC BK_gR 0 (.int .i64 0) rfl
 have k_gR_1 := bC BK_gR 1 (.int .i64 0) rfl
 have k_gR_2 := bC BK_gR 2 (.slice none 0 0) rfl
 have f_gR_0 := bF BK_gR 0
 have f_gR_1 := bF BK_gR 1
 have f_gR_2 := bF BK_gR 2
 refine skip_ (w1 := ?_) (by rfl) rfl ?_ ?_
 rotate_left
 ·go_simp
  rfl
 refine hK.out _ _ ?_
 clear hK K
 refine pure_ (i := 6) (N := some 3) (v := ?_) (a' := ?_) #[true, true, true, true, true, true, true] rfl rfl (by kernel_rfl) (fun _ _ _ h => h) (Or.inl ⟨by rfl, ?_⟩) ?_ ?_
 rotate_left
 ·intro w'
  go_simp
  with_reducible rfl
 rotate_left
 ·simp only [Act.put, sA, sZ, sS, i64_w, i32_w]
  rfl
 refine done_ (by kernel_rfl) ?_
 go_wp2
 refine bodyPost_ret (results_ct rfl _ _ gR 24 #[.int .i64 C, .int .i64 T', .slice A9 l'.length c9] (0, 0) _ rfl (blk_put (cs' := #[.int .i64 C, .int .i64 T', .slice A9 l'.length c9]) (blk_put (cs' := #[.int .i64 C, .int .i64 T', .slice none 0 0]) (blk_put (cs' := #[.int .i64 C, .int .i64 0, .slice none 0 0]) (BK_gR.out) 0 _ rfl) 1 _ rfl) 2 _ rfl) Tryz.underlying24 rfl (by kernel_rfl)) rfl ?_
 exact ⟨_, rfl, Kd.R_lower (R_old (p := ⟨gR, 2, none⟩) (R_old (p := ⟨gR, 1, none⟩) (R_old (p := ⟨gR, 0, none⟩) HQ.out LT _) LT _) LT _) LB, below_set (below_set (below_set HB.out GE_gR) GE_gR) GE_gR⟩
def object_Fault.f (a0_0 a0_1 a0_2 : Int) : Option (Int × Int × List Int × Int) := (object_faults_3.f a0_0 a0_1 a0_2).bind fun m => (object_faults_1.f a0_0 a0_1 a0_2).bind fun l' => some (if m then 6 else 0, if m then 1 else 0, if m then l' else [], if m then 0 else 2)
theorem object_Fault.calls (a0_0 a0_1 a0_2 r1 r2 : Int) (r3 : List Int) (r4 : Int) (w : World) (h : object_Fault.f a0_0 a0_1 a0_2 = some (r1, r2, r3, r4)) :
  Calls Tryz.prog 76 #[.agg #[.int .i64 a0_0, .int .i64 a0_1, .int .i64 a0_2]] w fun e w' => ∃ v, e = .returned (.tuple #[.agg #[.int .i64 r1, .int .i64 r2, v], .int .i64 r4]) ∧ Kd.R (Kd.int .i64) 2 w' w.heap.size (fun _ => True) v r3 ∧ Below w.heap.size w w' := by
 obtain ⟨m, hm, h⟩ := Option.bind_eq_some_iff.mp h
 obtain ⟨l', hw, h⟩ := Option.bind_eq_some_iff.mp h
 injection h with h
 simp only [Prod.mk.injEq] at h
 obtain ⟨rfl, rfl, rfl, rfl⟩ := h
 refine towFault a0_0 a0_1 a0_2 _ _ _ _ w (fun W hW  => ?_)
 exact objectFault_run 6 1 2  _ a0_0 a0_1 a0_2 _ W (fun W' hW' => (object_faults_3.calls a0_0 a0_1 a0_2 _ W' hm).mono (fun e w' h => ⟨h.1, toBelow h.2⟩)) (fun W' hW' => object_faults_1.calls a0_0 a0_1 a0_2 _ W' hw)
def object_AsFault.f (a0_0 a0_1 : Int) (l0_2 : List Int) : Option (Int × Int × Int × Int) := if a0_0 = 6 ∧ a0_1 = 1 ∧ ((l0_2.length : Nat) : Int) = 2 then ((object_faults_2.f l0_2).bind fun (x0, x1, x2) => (object_faults_3.f x0 x1 x2).bind fun m => (object_faults_1.f x0 x1 x2).bind fun l' => some (if m && decide (l' = l0_2) then x0 else 0, if m && decide (l' = l0_2) then x1 else 0, if m && decide (l' = l0_2) then x2 else 0, if m && decide (l' = l0_2) then 0 else 171)) else some (0, 0, 0, 171)
theorem object_AsFault.calls (a0_0 a0_1 : Int) (A0_2 : Option Addr) (c0_2 : Nat) (l0_2 : List Int) (r1 r2 r3 r4 : Int) (w : World) (hr0_2 : Kd.C (Kd.int .i64) w A0_2 l0_2.length l0_2) (hc0_2 : l0_2.length ≤ c0_2) (h : object_AsFault.f a0_0 a0_1 l0_2 = some (r1, r2, r3, r4)) :
  Calls Tryz.prog 21 #[.agg #[.int .i64 a0_0, .int .i64 a0_1, .slice A0_2 l0_2.length c0_2]] w fun e w' => e = .returned (.tuple #[.agg #[.int .i64 r1, .int .i64 r2, .int .i64 r3], .int .i64 r4]) ∧ Below w.heap.size w w' := by
 refine aswFault a0_0 a0_1 A0_2 l0_2.length c0_2 _ _ _ _ w (fun W hW  => ?_)
 unfold object_AsFault.f at h
 split at h
 ·rename_i hq
  obtain ⟨rfl, rfl, hlen⟩ := hq
  obtain ⟨⟨x0, x1, x2⟩, ht, h⟩ := Option.bind_eq_some_iff.mp h
  obtain ⟨m, hm, h⟩ := Option.bind_eq_some_iff.mp h
  obtain ⟨l', hw, h⟩ := Option.bind_eq_some_iff.mp h
  refine (asFault_run 6 1 2 A0_2 c0_2 l0_2 l' x0 x1 x2 _ W (Kd.C_below hr0_2 hW) hc0_2 hlen (fun W' hW' => (object_faults_2.calls A0_2 c0_2 l0_2 _ _ _ W' (Kd.C_below (Kd.C_below hr0_2 hW) hW') hc0_2 ht).mono (fun e w' h => ⟨h.1, toBelow h.2⟩)) (fun W' hW' => (object_faults_3.calls x0 x1 x2 _ W' hm).mono (fun e w' h => ⟨h.1, toBelow h.2⟩)) (fun W' hW' => object_faults_1.calls x0 x1 x2 _ W' hw)).mono ?_
  rintro e w' ⟨rfl, hb⟩
  injection h with h
  simp only [Prod.mk.injEq] at h
  obtain ⟨rfl, rfl, rfl, rfl⟩ := h
  refine ⟨?_, hb⟩
  cases (m && decide (l' = l0_2)) <;> rfl
 ·rename_i hq
  injection h with h
  simp only [Prod.mk.injEq] at h
  obtain ⟨rfl, rfl, rfl, rfl⟩ := h
  exact (asFault_no 6 1 2 a0_0 a0_1 A0_2 c0_2 l0_2 W (by by_cases e1 : a0_0 = 6 <;> by_cases e2 : a0_1 = 1 <;> simp_all)).mono (fun e w' h => ⟨h.1, h.2⟩)
end Go.Proofs.YtecghmlojllkdaaGreat.P
namespace Go.Proofs.YtecghmlojllkdaaGreat.P
open Go.RowKit Go.Maps Go.Proofs.YtecghmlojllkdaaGreatW.PrintWords Go.Proofs.YtecghmlojllkdaaGreatW.PrintLast
set_option linter.unusedVariables false
set_option linter.unusedSimpArgs false
set_option maxRecDepth 100000
def styE : Array MapEntry := #[⟨.int .i64 1, .int .i64 10, 0⟩, ⟨.int .i64 2, .int .i64 18, 1⟩, ⟨.int .i64 3, .int .i64 17, 2⟩]
def styW (x : Int) : Int := if x = 1 then 10 else if x = 2 then 18 else if x = 3 then 17 else 0
def styT (n : Int) : Int := if n = 10 then 1 else if n = 18 then 2 else if n = 17 then 3 else 0
theorem sty_check (w : World) (em : Bool) (x : Int) : (Instr.checkKey em 10000 50 (.int .i64 x)).run Tryz.prog w = .ok () w := by
 show (Instr.checkKey em (9999 + 1) 50 (.int .i64 x)).run Tryz.prog w = .ok () w
 unfold Instr.checkKey
 simp [run_underlying Tryz.underlying50, Result.andThen]
theorem sty_find (w : World) (x : Int) : (Instr.findKey 50 (.int .i64 x) styE.toList).run Tryz.prog w = .ok (if x = 1 then some (0, .int .i64 10) else if x = 2 then some (1, .int .i64 18) else if x = 3 then some (2, .int .i64 17) else none) w := by
 unfold Instr.findKey
 have h : Instr.findNow (.int .i64) (.int .i64 x) styE.toList 0 = some (if x = 1 then some (0, .int .i64 10) else if x = 2 then some (1, .int .i64 18) else if x = 3 then some (2, .int .i64 17) else none) := by
  show Instr.findNow (.int .i64) (.int .i64 x) [⟨.int .i64 1, .int .i64 10, 0⟩, ⟨.int .i64 2, .int .i64 18, 1⟩, ⟨.int .i64 3, .int .i64 17, 2⟩] 0 = _
  by_cases h1 : x = 1
  ·subst h1; rfl
  ·by_cases h2 : x = 2
   ·subst h2; rfl
   ·by_cases h3 : x = 3
    ·subst h3; rfl
    ·have e1 : (x == 1) = false := by simpa using h1
     have e2 : (x == 2) = false := by simpa using h2
     have e3 : (x == 3) = false := by simpa using h3
     simp [Instr.findNow, Instr.sameNow, h1, h2, h3, e1, e2, e3]
 simp [run_underlying Tryz.underlying50, Result.andThen, h]
theorem sty_lookup (w : World) (bm : Nat) (x : Int) (h : w.heap[bm]? = some (.map styE 3)) : (Instr.lookup 195 (.map (some bm)) (.int .i64 x) false).run Tryz.prog w = .ok (.int .i64 (styW x)) w := by
 have hz : (zeroValue 2).run Tryz.prog w = .ok (.int .i64 0) w := by kernel_rfl
 simp [Instr.lookup, run_underlying Tryz.underlying195, MapKept.run_getObj_map h, sty_check, sty_find, Result.andThen]
 by_cases h1 : x = 1
 ·subst h1; simp [styW]
 ·by_cases h2 : x = 2
  ·subst h2; simp [styW]
  ·by_cases h3 : x = 3
   ·subst h3; simp [styW]
   ·simp [h1, h2, h3, styW, hz, Result.andThen]
noncomputable def styD : DataW Unit := .map ((styE.toList.map (WideElems.rg Tryz.prog 50 (plainElem Tryz.prog 2))).foldr DataW.insert [])
theorem styKeyed : Keyed Tryz.prog 50 := int_keyed Tryz.underlying50
theorem sty_key (x : Int) (h : (Lit.int .i64 x).wf = true) : keyOf Tryz.prog 50 (.int .i64 x) = some (.int .i64 x) := keyOf_int_mk Tryz.underlying50 h
theorem sty_rd (x c : Int) (b : Nat) (h : (Lit.int .i64 x).wf = true) (hc : (Lit.int .i64 c).wf = true) : WideElems.rd Tryz.prog 50 (plainElem (H := Unit) Tryz.prog 2) ⟨.int .i64 x, .int .i64 c, b⟩ = some (.int .i64 x, .lit (.int .i64 c)) :=
 WideElems.rd_mk (sty_key x h) (plainElem_int Tryz.underlying2 hc)
theorem styOwn (w : World) (bm : Nat) (h : w.heap[bm]? = some (.map styE 3)) : w.ownsMap (H := Unit) Tryz.prog 50 (plainElem Tryz.prog 2) bm 3 styD := by
 refine ⟨styE, 3, h, ⟨by decide, ⟨?_, by decide, ?_⟩, ?_⟩, Nat.le_refl _, rfl⟩
 ·intro x hx
  simp [styE] at hx
  rcases hx with rfl | rfl | rfl <;> simp
 ·simp [styE]
 ·intro x hx
  simp [styE] at hx
  rcases hx with rfl | rfl | rfl
  ·exact ⟨_, sty_rd 1 10 0 (by decide) (by decide)⟩
  ·exact ⟨_, sty_rd 2 18 1 (by decide) (by decide)⟩
  ·exact ⟨_, sty_rd 3 17 2 (by decide) (by decide)⟩
theorem styD_eq : styD = .map [(.int .i64 1, .lit (.int .i64 10)), (.int .i64 2, .lit (.int .i64 18)), (.int .i64 3, .lit (.int .i64 17))] := by
 unfold styD styE
 simp only [List.map_cons, List.map_nil, WideElems.rg, sty_rd 1 10 0 (by decide) (by decide), sty_rd 2 18 1 (by decide) (by decide), sty_rd 3 17 2 (by decide) (by decide), Option.getD_some]
 rfl
theorem sty_at (x c : Int) (h : ∀ zd, styD.atKey (.int .i64 x) zd = .lit (.int .i64 c)) : (x = 1 ∧ c = 10) ∨ (x = 2 ∧ c = 18) ∨ (x = 3 ∧ c = 17) := by
 have h := h .nil
 rw [styD_eq] at h
 by_cases h1 : x = 1
 ·subst h1; simp [DataW.atKey, Lit.sameKey] at h; omega
 ·by_cases h2 : x = 2
  ·subst h2; simp [DataW.atKey, Lit.sameKey] at h; omega
  ·by_cases h3 : x = 3
   ·subst h3; simp [DataW.atKey, Lit.sameKey] at h; omega
   ·simp [DataW.atKey, Lit.sameKey, Ne.symm h1, Ne.symm h2, Ne.symm h3] at h
section
variable {P : Program} {ops : Array Oper} {rest : List Oper} {o : Oper} {a : Act} {Q : Exit → Act → World → Prop}
theorem ins_event (w : World) (m x v : Operand) (hop : o.op = Op.insert 195 m x v) (hg : o.guard = none) (bm : Nat) (es : Array MapEntry) (clock : Nat) (hm : a.eval m = .map (some bm)) (hb : w.heap[bm]? = some (.map es clock)) (k c : Int) (hx : a.eval x = .int .i64 k) (hv : a.eval v = .int .i64 c)
  (hf : Instr.findNow (.int .i64) (.int .i64 k) es.toList 0 = some none)
  (hK : ∀ w', w'.heap[bm]? = some (.map (es.push ⟨.int .i64 k, .int .i64 c, clock⟩) (clock + 1)) → w.grownBy w' (some bm) → wpList Tryz.prog ops Q rest (a.put o.dst undef) w') : wpList Tryz.prog ops Q (o :: rest) a w := by
 refine wpList_plain hg fun K' hK' => ?_
 have hfk : (Instr.findKey 50 (.int .i64 k) es.toList).run Tryz.prog w = .ok none w := by
  unfold Instr.findKey
  simp [run_underlying Tryz.underlying50, Result.andThen, hf]
 have hrun : (Instr.mapUpdate 195 (.map (some bm)) (.int .i64 k) (.int .i64 c)).run Tryz.prog w = .ok () (ChangeMaps.setBlock w bm (.map (es.push ⟨.int .i64 k, .int .i64 c, clock⟩) (clock + 1))) := by
  simp [Instr.mapUpdate, run_underlying Tryz.underlying195, MapKept.run_getObj_map hb, sty_check, hfk, Result.andThen, MapKept.run_setObj_map _ hb, ChangeMaps.setBlock]
 unfold Oper.wp
 simp [execOp, hop, hm, hx, hv, hrun, Result.andThen]
 exact hK' _ _ (hK _ (ChangeMaps.heap_setBlock_same hb _) ⟨rfl, rfl, rfl, by simp [ChangeMaps.setBlock], fun i _ hi => ChangeMaps.heap_setBlock_other hb _ (fun e => hi (congrArg some e))⟩)
end
theorem R_one (W : World) (n : Int) : Kd.R (Kd.int .i64) 2 (W.alloc (.cells #[.int .i64 n] 2)) W.heap.size (fun _ => True) (.slice (some ⟨W.heap.size, 0, none⟩) 1 1) [n] :=
 ⟨fun _ _ => trivial, _, own_lit W W.heap.size 2 .i64 [n] (Nat.le_refl _) (by simp), by
  show Reps _ 1 ([] ++ [n]) ([] ++ [.int .i64 n])
  exact (Reps.none _ _).snoc rfl rfl⟩
def StyMap (w : World) (b : Nat) : Prop := ∃ bm, w.heap[b]? = some (.cells #[.map (some bm)] 195 (0, 0)) ∧ w.heap[bm]? = some (.map styE 3)
theorem obj_far {w : World} {g : Nat} {o : Obj} (h : w.heap[g]? = some o) {p : Addr} (hp : g ≠ p.block) (u : Value) : (w.setCell p u).heap[g]? = some o := (Below.heap_setCell w p u g hp).trans h
set_option maxHeartbeats 3200000 in
theorem ctorStyle (w : World) : Calls Tryz.prog 57 #[] w fun e w' => ∃ b1, e = .returned (.agg #[.int .i64 8, .int .i64 1, .int .i64 1, .func (.func 128) #[] #[.pointer (some ⟨b1, 0, none⟩)], .func (.func 129) #[] #[.pointer (some ⟨b1, 0, none⟩)], .func (.func 130) #[] #[.pointer (some ⟨b1, 0, none⟩)]]) ∧ StyMap w' b1 ∧ Below w.heap.size w w' := by
 have hmm := @run_makeMap Tryz.prog
 have hmf : ∀ (fn : Fn) (first cap : Array Value) (w : World), (Instr.makeFunc fn first cap).run Tryz.prog w = .ok (.func fn first cap) w := fun _ _ _ _ => rfl
 go_enter Tryz.func57, Tryz.ntmps57
 go_wp2_with (first
  | (refine ins_event _ _ _ _ rfl rfl (w.heap.size + 1) #[] 0 rfl ?hb1 1 10 rfl rfl rfl ?_; (case hb1 => have := blk_new (w.alloc (.cells #[.int .i64 0, .int .i64 0, .int .i64 0, .nilFunc, .nilFunc, .nilFunc] 121)) (.map #[] 0); rwa [World.size_alloc] at this); intro w1 h1 g1; have HM := Lib.hid h1; clear h1; have h0 := Lib.hid (blk_grown (blk_alloc (blk_new w (.cells #[.int .i64 0, .int .i64 0, .int .i64 0, .nilFunc, .nilFunc, .nilFunc] 121)) (.map #[] 0)) g1 (by simp)); have hB := Lib.hid (((((Below.refl _ w).alloc (Nat.le_refl _) (.cells #[.int .i64 0, .int .i64 0, .int .i64 0, .nilFunc, .nilFunc, .nilFunc] 121)).alloc (by simp) (.map #[] 0)).grown g1 (by simp; omega) (fun k e => by injection e with e; omega))); clear g1)
  | (refine ins_event _ _ _ _ rfl rfl (w.heap.size + 1) _ 1 rfl HM.out 2 18 rfl rfl rfl ?_; intro w2 h1 g1; clear HM; have HM := Lib.hid h1; clear h1; have h0' := Lib.hid (blk_grown h0.out g1 (by simp)); have hB' := Lib.hid (hB.out.grown g1 hB.out.size (fun k e => by injection e with e; omega)); clear g1 h0 hB)
  | (refine ins_event _ _ _ _ rfl rfl (w.heap.size + 1) _ 2 rfl HM.out 3 17 rfl rfl rfl ?_; intro w3 h1 g1; clear HM; have HM : Hid (w3.heap[w.heap.size + 1]? = some (.map styE 3)) := Lib.hid h1; clear h1; have h0 := Lib.hid (blk_grown h0'.out g1 (by simp)); have hB := Lib.hid (hB'.out.grown g1 hB'.out.size (fun k e => by injection e with e; omega)); clear g1 h0' hB'; have k0 : w3.cell? ⟨w.heap.size, 0, none⟩ = some (.int .i64 0) := (blk_cell h0.out 0).trans rfl; have k1 : w3.cell? ⟨w.heap.size, 1, none⟩ = some (.int .i64 0) := (blk_cell h0.out 1).trans rfl; have k2 : w3.cell? ⟨w.heap.size, 2, none⟩ = some (.int .i64 0) := (blk_cell h0.out 2).trans rfl; have k3 : w3.cell? ⟨w.heap.size, 3, none⟩ = some .nilFunc := (blk_cell h0.out 3).trans rfl; have k4 : w3.cell? ⟨w.heap.size, 4, none⟩ = some .nilFunc := (blk_cell h0.out 4).trans rfl; have k5 : w3.cell? ⟨w.heap.size, 5, none⟩ = some .nilFunc := (blk_cell h0.out 5).trans rfl; have hz : w.heap.size < w3.heap.size := blk_lt h0.out; have f0 : ∀ i, w3.frozen? ⟨w.heap.size, i, none⟩ = false := fun i => blk_frozen h0.out i))
 have hs : ((((((w3.setCell ⟨w.heap.size, 0, none⟩ (.int .i64 8)).setCell ⟨w.heap.size, 1, none⟩ (.int .i64 1)).setCell ⟨w.heap.size, 2, none⟩ (.int .i64 1)).setCell ⟨w.heap.size, 3, none⟩ (.func (.func 128) #[] #[.pointer (some ⟨w3.heap.size, 0, none⟩)])).setCell ⟨w.heap.size, 4, none⟩ (.func (.func 129) #[] #[.pointer (some ⟨w3.heap.size, 0, none⟩)])).setCell ⟨w.heap.size, 5, none⟩ (.func (.func 130) #[] #[.pointer (some ⟨w3.heap.size, 0, none⟩)])).heap.size = w3.heap.size := by simp [World.setCell]
 have b1 := blk_put (cs' := #[.int .i64 8, .int .i64 1, .int .i64 1, .func (.func 128) #[] #[.pointer (some ⟨w3.heap.size, 0, none⟩)], .func (.func 129) #[] #[.pointer (some ⟨w3.heap.size, 0, none⟩)], .func (.func 130) #[] #[.pointer (some ⟨w3.heap.size, 0, none⟩)]]) (blk_put (cs' := #[.int .i64 8, .int .i64 1, .int .i64 1, .func (.func 128) #[] #[.pointer (some ⟨w3.heap.size, 0, none⟩)], .func (.func 129) #[] #[.pointer (some ⟨w3.heap.size, 0, none⟩)], .nilFunc]) (blk_put (cs' := #[.int .i64 8, .int .i64 1, .int .i64 1, .func (.func 128) #[] #[.pointer (some ⟨w3.heap.size, 0, none⟩)], .nilFunc, .nilFunc]) (blk_put (cs' := #[.int .i64 8, .int .i64 1, .int .i64 1, .nilFunc, .nilFunc, .nilFunc]) (blk_put (cs' := #[.int .i64 8, .int .i64 1, .int .i64 0, .nilFunc, .nilFunc, .nilFunc]) (blk_put (cs' := #[.int .i64 8, .int .i64 0, .int .i64 0, .nilFunc, .nilFunc, .nilFunc]) (h0.out) 0 (.int .i64 8) rfl) 1 (.int .i64 1) rfl) 2 (.int .i64 1) rfl) 3 (.func (.func 128) #[] #[.pointer (some ⟨w3.heap.size, 0, none⟩)]) rfl) 4 (.func (.func 129) #[] #[.pointer (some ⟨w3.heap.size, 0, none⟩)]) rfl) 5 (.func (.func 130) #[] #[.pointer (some ⟨w3.heap.size, 0, none⟩)]) rfl
 have b2 := obj_far (p := ⟨w.heap.size, 5, none⟩) (obj_far (p := ⟨w.heap.size, 4, none⟩) (obj_far (p := ⟨w.heap.size, 3, none⟩) (obj_far (p := ⟨w.heap.size, 2, none⟩) (obj_far (p := ⟨w.heap.size, 1, none⟩) (obj_far (p := ⟨w.heap.size, 0, none⟩) (HM.out) (by show w.heap.size + 1 ≠ w.heap.size; omega) (.int .i64 8)) (by show w.heap.size + 1 ≠ w.heap.size; omega) (.int .i64 1)) (by show w.heap.size + 1 ≠ w.heap.size; omega) (.int .i64 1)) (by show w.heap.size + 1 ≠ w.heap.size; omega) (.func (.func 128) #[] #[.pointer (some ⟨w3.heap.size, 0, none⟩)])) (by show w.heap.size + 1 ≠ w.heap.size; omega) (.func (.func 129) #[] #[.pointer (some ⟨w3.heap.size, 0, none⟩)])) (by show w.heap.size + 1 ≠ w.heap.size; omega) (.func (.func 130) #[] #[.pointer (some ⟨w3.heap.size, 0, none⟩)])
 have b3 := Below.setCell (p := ⟨w.heap.size, 5, none⟩) (Below.setCell (p := ⟨w.heap.size, 4, none⟩) (Below.setCell (p := ⟨w.heap.size, 3, none⟩) (Below.setCell (p := ⟨w.heap.size, 2, none⟩) (Below.setCell (p := ⟨w.heap.size, 1, none⟩) (Below.setCell (p := ⟨w.heap.size, 0, none⟩) (hB.out) (Nat.le_refl w.heap.size) (.int .i64 8)) (Nat.le_refl w.heap.size) (.int .i64 1)) (Nat.le_refl w.heap.size) (.int .i64 1)) (Nat.le_refl w.heap.size) (.func (.func 128) #[] #[.pointer (some ⟨w3.heap.size, 0, none⟩)])) (Nat.le_refl w.heap.size) (.func (.func 129) #[] #[.pointer (some ⟨w3.heap.size, 0, none⟩)])) (Nat.le_refl w.heap.size) (.func (.func 130) #[] #[.pointer (some ⟨w3.heap.size, 0, none⟩)])
 generalize ((((((w3.setCell ⟨w.heap.size, 0, none⟩ (.int .i64 8)).setCell ⟨w.heap.size, 1, none⟩ (.int .i64 1)).setCell ⟨w.heap.size, 2, none⟩ (.int .i64 1)).setCell ⟨w.heap.size, 3, none⟩ (.func (.func 128) #[] #[.pointer (some ⟨w3.heap.size, 0, none⟩)])).setCell ⟨w.heap.size, 4, none⟩ (.func (.func 129) #[] #[.pointer (some ⟨w3.heap.size, 0, none⟩)])).setCell ⟨w.heap.size, 5, none⟩ (.func (.func 130) #[] #[.pointer (some ⟨w3.heap.size, 0, none⟩)])) = W at *
 refine bodyPost_ret (results_cell_row rfl _ _ w.heap.size 121 #[.int .i64 8, .int .i64 1, .int .i64 1, .func (.func 128) #[] #[.pointer (some ⟨w3.heap.size, 0, none⟩)], .func (.func 129) #[] #[.pointer (some ⟨w3.heap.size, 0, none⟩)], .func (.func 130) #[] #[.pointer (some ⟨w3.heap.size, 0, none⟩)]] (0, 0) _ rfl (blk_alloc b1 _) Tryz.underlying121 rfl (by kernel_rfl)) rfl ⟨w3.heap.size, rfl, ⟨w.heap.size + 1, ?_, blk_alloc b2 _⟩, b3.alloc b3.size _⟩
 rw [← hs]
 exact blk_new _ _
set_option maxHeartbeats 1600000 in
theorem styWords (x : Int) (b1 : Nat) (w : World) (h : StyMap w b1) : Calls Tryz.prog 128 #[.int .i64 x, .pointer (some ⟨b1, 0, none⟩)] w fun e w' => ∃ v, e = .returned v ∧ Kd.R (Kd.int .i64) 2 w' w.heap.size (fun _ => True) v [styW x] ∧ Below w.heap.size w w' := by
 obtain ⟨bm, h1, h2⟩ := h
 have k0 : w.cell? ⟨b1, 0, none⟩ = some (.map (some bm)) := (blk_cell h1 0).trans rfl
 have hl := sty_lookup w bm x h2
 clear h1 h2
 go_enter Tryz.func128, Tryz.ntmps128
 go_wp2_with (go_at_call 114; refine (list_ _ _).mono ?_; rintro e w' ⟨rfl, rfl⟩)
 go_ret
 exact ⟨_, rfl, R_one w (styW x), (Below.refl _ _).alloc (Nat.le_refl _) _⟩
theorem styMay (x : Int) (b1 : Nat) (w : World) (h : StyMap w b1) : Calls Tryz.prog 130 #[.int .i64 x, .pointer (some ⟨b1, 0, none⟩)] w fun e w' => e = .returned (.bool (decide (0 < styW x))) ∧ Below w.heap.size w w' := by
 obtain ⟨bm, h1, h2⟩ := h
 have k0 : w.cell? ⟨b1, 0, none⟩ = some (.map (some bm)) := (blk_cell h1 0).trans rfl
 have hl := sty_lookup w bm x h2
 clear h1 h2
 go_enter Tryz.func130, Tryz.ntmps130
 go_wp2
 go_ret
 exact ⟨rfl, Below.refl _ _⟩
set_option maxHeartbeats 3200000 in
theorem styThing (A0 : Option Addr) (c0 : Nat) (ws : List Int) (b1 : Nat) (w : World) (h : StyMap w b1) (hl : 0 < ws.length) (hr : Kd.C (Kd.int .i64) w A0 ws.length ws) :
  Calls Tryz.prog 129 #[.slice A0 ws.length c0, .pointer (some ⟨b1, 0, none⟩)] w fun e w' => e = .returned (.int .i64 (styT (rd ws 0))) ∧ Below w.heap.size w w' := by
 obtain ⟨bm, h1, h2⟩ := h
 have k0 : w.cell? ⟨b1, 0, none⟩ = some (.map (some bm)) := (blk_cell h1 0).trans rfl
 have HO := Lib.hid (styOwn w bm h2)
 obtain ⟨ad, hA, hx⟩ := Kd.at_int hr 0 (by omega) (by omega)
 subst hA
 simp [Addr.add] at hx
 have HX := Lib.hid hx
 have HW := Lib.hid (World.block_lt_of_cell? w _ hx)
 clear h1 h2 hr hx
 go_enter Tryz.func129, Tryz.ntmps129
 go_wp2_with (first | (at_range; refine wpList_range_own _ rfl _ 195 rfl 50 2 styKeyed Tryz.underlying195 (plainElem Tryz.prog 2) bm 3 styD rfl HO.out ?_; intro w0 hrg0 hg0 hs0) | go_in)
 go_frame
 have HG := Lib.hid hg0
 have HS := Lib.hid hs0
 clear hg0 hs0
 have hrgH := Lib.hid hrg0
 clear hrg0
 go_loopw [5] (fun _ wr => ∃ left cnt, wr.ranges (H := Unit) Tryz.prog 50 (plainElem Tryz.prog 2) bm w.heap.size 3 styD left cnt ∧ (∀ x, (x = 1 ∨ x = 2 ∨ x = 3) → left (.int .i64 x) = true ∨ styW x ≠ rd ws 0) ∧ Below w.heap.size w wr) (fun _ wr => wr.rangeLeft bm w.heap.size)
 case atStart =>
  refine ⟨_, _, hrgH.out, ?_, (Below.refl _ w).grown HG.out (Nat.le_refl _) (fun k e => by cases e)⟩
  intro x hx
  left
  rw [styD_eq]
  rcases hx with rfl | rfl | rfl <;> simp [has, Lit.sameKey]
 case round =>
  obtain ⟨left, cnt, hrg, hall, hbel⟩ := hrel
  have HA := Lib.hid hall
  have HB := Lib.hid hbel
  have HRG := Lib.hid hrg
  clear hall hbel hrg
  go_wp2_with (first | (at_next; refine wpList_next_ranges_ii _ rfl _ rfl 50 2 .i64 .i64 styKeyed Tryz.underlying50 Tryz.underlying2 bm w.heap.size 3 _ _ _ rfl HRG.out ?_ ?_) | go_in)
  ·intro hc0 hl0
   have HL := Lib.hid hl0
   clear hl0 hc0
   go_wp2
   go_ret
   refine ⟨ret_int ?_, HB.out⟩
   have q : ∀ x, (x = 1 ∨ x = 2 ∨ x = 3) → styW x ≠ rd ws 0 := fun x hx => (HA.out x hx).resolve_left (by rw [HL.out]; simp)
   have q1 := q 1 (by omega)
   have q2 := q 2 (by omega)
   have q3 := q 3 (by omega)
   simp [styW] at q1 q2 q3
   simp [styT, Ne.symm q1, Ne.symm q2, Ne.symm q3]
  ·intro x c w1 cnt1 hwx hwc hlx hat hrg1 hlt hg1 hs1 hen
   have hxc := Lib.hid (sty_at x c hat)
   have HR1 := Lib.hid hrg1
   have HB1 : Hid (Below w.heap.size w w1) := Lib.hid (HB.out.grown hg1 HB.out.size (fun k e => by injection e with e; omega))
   have HM : Hid (w1.rangeLeft bm w.heap.size < wr.rangeLeft bm w.heap.size) := Lib.hid (by rw [hrg1.left_eq, HRG.out.left_eq]; exact hlt)
   have hx : w1.cell? ad = some (.int .i64 (rd ws 0)) := (HB1.out.cell HW.out).trans HX.out
   clear hat hrg1 hg1 hs1 hlx hlt hwx hwc
   by_cases he : c = rd ws 0
   ·have hq : (c == rd ws 0) = true := by simpa using he
    have HE := Lib.hid he
    clear he
    go_wp2
    go_ret
    refine ⟨ret_int ?_, HB1.out⟩
    rw [← HE.out]
    rcases hxc.out with ⟨rfl, rfl⟩ | ⟨rfl, rfl⟩ | ⟨rfl, rfl⟩ <;> rfl
   ·have hq : (c == rd ws 0) = false := by simpa using he
    have HE := Lib.hid he
    clear he
    go_wp2
    go_roundw
    case rel =>
     refine ⟨_, _, HR1.out, fun z hz => ?_, HB1.out⟩
     by_cases hzx : z = x
     ·right
      subst hzx
      have : styW z = c := by rcases hxc.out with ⟨rfl, rfl⟩ | ⟨rfl, rfl⟩ | ⟨rfl, rfl⟩ <;> rfl
      rw [this]
      exact HE.out
     ·rcases HA.out z hz with h | h
      ·left
       simp [h, Lit.sameKey, hzx]
      ·exact .inr h
    case measure => exact HM.out
theorem StyMap.below {w w' : World} {b : Nat} (h : StyMap w b) (hb : Below w.heap.size w w') : StyMap w' b := by
 obtain ⟨bm, h1, h2⟩ := h
 exact ⟨bm, blk_below h1 hb, blk_below h2 hb⟩
def object_styles_1.f (x : Int) : Option (List Int) := some [styW x]
def object_styles_2.f (l : List Int) : Option Int := if 0 < l.length then some (styT (rd l 0)) else none
def object_styles_3.f (x : Int) : Option Bool := some (decide (0 < styW x))
theorem object_styles_1.calls (x : Int) (r : List Int) (b1 : Nat) (w : World) (hs : StyMap w b1) (h : object_styles_1.f x = some r) : Calls Tryz.prog 128 #[.int .i64 x, .pointer (some ⟨b1, 0, none⟩)] w fun e w' => ∃ v, e = .returned v ∧ Kd.R (Kd.int .i64) 2 w' w.heap.size (fun _ => True) v r ∧ Below w.heap.size w w' := by
 injection h with h
 subst h
 exact styWords x b1 w hs
theorem object_styles_2.calls (A0 : Option Addr) (c0 : Nat) (l0 : List Int) (r : Int) (b1 : Nat) (w : World) (hs : StyMap w b1) (hr0 : Kd.C (Kd.int .i64) w A0 l0.length l0) (h : object_styles_2.f l0 = some r) : Calls Tryz.prog 129 #[.slice A0 l0.length c0, .pointer (some ⟨b1, 0, none⟩)] w fun e w' => e = .returned (.int .i64 r) ∧ Below w.heap.size w w' := by
 unfold object_styles_2.f at h
 split at h
 ·rename_i hl
  injection h with h
  subst h
  exact styThing A0 c0 l0 b1 w hs hl hr0
 ·cases h
theorem object_styles_3.calls (x : Int) (r : Bool) (b1 : Nat) (w : World) (hs : StyMap w b1) (h : object_styles_3.f x = some r) : Calls Tryz.prog 130 #[.int .i64 x, .pointer (some ⟨b1, 0, none⟩)] w fun e w' => e = .returned (.bool r) ∧ Below w.heap.size w w' := by
 injection h with h
 subst h
 exact styMay x b1 w hs
end Go.Proofs.YtecghmlojllkdaaGreat.P

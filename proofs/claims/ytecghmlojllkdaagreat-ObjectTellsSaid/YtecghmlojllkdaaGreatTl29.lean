import Derived.Test.YtecghmlojllkdaaGreatTl26
import Derived.Test.YtecghmlojllkdaaGreatTl27
import Derived.Test.YtecghmlojllkdaaGreatTl28
import Derived.Test.YtecghmlojllkdaaGreatTl6
import Derived.Test.YtecghmlojllkdaaGreatTl5
import Derived.Test.YtecghmlojllkdaaGreatTl7
import Derived.Test.YtecghmlojllkdaaGreatTl10
import Derived.Test.YtecghmlojllkdaaGreatTl1
import Derived.Test.YtecghmlojllkdaaGreatTl12
import Derived.Test.YtecghmlojllkdaaGreatTl15
import Derived.Test.YtecghmlojllkdaaGreatTl16
import Derived.Test.YtecghmlojllkdaaGreatTl22
import Derived.Test.YtecghmlojllkdaaGreatTl24
import Derived.Test.YtecghmlojllkdaaGreatTl2
namespace Go.Proofs.YtecghmlojllkdaaGreat.P
open Go.RowKit Go.Proofs.YtecghmlojllkdaaGreatW.PrintWords Go.Proofs.YtecghmlojllkdaaGreatW.PrintLast
set_option linter.unusedVariables false
set_option linter.unusedSimpArgs false
set_option maxRecDepth 100000
set_option maxHeartbeats 1600000 in
theorem ctorTerms (w : World) : Calls Tryz.prog 141 #[] w fun e w' => e = .returned (.agg #[.int .i64 13, .int .i64 2, .int .i64 2, .func (.func 196) #[] #[], .func (.func 197) #[] #[], .func (.func 198) #[] #[]]) ∧ Below w.heap.size w w' := by
 go_enter Tryz.func141, Tryz.ntmps141
 go_wp2
 exact bodyPost_ret (v := .agg #[.int .i64 13, .int .i64 2, .int .i64 2, .func (.func 196) #[] #[], .func (.func 197) #[] #[], .func (.func 198) #[] #[]]) (by simp [results, Tryz.results141, go_sem]) rfl ⟨rfl, (Below.refl _ _).alloc (Nat.le_refl _) _⟩
set_option maxHeartbeats 6400000 in
theorem aswTerms (c t : Int) (A0 : Option Addr) (n0 c0 : Nat) (y0 y1 E : Int) (w : World)
  (hcall : ∀ W, Below w.heap.size w W → Calls Tryz.prog 142 #[.agg #[.int .i64 13, .int .i64 2, .int .i64 2, .func (.func 196) #[] #[], .func (.func 197) #[] #[], .func (.func 198) #[] #[]], .agg #[.int .i64 c, .int .i64 t, .slice A0 n0 c0]] W fun e w' => e = .returned (.tuple #[.agg #[.int .i64 y0, .int .i64 y1], .int .i64 E]) ∧ Below W.heap.size W w') :
  Calls Tryz.prog 69 #[.agg #[.int .i64 c, .int .i64 t, .slice A0 n0 c0]] w fun e w' => e = .returned (.tuple #[.agg #[.int .i64 y0, .int .i64 y1], .int .i64 E]) ∧ Below w.heap.size w w' := by
 have HC := Lib.hid hcall
 clear hcall
 have HB := Lib.hid (Below.refl w.heap.size w)
 go_enter Tryz.func69, Tryz.ntmps69
 go_wp2_with (first | ((with_reducible refine gate_dst (N := 1) rfl ?_); refine box_event ?hg (N := 1) ?hd (cs := #[.int .i64 c, .int .i64 t, .slice A0 n0 c0]) (t := 24) ?hr ?_; (case hd => rfl); (case hg => rfl); (case hr => first | (go_simp; done) | (go_simp; rfl)); intro gO hg w1 hbox hb; have GE_gO : w.heap.size ≤ gO := (by rw [hg]; exact below_size HB.out); replace HB := Lib.hid (below_step HB.out hb); have BK_gO := Lib.hid hbox; clear hb hbox hg) | ((with_reducible refine gate_dst (N := 2) rfl ?_); refine box_event ?hg (N := 2) ?hd (cs := #[.int .i64 0, .int .i64 0]) (t := 68) ?hr ?_; (case hd => rfl); (case hg => rfl); (case hr => first | (go_simp; done) | (go_simp; rfl)); intro gR hg w2 hbox hb; have GE_gR : w.heap.size ≤ gR := (by rw [hg]; exact below_size HB.out); replace HB := Lib.hid (below_step HB.out hb); replace BK_gO := bB BK_gO hb; have BK_gR := Lib.hid hbox; clear hb hbox hg))
 replace HB := Lib.hid (below_drew1 HB.out)
 replace BK_gO := bD BK_gO
 replace BK_gR := bD BK_gR
 refine start_ (n := 7) (S := fun w' => w'.cell? ⟨gO, 0, none⟩ = some (.int .i64 c) ∧ w'.cell? ⟨gO, 1, none⟩ = some (.int .i64 t) ∧ w'.cell? ⟨gO, 2, none⟩ = some (.slice A0 n0 c0)) (ds := [5]) #[false, false, false, false, false, false, false] (by kernel_rfl) rfl rfl ⟨((blk_cell BK_gO.out 0).trans rfl), ((blk_cell BK_gO.out 1).trans rfl), ((blk_cell BK_gO.out 2).trans rfl)⟩ (fun hHeld => ?_)
 generalize w2.drew = w3 at HB BK_gO BK_gR hHeld ⊢
 refine take_ (i := 1) (N := some 5) (v := ?_) (a' := ?_) #[false, true, false, false, false, false, false] rfl rfl (by kernel_rfl) (fun _ _ _ h => h) (Or.inl ⟨by rfl, ?_⟩) hHeld ?_ ?_
 rotate_left
 ·rintro w' ⟨s0, s1, s2⟩
  go_simp
  with_reducible rfl
 rotate_left
 ·simp only [Act.put, sA, sZ, sS, i64_w, i32_w]
  rfl
 refine one_ (i := 0) (N := some 4) #[true, true, false, false, false, false, false] rfl rfl (by kernel_rfl) (by decide) (fun K hK => ?_)
 refine goes_ Tryz.func141 (by kernel_rfl) rfl #[] (by rfl) rfl rfl (by first | rfl | (simp only [List.map_toArray, List.map_nil]; done) | (simp only [List.map_toArray, List.map_nil]; rfl)) ?_
 with_reducible refine (ctorTerms _).mono ?_
 rintro e w4 ⟨rfl, hb⟩
 refine ⟨_, rfl, ?_⟩
 replace HB := Lib.hid (below_step HB.out hb)
 replace BK_gO := bB BK_gO hb
 replace BK_gR := bB BK_gR hb
 clear hb
 refine hK.out _ _ ⟨((blk_cell BK_gO.out 0).trans rfl), ((blk_cell BK_gO.out 1).trans rfl), ((blk_cell BK_gO.out 2).trans rfl)⟩ (fun hHeld => ?_)
 clear hK K
 refine norm_ (a' := ?_) ?_ ?_
 rotate_left
 ·show Act.put _ (some 4) _ = _
  simp only [Act.put, sA, sZ, sS, i64_w, i32_w]
  rfl
 refine one_ (i := 2) (N := some 6) #[true, true, true, false, false, false, false] rfl rfl (by kernel_rfl) (by decide) (fun K hK => ?_)
 refine goes_ Tryz.func142 (by kernel_rfl) rfl #[.agg #[.int .i64 13, .int .i64 2, .int .i64 2, .func (.func 196) #[] #[], .func (.func 197) #[] #[], .func (.func 198) #[] #[]], .agg #[.int .i64 c, .int .i64 t, .slice A0 n0 c0]] (by rfl) rfl rfl (by simp only [mT, mC, mN]; rfl) ?_
 with_reducible refine (HC.out _ HB.out).mono ?_
 rintro e w5 ⟨rfl, hb⟩
 refine ⟨_, rfl, ?_⟩
 replace HB := Lib.hid (below_step HB.out hb)
 replace BK_gO := bB BK_gO hb
 replace BK_gR := bB BK_gR hb
 clear hb
 refine hK.out _ _ ⟨((blk_cell BK_gO.out 0).trans rfl), ((blk_cell BK_gO.out 1).trans rfl), ((blk_cell BK_gO.out 2).trans rfl)⟩ (fun hHeld => ?_)
 clear hK K
 refine norm_ (a' := ?_) ?_ ?_
 rotate_left
 ·show Act.put _ (some 6) _ = _
  simp only [Act.put, sA, sZ, sS, i64_w, i32_w]
  rfl
 refine pure_ (i := 3) (N := some 7) (v := ?_) (a' := ?_) #[true, true, true, true, false, false, false] rfl rfl (by kernel_rfl) (fun _ _ _ h => h) (Or.inl ⟨by rfl, ?_⟩) ?_ ?_
 rotate_left
 ·intro w'
  go_simp
  with_reducible rfl
 rotate_left
 ·simp only [Act.put, sA, sZ, sS, i64_w, i32_w]
  rfl
 refine pure_ (i := 4) (N := some 8) (v := ?_) (a' := ?_) #[true, true, true, true, true, false, false] rfl rfl (by kernel_rfl) (fun _ _ _ h => h) (Or.inl ⟨by rfl, ?_⟩) ?_ ?_
 rotate_left
 ·intro w'
  go_simp
  with_reducible rfl
 rotate_left
 ·simp only [Act.put, sA, sZ, sS, i64_w, i32_w]
  rfl
 refine last_ (i := 5) (N := none) #[true, true, true, true, true, true, false] rfl rfl (by kernel_rfl) (by decide) (fun K hK => ?_)
 have k_gR_0 := bC BK_gR 0 (.int .i64 0) rfl
 have k_gR_1 := bC BK_gR 1 (.int .i64 0) rfl
 have f_gR_0 := bF BK_gR 0
 have f_gR_1 := bF BK_gR 1
 refine skip_ (w1 := ?_) (by rfl) rfl ?_ ?_
 rotate_left
 ·go_simp
  rfl
 refine hK.out _ _ ?_
 clear hK K
 refine pure_ (i := 6) (N := some 3) (v := ?_) (a' := ?_) #[true, true, true, true, true, true, true] rfl rfl (by kernel_rfl) (fun _ _ _ h => h) (Or.inl ⟨by rfl, ?_⟩) ?_ ?_
 rotate_left
 ·intro w'
  go_simp
  with_reducible rfl
 rotate_left
 ·simp only [Act.put, sA, sZ, sS, i64_w, i32_w]
  rfl
 refine done_ (by kernel_rfl) ?_
 go_wp2
 refine bodyPost_ret (results_ct rfl _ _ gR 68 #[.int .i64 y0, .int .i64 y1] (0, 0) _ rfl (blk_put (cs' := #[.int .i64 y0, .int .i64 y1]) (blk_put (cs' := #[.int .i64 y0, .int .i64 0]) (BK_gR.out) 0 _ rfl) 1 _ rfl) Tryz.underlying68 rfl (by kernel_rfl)) rfl ?_
 exact ⟨rfl, below_set (below_set (HB.out) GE_gR) GE_gR⟩
set_option maxHeartbeats 6400000 in
theorem towTerms (x0 x1 C T' E : Int) (l' : List Int) (w : World)
  (hcall : ∀ W, Below w.heap.size w W → Calls Tryz.prog 151 #[.agg #[.int .i64 13, .int .i64 2, .int .i64 2, .func (.func 196) #[] #[], .func (.func 197) #[] #[], .func (.func 198) #[] #[]], .agg #[.int .i64 x0, .int .i64 x1]] W (ObjP C T' E l' W)) :
  Calls Tryz.prog 83 #[.agg #[.int .i64 x0, .int .i64 x1]] w (ObjP C T' E l' w) := by
 have HC := Lib.hid hcall
 clear hcall
 have HB := Lib.hid (Below.refl w.heap.size w)
 go_enter Tryz.func83, Tryz.ntmps83
 go_wp2_with (first | ((with_reducible refine gate_dst (N := 1) rfl ?_); refine box_event ?hg (N := 1) ?hd (cs := #[.int .i64 x0, .int .i64 x1]) (t := 68) ?hr ?_; (case hd => rfl); (case hg => rfl); (case hr => first | (go_simp; done) | (go_simp; rfl)); intro gX hg w1 hbox hb; have GE_gX : w.heap.size ≤ gX := (by rw [hg]; exact below_size HB.out); replace HB := Lib.hid (below_step HB.out hb); have BK_gX := Lib.hid hbox; clear hb hbox hg) | ((with_reducible refine gate_dst (N := 2) rfl ?_); refine box_event ?hg (N := 2) ?hd (cs := #[.int .i64 0, .int .i64 0, .slice none 0 0]) (t := 24) ?hr ?_; (case hd => rfl); (case hg => rfl); (case hr => first | (go_simp; done) | (go_simp; rfl)); intro gR hg w2 hbox hb; have GE_gR : w.heap.size ≤ gR := (by rw [hg]; exact below_size HB.out); replace HB := Lib.hid (below_step HB.out hb); replace BK_gX := bB BK_gX hb; have BK_gR := Lib.hid hbox; clear hb hbox hg))
 replace HB := Lib.hid (below_drew1 HB.out)
 replace BK_gX := bD BK_gX
 replace BK_gR := bD BK_gR
 refine start_ (n := 7) (S := fun w' => w'.cell? ⟨gX, 0, none⟩ = some (.int .i64 x0) ∧ w'.cell? ⟨gX, 1, none⟩ = some (.int .i64 x1)) (ds := [5]) #[false, false, false, false, false, false, false] (by kernel_rfl) rfl rfl ⟨((blk_cell BK_gX.out 0).trans rfl), ((blk_cell BK_gX.out 1).trans rfl)⟩ (fun hHeld => ?_)
 generalize w2.drew = w3 at HB BK_gX BK_gR hHeld ⊢
 refine take_ (i := 1) (N := some 5) (v := ?_) (a' := ?_) #[false, true, false, false, false, false, false] rfl rfl (by kernel_rfl) (fun _ _ _ h => h) (Or.inl ⟨by rfl, ?_⟩) hHeld ?_ ?_
 rotate_left
 ·rintro w' ⟨s0, s1⟩
  go_simp
  with_reducible rfl
 rotate_left
 ·simp only [Act.put, sA, sZ, sS, i64_w, i32_w]
  rfl
 refine one_ (i := 0) (N := some 4) #[true, true, false, false, false, false, false] rfl rfl (by kernel_rfl) (by decide) (fun K hK => ?_)
 refine goes_ Tryz.func141 (by kernel_rfl) rfl #[] (by rfl) rfl rfl (by first | rfl | (simp only [List.map_toArray, List.map_nil]; done) | (simp only [List.map_toArray, List.map_nil]; rfl)) ?_
 with_reducible refine (ctorTerms _).mono ?_
 rintro e w4 ⟨rfl, hb⟩
 refine ⟨_, rfl, ?_⟩
 replace HB := Lib.hid (below_step HB.out hb)
 replace BK_gX := bB BK_gX hb
 replace BK_gR := bB BK_gR hb
 clear hb
 refine hK.out _ _ ⟨((blk_cell BK_gX.out 0).trans rfl), ((blk_cell BK_gX.out 1).trans rfl)⟩ (fun hHeld => ?_)
 clear hK K
 refine norm_ (a' := ?_) ?_ ?_
 rotate_left
 ·show Act.put _ (some 4) _ = _
  simp only [Act.put, sA, sZ, sS, i64_w, i32_w]
  rfl
 refine one_ (i := 2) (N := some 6) #[true, true, true, false, false, false, false] rfl rfl (by kernel_rfl) (by decide) (fun K hK => ?_)
 have LT := (blk_lt BK_gR.out : gR < w4.heap.size)
 have LB := below_size HB.out
 refine goes_ Tryz.func151 (by kernel_rfl) rfl #[.agg #[.int .i64 13, .int .i64 2, .int .i64 2, .func (.func 196) #[] #[], .func (.func 197) #[] #[], .func (.func 198) #[] #[]], .agg #[.int .i64 x0, .int .i64 x1]] (by rfl) rfl rfl (by simp only [mT, mC, mN]; rfl) ?_
 with_reducible refine (HC.out _ HB.out).mono ?_
 rintro e w5 ⟨v9, rfl, hr9, hb⟩
 refine ⟨_, rfl, ?_⟩
 replace HB := Lib.hid (below_step HB.out hb)
 replace BK_gX := bB BK_gX hb
 replace BK_gR := bB BK_gR hb
 clear hb
 obtain ⟨A9, c9, rfl, _, _⟩ := Kd.R_reads hr9
 have HQ := Lib.hid hr9
 clear hr9
 refine hK.out _ _ ⟨((blk_cell BK_gX.out 0).trans rfl), ((blk_cell BK_gX.out 1).trans rfl)⟩ (fun hHeld => ?_)
 clear hK K
 refine norm_ (a' := ?_) ?_ ?_
 rotate_left
 ·show Act.put _ (some 6) _ = _
  simp only [Act.put, sA, sZ, sS, i64_w, i32_w]
  rfl
 refine pure_ (i := 3) (N := some 7) (v := ?_) (a' := ?_) #[true, true, true, true, false, false, false] rfl rfl (by kernel_rfl) (fun _ _ _ h => h) (Or.inl ⟨by rfl, ?_⟩) ?_ ?_
 rotate_left
 ·intro w'
  go_simp
  with_reducible rfl
 rotate_left
 ·simp only [Act.put, sA, sZ, sS, i64_w, i32_w]
  rfl
 refine pure_ (i := 4) (N := some 8) (v := ?_) (a' := ?_) #[true, true, true, true, true, false, false] rfl rfl (by kernel_rfl) (fun _ _ _ h => h) (Or.inl ⟨by rfl, ?_⟩) ?_ ?_
 rotate_left
 ·intro w'
  go_simp
  with_reducible rfl
 rotate_left
 ·simp only [Act.put, sA, sZ, sS, i64_w, i32_w]
  rfl
 refine last_ (i := 5) (N := none) #[true, true, true, true, true, true, false] rfl rfl (by kernel_rfl) (by decide) (fun K hK => ?_)
 have k_gR_0 := bC BK_gR 0 (.int .i64 0) rfl
 have k_gR_1 := bC BK_gR 1 (.int .i64 0) rfl
 have k_gR_2 := bC BK_gR 2 (.slice none 0 0) rfl
 have f_gR_0 := bF BK_gR 0
 have f_gR_1 := bF BK_gR 1
 have f_gR_2 := bF BK_gR 2
 refine skip_ (w1 := ?_) (by rfl) rfl ?_ ?_
 rotate_left
 ·go_simp
  rfl
 refine hK.out _ _ ?_
 clear hK K
 refine pure_ (i := 6) (N := some 3) (v := ?_) (a' := ?_) #[true, true, true, true, true, true, true] rfl rfl (by kernel_rfl) (fun _ _ _ h => h) (Or.inl ⟨by rfl, ?_⟩) ?_ ?_
 rotate_left
 ·intro w'
  go_simp
  with_reducible rfl
 rotate_left
 ·simp only [Act.put, sA, sZ, sS, i64_w, i32_w]
  rfl
 refine done_ (by kernel_rfl) ?_
 go_wp2
 refine bodyPost_ret (results_ct rfl _ _ gR 24 #[.int .i64 C, .int .i64 T', .slice A9 l'.length c9] (0, 0) _ rfl (blk_put (cs' := #[.int .i64 C, .int .i64 T', .slice A9 l'.length c9]) (blk_put (cs' := #[.int .i64 C, .int .i64 T', .slice none 0 0]) (blk_put (cs' := #[.int .i64 C, .int .i64 0, .slice none 0 0]) (BK_gR.out) 0 _ rfl) 1 _ rfl) 2 _ rfl) Tryz.underlying24 rfl (by kernel_rfl)) rfl ?_
 exact ⟨_, rfl, Kd.R_lower (R_old (p := ⟨gR, 2, none⟩) (R_old (p := ⟨gR, 1, none⟩) (R_old (p := ⟨gR, 0, none⟩) HQ.out LT _) LT _) LT _) LB, below_set (below_set (below_set HB.out GE_gR) GE_gR) GE_gR⟩
def object_Terms.f (a0_0 a0_1 : Int) : Option (Int × Int × List Int × Int) := (object_terms_3.f a0_0 a0_1).bind fun m => (object_terms_1.f a0_0 a0_1).bind fun l' => some (if m then 13 else 0, if m then 2 else 0, if m then l' else [], if m then 0 else 2)
theorem object_Terms.calls (a0_0 a0_1 r1 r2 : Int) (r3 : List Int) (r4 : Int) (w : World) (h : object_Terms.f a0_0 a0_1 = some (r1, r2, r3, r4)) :
  Calls Tryz.prog 83 #[.agg #[.int .i64 a0_0, .int .i64 a0_1]] w fun e w' => ∃ v, e = .returned (.tuple #[.agg #[.int .i64 r1, .int .i64 r2, v], .int .i64 r4]) ∧ Kd.R (Kd.int .i64) 2 w' w.heap.size (fun _ => True) v r3 ∧ Below w.heap.size w w' := by
 obtain ⟨m, hm, h⟩ := Option.bind_eq_some_iff.mp h
 obtain ⟨l', hw, h⟩ := Option.bind_eq_some_iff.mp h
 injection h with h
 simp only [Prod.mk.injEq] at h
 obtain ⟨rfl, rfl, rfl, rfl⟩ := h
 refine towTerms a0_0 a0_1 _ _ _ _ w (fun W hW  => ?_)
 exact objectTerms_run 13 2 2  _ a0_0 a0_1 _ W (fun W' hW' => (object_terms_3.calls a0_0 a0_1 _ W' hm).mono (fun e w' h => ⟨h.1, toBelow h.2⟩)) (fun W' hW' => object_terms_1.calls a0_0 a0_1 _ W' hw)
def object_AsTerms.f (a0_0 a0_1 : Int) (l0_2 : List Int) : Option (Int × Int × Int) := if a0_0 = 13 ∧ a0_1 = 2 ∧ ((l0_2.length : Nat) : Int) = 2 then ((object_terms_2.f l0_2).bind fun (x0, x1) => (object_terms_3.f x0 x1).bind fun m => (object_terms_1.f x0 x1).bind fun l' => some (if m && decide (l' = l0_2) then x0 else 0, if m && decide (l' = l0_2) then x1 else 0, if m && decide (l' = l0_2) then 0 else 171)) else some (0, 0, 171)
theorem object_AsTerms.calls (a0_0 a0_1 : Int) (A0_2 : Option Addr) (c0_2 : Nat) (l0_2 : List Int) (r1 r2 r3 : Int) (w : World) (hr0_2 : Kd.C (Kd.int .i64) w A0_2 l0_2.length l0_2) (hc0_2 : l0_2.length ≤ c0_2) (h : object_AsTerms.f a0_0 a0_1 l0_2 = some (r1, r2, r3)) :
  Calls Tryz.prog 69 #[.agg #[.int .i64 a0_0, .int .i64 a0_1, .slice A0_2 l0_2.length c0_2]] w fun e w' => e = .returned (.tuple #[.agg #[.int .i64 r1, .int .i64 r2], .int .i64 r3]) ∧ Below w.heap.size w w' := by
 refine aswTerms a0_0 a0_1 A0_2 l0_2.length c0_2 _ _ _ w (fun W hW  => ?_)
 unfold object_AsTerms.f at h
 split at h
 ·rename_i hq
  obtain ⟨rfl, rfl, hlen⟩ := hq
  obtain ⟨⟨x0, x1⟩, ht, h⟩ := Option.bind_eq_some_iff.mp h
  obtain ⟨m, hm, h⟩ := Option.bind_eq_some_iff.mp h
  obtain ⟨l', hw, h⟩ := Option.bind_eq_some_iff.mp h
  refine (asTerms_run 13 2 2 A0_2 c0_2 l0_2 l' x0 x1 _ W (Kd.C_below hr0_2 hW) hc0_2 hlen (fun W' hW' => (object_terms_2.calls A0_2 c0_2 l0_2 _ _ W' (Kd.C_below (Kd.C_below hr0_2 hW) hW') hc0_2 ht).mono (fun e w' h => ⟨h.1, toBelow h.2⟩)) (fun W' hW' => (object_terms_3.calls x0 x1 _ W' hm).mono (fun e w' h => ⟨h.1, toBelow h.2⟩)) (fun W' hW' => object_terms_1.calls x0 x1 _ W' hw)).mono ?_
  rintro e w' ⟨rfl, hb⟩
  injection h with h
  simp only [Prod.mk.injEq] at h
  obtain ⟨rfl, rfl, rfl⟩ := h
  refine ⟨?_, hb⟩
  cases (m && decide (l' = l0_2)) <;> rfl
 ·rename_i hq
  injection h with h
  simp only [Prod.mk.injEq] at h
  obtain ⟨rfl, rfl, rfl⟩ := h
  exact (asTerms_no 13 2 2 a0_0 a0_1 A0_2 c0_2 l0_2 W (by by_cases e1 : a0_0 = 13 <;> by_cases e2 : a0_1 = 2 <;> simp_all)).mono (fun e w' h => ⟨h.1, h.2⟩)
set_option maxHeartbeats 1600000 in
theorem ctorTell (w : World) : Calls Tryz.prog 144 #[] w (NumSays 15 0 15 w) := by
 go_enter Tryz.func144, Tryz.ntmps144
 go_wp2_with (go_at_call 124; refine (numbers _ _ _ _).mono ?_; rintro e w' ⟨b1, b2, rfl, g1, g2, h1, h2, hb⟩; obtain ⟨hc, hf⟩ := bcell hb; have n1 : w.heap.size ≠ b1 := (by simp at g1; omega); have n2 : w.heap.size ≠ b2 := (by simp at g2; omega))
 refine bodyPost_ret (v := .agg #[.int .i64 15, .int .i64 1, .int .i64 1, .func (.func 186) #[] #[], .func (.func 187) #[] #[], .func (.func 188) #[] #[.pointer (some ⟨b1, 0, none⟩), .pointer (some ⟨b2, 0, none⟩)]]) (by simp [results, Tryz.results144, go_sem, hc]) rfl ⟨b1, b2, rfl, by simp at g1; omega, by simp at g2; omega, by simp [go_sem, h1], by simp [go_sem, h2], ?_⟩
 iterate 6 (refine Below.setCell (p := ⟨w.heap.size, _, none⟩) ?_ (Nat.le_refl w.heap.size) _)
 exact ((Below.refl _ _).alloc (Nat.le_refl _) _).trans (hb.mono (by simp))
set_option maxHeartbeats 6400000 in
theorem aswTell (c t : Int) (A0 : Option Addr) (n0 c0 : Nat) (y0 E : Int) (w : World)
  (hcall : ∀ (b1 b2 : Nat) W, Below w.heap.size w W → W.cell? ⟨b1, 0, none⟩ = some (.int .i64 0) → W.cell? ⟨b2, 0, none⟩ = some (.int .i64 15) → Calls Tryz.prog 54 #[.agg #[.int .i64 15, .int .i64 1, .int .i64 1, .func (.func 186) #[] #[], .func (.func 187) #[] #[], .func (.func 188) #[] #[.pointer (some ⟨b1, 0, none⟩), .pointer (some ⟨b2, 0, none⟩)]], .agg #[.int .i64 c, .int .i64 t, .slice A0 n0 c0]] W fun e w' => e = .returned (.tuple #[.int .i64 y0, .int .i64 E]) ∧ Below W.heap.size W w') :
  Calls Tryz.prog 72 #[.agg #[.int .i64 c, .int .i64 t, .slice A0 n0 c0]] w fun e w' => e = .returned (.tuple #[.int .i64 y0, .int .i64 E]) ∧ Below w.heap.size w w' := by
 have HC := Lib.hid hcall
 clear hcall
 have HB := Lib.hid (Below.refl w.heap.size w)
 go_enter Tryz.func72, Tryz.ntmps72
 go_wp2_with (first | ((with_reducible refine gate_dst (N := 1) rfl ?_); refine box_event ?hg (N := 1) ?hd (cs := #[.int .i64 c, .int .i64 t, .slice A0 n0 c0]) (t := 24) ?hr ?_; (case hd => rfl); (case hg => rfl); (case hr => first | (go_simp; done) | (go_simp; rfl)); intro gO hg w1 hbox hb; have GE_gO : w.heap.size ≤ gO := (by rw [hg]; exact below_size HB.out); replace HB := Lib.hid (below_step HB.out hb); have BK_gO := Lib.hid hbox; clear hb hbox hg))
 replace HB := Lib.hid (below_drew1 HB.out)
 replace BK_gO := bD BK_gO
 refine start_ (n := 7) (S := fun w' => w'.cell? ⟨gO, 0, none⟩ = some (.int .i64 c) ∧ w'.cell? ⟨gO, 1, none⟩ = some (.int .i64 t) ∧ w'.cell? ⟨gO, 2, none⟩ = some (.slice A0 n0 c0)) (ds := []) #[false, false, false, false, false, false, false] (by kernel_rfl) rfl rfl ⟨((blk_cell BK_gO.out 0).trans rfl), ((blk_cell BK_gO.out 1).trans rfl), ((blk_cell BK_gO.out 2).trans rfl)⟩ (fun hHeld => ?_)
 generalize w1.drew = w2 at HB BK_gO hHeld ⊢
 refine take_ (i := 1) (N := some 5) (v := ?_) (a' := ?_) #[false, true, false, false, false, false, false] rfl rfl (by kernel_rfl) (fun _ _ _ h => h) (Or.inl ⟨by rfl, ?_⟩) hHeld ?_ ?_
 rotate_left
 ·rintro w' ⟨s0, s1, s2⟩
  go_simp
  with_reducible rfl
 rotate_left
 ·simp only [Act.put, sA, sZ, sS, i64_w, i32_w]
  rfl
 refine one_ (i := 0) (N := some 4) #[true, true, false, false, false, false, false] rfl rfl (by kernel_rfl) (by decide) (fun K hK => ?_)
 refine goes_ Tryz.func144 (by kernel_rfl) rfl #[] (by rfl) rfl rfl (by first | rfl | (simp only [List.map_toArray, List.map_nil]; done) | (simp only [List.map_toArray, List.map_nil]; rfl)) ?_
 with_reducible refine (ctorTell _).mono ?_
 rintro e w3 ⟨b1, b2, rfl, -, -, h1, h2, hb⟩
 refine ⟨_, rfl, ?_⟩
 replace HB := Lib.hid (below_step HB.out hb)
 replace BK_gO := bB BK_gO hb
 clear hb
 have H1 := Lib.hid h1
 have H2 := Lib.hid h2
 clear h1 h2
 refine hK.out _ _ ⟨((blk_cell BK_gO.out 0).trans rfl), ((blk_cell BK_gO.out 1).trans rfl), ((blk_cell BK_gO.out 2).trans rfl)⟩ (fun hHeld => ?_)
 clear hK K
 refine norm_ (a' := ?_) ?_ ?_
 rotate_left
 ·show Act.put _ (some 4) _ = _
  simp only [Act.put, sA, sZ, sS, i64_w, i32_w]
  rfl
 refine one_ (i := 2) (N := some 6) #[true, true, true, false, false, false, false] rfl rfl (by kernel_rfl) (by decide) (fun K hK => ?_)
 refine goes_ Tryz.func54 (by kernel_rfl) rfl #[.agg #[.int .i64 15, .int .i64 1, .int .i64 1, .func (.func 186) #[] #[], .func (.func 187) #[] #[], .func (.func 188) #[] #[.pointer (some ⟨b1, 0, none⟩), .pointer (some ⟨b2, 0, none⟩)]], .agg #[.int .i64 c, .int .i64 t, .slice A0 n0 c0]] (by rfl) rfl rfl (by simp only [mT, mC, mN]; rfl) ?_
 with_reducible refine (HC.out b1 b2 _ HB.out H1.out H2.out).mono ?_
 rintro e w4 ⟨rfl, hb⟩
 refine ⟨_, rfl, ?_⟩
 replace HB := Lib.hid (below_step HB.out hb)
 replace BK_gO := bB BK_gO hb
 clear hb
 refine hK.out _ _ ⟨((blk_cell BK_gO.out 0).trans rfl), ((blk_cell BK_gO.out 1).trans rfl), ((blk_cell BK_gO.out 2).trans rfl)⟩ (fun hHeld => ?_)
 clear hK K
 refine norm_ (a' := ?_) ?_ ?_
 rotate_left
 ·show Act.put _ (some 6) _ = _
  simp only [Act.put, sA, sZ, sS, i64_w, i32_w]
  rfl
 refine pure_ (i := 3) (N := some 7) (v := ?_) (a' := ?_) #[true, true, true, true, false, false, false] rfl rfl (by kernel_rfl) (fun _ _ _ h => h) (Or.inl ⟨by rfl, ?_⟩) ?_ ?_
 rotate_left
 ·intro w'
  go_simp
  with_reducible rfl
 rotate_left
 ·simp only [Act.put, sA, sZ, sS, i64_w, i32_w]
  rfl
 refine pure_ (i := 4) (N := some 8) (v := ?_) (a' := ?_) #[true, true, true, true, true, false, false] rfl rfl (by kernel_rfl) (fun _ _ _ h => h) (Or.inl ⟨by rfl, ?_⟩) ?_ ?_
 rotate_left
 ·intro w'
  go_simp
  with_reducible rfl
 rotate_left
 ·simp only [Act.put, sA, sZ, sS, i64_w, i32_w]
  rfl
 refine pure_ (i := 5) (N := some 2) (v := ?_) (a' := ?_) #[true, true, true, true, true, true, false] rfl rfl (by kernel_rfl) (fun _ _ _ h => h) (Or.inl ⟨by rfl, ?_⟩) ?_ ?_
 rotate_left
 ·intro w'
  go_simp
  with_reducible rfl
 rotate_left
 ·simp only [Act.put, sA, sZ, sS, i64_w, i32_w]
  rfl
 refine pure_ (i := 6) (N := some 3) (v := ?_) (a' := ?_) #[true, true, true, true, true, true, true] rfl rfl (by kernel_rfl) (fun _ _ _ h => h) (Or.inl ⟨by rfl, ?_⟩) ?_ ?_
 rotate_left
 ·intro w'
  go_simp
  with_reducible rfl
 rotate_left
 ·simp only [Act.put, sA, sZ, sS, i64_w, i32_w]
  rfl
 refine done_ (by kernel_rfl) ?_
 go_wp2
 go_ret2
 exact ⟨rfl, HB.out⟩
set_option maxHeartbeats 6400000 in
theorem towTell (x0 C T' E : Int) (l' : List Int) (w : World)
  (hcall : ∀ (b1 b2 : Nat) W, Below w.heap.size w W → W.cell? ⟨b1, 0, none⟩ = some (.int .i64 0) → W.cell? ⟨b2, 0, none⟩ = some (.int .i64 15) → Calls Tryz.prog 107 #[.agg #[.int .i64 15, .int .i64 1, .int .i64 1, .func (.func 186) #[] #[], .func (.func 187) #[] #[], .func (.func 188) #[] #[.pointer (some ⟨b1, 0, none⟩), .pointer (some ⟨b2, 0, none⟩)]], .int .i64 x0] W (ObjP C T' E l' W)) :
  Calls Tryz.prog 78 #[.int .i64 x0] w (ObjP C T' E l' w) := by
 have HC := Lib.hid hcall
 clear hcall
 have HB := Lib.hid (Below.refl w.heap.size w)
 go_enter Tryz.func78, Tryz.ntmps78
 go_wp2_with (first | ((with_reducible refine gate_dst (N := 2) rfl ?_); refine box_event ?hg (N := 2) ?hd (cs := #[.int .i64 0, .int .i64 0, .slice none 0 0]) (t := 24) ?hr ?_; (case hd => rfl); (case hg => rfl); (case hr => first | (go_simp; done) | (go_simp; rfl)); intro gR hg w1 hbox hb; have GE_gR : w.heap.size ≤ gR := (by rw [hg]; exact below_size HB.out); replace HB := Lib.hid (below_step HB.out hb); have BK_gR := Lib.hid hbox; clear hb hbox hg) | (go_at_call 144; refine (ctorTell _).mono ?_; rintro e w2 ⟨b1, b2, rfl, -, -, h1, h2, hb⟩; replace HB := Lib.hid (below_step HB.out hb); replace BK_gR := bB BK_gR hb; clear hb; have H1 := Lib.hid h1; have H2 := Lib.hid h2; clear h1 h2) | (go_at_call 107; have LT := (blk_lt BK_gR.out : gR < w2.heap.size); have LB := below_size HB.out; refine (HC.out b1 b2 _ HB.out H1.out H2.out).mono ?_; rintro e w3 ⟨v9, rfl, hr9, hb⟩; replace HB := Lib.hid (below_step HB.out hb); replace BK_gR := bB BK_gR hb; clear hb; obtain ⟨A9, c9, rfl, _, _⟩ := Kd.R_reads hr9; have HQ := Lib.hid hr9; clear hr9; have k_gR_0 := bC BK_gR 0 (.int .i64 0) rfl; have k_gR_1 := bC BK_gR 1 (.int .i64 0) rfl; have k_gR_2 := bC BK_gR 2 (.slice none 0 0) rfl; have f_gR_0 := bF BK_gR 0; have f_gR_1 := bF BK_gR 1; have f_gR_2 := bF BK_gR 2))
 refine bodyPost_ret (results_ct rfl _ _ gR 24 #[.int .i64 C, .int .i64 T', .slice A9 l'.length c9] (0, 0) _ rfl (blk_put (cs' := #[.int .i64 C, .int .i64 T', .slice A9 l'.length c9]) (blk_put (cs' := #[.int .i64 C, .int .i64 T', .slice none 0 0]) (blk_put (cs' := #[.int .i64 C, .int .i64 0, .slice none 0 0]) (BK_gR.out) 0 _ rfl) 1 _ rfl) 2 _ rfl) Tryz.underlying24 rfl (by kernel_rfl)) rfl ?_
 exact ⟨_, rfl, Kd.R_lower (R_old (p := ⟨gR, 2, none⟩) (R_old (p := ⟨gR, 1, none⟩) (R_old (p := ⟨gR, 0, none⟩) HQ.out LT _) LT _) LT _) LB, below_set (below_set (below_set HB.out GE_gR) GE_gR) GE_gR⟩
def object_Tell.f (a0 : Int) : Option (Int × Int × List Int × Int) := (some (inB a0 0 15)).bind fun m => (object_numbers_1.f a0).bind fun l' => some (if m then 15 else 0, if m then 1 else 0, if m then l' else [], if m then 0 else 2)
theorem object_Tell.calls (a0 r1 r2 : Int) (r3 : List Int) (r4 : Int) (w : World) (h : object_Tell.f a0 = some (r1, r2, r3, r4)) :
  Calls Tryz.prog 78 #[.int .i64 a0] w fun e w' => ∃ v, e = .returned (.tuple #[.agg #[.int .i64 r1, .int .i64 r2, v], .int .i64 r4]) ∧ Kd.R (Kd.int .i64) 2 w' w.heap.size (fun _ => True) v r3 ∧ Below w.heap.size w w' := by
 obtain ⟨m, hm, h⟩ := Option.bind_eq_some_iff.mp h
 obtain ⟨l', hw, h⟩ := Option.bind_eq_some_iff.mp h
 injection h with h
 simp only [Prod.mk.injEq] at h
 obtain ⟨rfl, rfl, rfl, rfl⟩ := h
 injection hm with hm
 subst hm
 refine towTell a0 _ _ _ _ w (fun b1 b2 W hW h1 h2 => ?_)
 exact objectNum_run 15 1 1 b1 b2  _ a0 _ W (fun W' hW' => numMay a0 0 15 b1 b2 W' ((hW'.cell (p := ⟨b1, 0, none⟩) (World.block_lt_of_cell? W _ h1)).trans h1) ((hW'.cell (p := ⟨b2, 0, none⟩) (World.block_lt_of_cell? W _ h2)).trans h2)) (fun W' hW' => object_numbers_1.calls a0 _ W' hw)
def object_AsTell.f (a0_0 a0_1 : Int) (l0_2 : List Int) : Option (Int × Int) := if a0_0 = 15 ∧ a0_1 = 1 ∧ ((l0_2.length : Nat) : Int) = 1 then ((object_numbers_2.f l0_2).bind fun x0 => (some (inB x0 0 15)).bind fun m => (object_numbers_1.f x0).bind fun l' => some (if m && decide (l' = l0_2) then x0 else 0, if m && decide (l' = l0_2) then 0 else 171)) else some (0, 171)
theorem object_AsTell.calls (a0_0 a0_1 : Int) (A0_2 : Option Addr) (c0_2 : Nat) (l0_2 : List Int) (r1 r2 : Int) (w : World) (hr0_2 : Kd.C (Kd.int .i64) w A0_2 l0_2.length l0_2) (hc0_2 : l0_2.length ≤ c0_2) (h : object_AsTell.f a0_0 a0_1 l0_2 = some (r1, r2)) :
  Calls Tryz.prog 72 #[.agg #[.int .i64 a0_0, .int .i64 a0_1, .slice A0_2 l0_2.length c0_2]] w fun e w' => e = .returned (.tuple #[.int .i64 r1, .int .i64 r2]) ∧ Below w.heap.size w w' := by
 refine aswTell a0_0 a0_1 A0_2 l0_2.length c0_2 _ _ w (fun b1 b2 W hW h1 h2 => ?_)
 unfold object_AsTell.f at h
 split at h
 ·rename_i hq
  obtain ⟨rfl, rfl, hlen⟩ := hq
  obtain ⟨x0, ht, h⟩ := Option.bind_eq_some_iff.mp h
  obtain ⟨m, hm, h⟩ := Option.bind_eq_some_iff.mp h
  obtain ⟨l', hw, h⟩ := Option.bind_eq_some_iff.mp h
  injection hm with hm
  subst hm
  refine (asNum_run 15 1 1 b1 b2 A0_2 c0_2 l0_2 l' x0 _ W (Kd.C_below hr0_2 hW) hc0_2 hlen (fun W' hW' => (object_numbers_2.calls A0_2 c0_2 l0_2 _ W' (Kd.C_below (Kd.C_below hr0_2 hW) hW') hc0_2 ht).mono (fun e w' h => ⟨h.1, toBelow h.2⟩)) (fun W' hW' => numMay x0 0 15 b1 b2 W' ((hW'.cell (p := ⟨b1, 0, none⟩) (World.block_lt_of_cell? W _ h1)).trans h1) ((hW'.cell (p := ⟨b2, 0, none⟩) (World.block_lt_of_cell? W _ h2)).trans h2)) (fun W' hW' => object_numbers_1.calls x0 _ W' hw)).mono ?_
  rintro e w' ⟨rfl, hb⟩
  injection h with h
  simp only [Prod.mk.injEq] at h
  obtain ⟨rfl, rfl⟩ := h
  refine ⟨?_, hb⟩
  cases (inB x0 0 15 && decide (l' = l0_2)) <;> rfl
 ·rename_i hq
  injection h with h
  simp only [Prod.mk.injEq] at h
  obtain ⟨rfl, rfl⟩ := h
  exact (asNum_no 15 1 1 a0_0 a0_1 b1 b2 A0_2 c0_2 l0_2 W (by by_cases e1 : a0_0 = 15 <;> by_cases e2 : a0_1 = 1 <;> simp_all)).mono (fun e w' h => ⟨h.1, h.2⟩)
class AsBelow (p : Prop) (w w' : outParam World) : Prop where
 b : p → Below w.heap.size w w'
instance (w w' : World) : AsBelow (Below w.heap.size w w') w w' := ⟨id⟩
instance (w w' : World) : AsBelow (Drawn0 w w') w w' := ⟨fun h => h.below⟩
instance (w w' : World) : AsBelow (w = w') w w' := ⟨fun h => h ▸ Below.refl _ _⟩
theorem asBelow {p : Prop} {w w' : World} [i : AsBelow p w w'] (h : p) : Below w.heap.size w w' := i.b h
theorem same_l0 (c t : Int) (xs : List Int) (hx : xs.length ≤ 70) : ∀ d j k, d = xs.length - j → j ≤ xs.length → d + 1 ≤ k → postroadref07_Same.l0 k (j : Int) c t xs c t xs = some true := by
 intro d
 induction d with
 | zero =>
  intro j k hd hj hk
  obtain ⟨k, rfl⟩ : ∃ k', k = k' + 1 := ⟨k - 1, by omega⟩
  rw [postroadref07_Same.l0, if_neg (by omega)]
 | succ d ih =>
  intro j k hd hj hk
  obtain ⟨k, rfl⟩ : ∃ k', k = k' + 1 := ⟨k - 1, by omega⟩
  rw [postroadref07_Same.l0, if_pos (by omega), if_pos (by omega), if_pos (by omega), if_pos rfl, IntWalk.wrap64_in _ (by omega)]
  exact ih (j + 1) k (by omega) (by omega) (by omega)
theorem same_refl (c t : Int) (l : List Int) (h : l.length ≤ 70) : ∃ k, postroadref07_Same.f k c t l c t l = some true := by
 refine ⟨100, ?_⟩
 rw [postroadref07_Same.f, if_pos rfl, if_pos rfl, show ((l.length : Int) != (l.length : Int)) = false by simp, postroadref07_Same.j0, if_neg (by simp)]
 exact same_l0 c t l h l.length 0 _ (by omega) (by omega) (by omega)
def WantRel (w : World) (gx go gw : Nat) (cx : Array Value) (C T : Int) (l : List Int) (v9 : Value) (E : Int) (v : Value) (wr : World) : Prop :=
 v = .int .i64 E ∧ Below w.heap.size w wr ∧ wr.heap[gx]? = some (.cells cx 70 (0, 0)) ∧ wr.heap[go]? = some (.cells #[.int .i64 C, .int .i64 T, v9] 24 (0, 0)) ∧ ∃ b9, Kd.R (Kd.int .i64) 2 wr b9 (fun _ => True) v9 l ∧
  ∃ v8, wr.heap[gw]? = some (.cells #[.int .i64 C, .int .i64 T, v8] 24 (0, 0)) ∧ ∃ b8, Kd.R (Kd.int .i64) 2 wr b8 (fun _ => True) v8 l
end Go.Proofs.YtecghmlojllkdaaGreat.P

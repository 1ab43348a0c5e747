import Derived.Test.YtecghmlojllkdaaGreatTl6
namespace Go.Proofs.YtecghmlojllkdaaGreat.P
open Go.RowKit Go.Proofs.YtecghmlojllkdaaGreatW.PrintWords Go.Proofs.YtecghmlojllkdaaGreatW.PrintLast
set_option linter.unusedVariables false
set_option linter.unusedSimpArgs false
set_option maxRecDepth 100000
def asFlow_r.T5 : Bool × List (List Nat × List Nat) := (true, [([], []), ([0], [0]), ([], []), ([1, 2], [1, 2]), ([3], [3]), ([4, 3], [4]), ([5], [5]), ([6, 5], [5, 6]), ([5], [5]), ([7, 8, 5, 5], [5, 7, 8]), ([5], [5]), ([10, 5], [5, 10]), ([9, 11, 9, 5], [5, 9, 11]), ([12, 5], [5, 12]), ([5, 13], [5, 13])])
def asFlow_r.B5 : List Nat := [0, 1, 0, 7, 15, 31, 63, 127, 63, 511, 63, 1087, 4095, 8191, 16383]
theorem asFlow_r.tab5 : rtab .any (opsOf Tryz.f60 5) = asFlow_r.T5 := by kernel_rfl
theorem asFlow_r.bits5 : waitsOk asFlow_r.T5.2 asFlow_r.B5 = true := by kernel_rfl
set_option maxHeartbeats 6400000 in
theorem asFlow_no (cls knd many c t : Int)  (A0 : Option Addr) (c0 : Nat) (ws : List Int) (w : World) (hn : c ≠ cls ∨ t ≠ knd ∨ ((ws.length : Nat) : Int) ≠ many) :
  Calls Tryz.prog 60 #[.agg #[.int .i64 cls, .int .i64 knd, .int .i64 many, .func (.func 131) #[] #[], .func (.func 133) #[] #[], .func (.func 135) #[] #[]], .agg #[.int .i64 c, .int .i64 t, .slice A0 ws.length c0]] w (SaidIf false (.agg #[.int .i64 0, .int .i64 0, .int .i64 0, .int .i64 0, .int .i64 0, .int .i64 0, .int .i64 0]) (.agg #[.int .i64 0, .int .i64 0, .int .i64 0, .int .i64 0, .int .i64 0, .int .i64 0, .int .i64 0]) w) := by
 rcases noQ hn with ⟨q1, q2, q3⟩ | ⟨q1, q2⟩ | q1
 all_goals
  clear hn
  have HB := Lib.hid (Below.refl w.heap.size w)
  go_enter Tryz.func60, Tryz.ntmps60
  go_wp2_with (first | ((with_reducible refine gate_dst (N := 2) rfl ?_); refine box_event ?hg (N := 2) ?hd (cs := #[.int .i64 cls, .int .i64 knd, .int .i64 many, .func (.func 131) #[] #[], .func (.func 133) #[] #[], .func (.func 135) #[] #[]]) (t := 126) ?hr ?_; (case hd => rfl); (case hg => rfl); (case hr => first | (go_simp; done) | (go_simp; rfl)); intro gE hg w1 hbox hb; have GE_gE : w.heap.size ≤ gE := (by rw [hg]; exact below_size HB.out); replace HB := Lib.hid (below_step HB.out hb); have BK_gE := Lib.hid hbox; clear hb hbox hg) | ((with_reducible refine gate_dst (N := 3) rfl ?_); refine box_event ?hg (N := 3) ?hd (cs := #[.int .i64 c, .int .i64 t, .slice A0 ws.length c0]) (t := 24) ?hr ?_; (case hd => rfl); (case hg => rfl); (case hr => first | (go_simp; done) | (go_simp; rfl)); intro gO hg w2 hbox hb; have GE_gO : w.heap.size ≤ gO := (by rw [hg]; exact below_size HB.out); replace HB := Lib.hid (below_step HB.out hb); replace BK_gE := bB BK_gE hb; have BK_gO := Lib.hid hbox; clear hb hbox hg) | ((with_reducible refine gate_dst (N := 4) rfl ?_); refine box_event ?hg (N := 4) ?hd (cs := #[.int .i64 0, .int .i64 0, .int .i64 0, .int .i64 0, .int .i64 0, .int .i64 0, .int .i64 0]) (t := 58) ?hr ?_; (case hd => rfl); (case hg => rfl); (case hr => first | (go_simp; done) | (go_simp; rfl)); intro gR hg w3 hbox hb; have GE_gR : w.heap.size ≤ gR := (by rw [hg]; exact below_size HB.out); replace HB := Lib.hid (below_step HB.out hb); replace BK_gE := bB BK_gE hb; replace BK_gO := bB BK_gO hb; have BK_gR := Lib.hid hbox; clear hb hbox hg) | ((with_reducible refine gate_dst (N := 6) rfl ?_); refine box_event ?hg (N := 6) ?hd (cs := #[.int .i64 0, .int .i64 0, .int .i64 0, .int .i64 0, .int .i64 0, .int .i64 0, .int .i64 0]) (t := 58) ?hr ?_; (case hd => rfl); (case hg => rfl); (case hr => first | (go_simp; done) | (go_simp; rfl)); intro gN hg w4 hbox hb; have GE_gN : w.heap.size ≤ gN := (by rw [hg]; exact below_size HB.out); replace HB := Lib.hid (below_step HB.out hb); replace BK_gE := bB BK_gE hb; replace BK_gO := bB BK_gO hb; replace BK_gR := bB BK_gR hb; have BK_gN := Lib.hid hbox; clear hb hbox hg; have k_gE_0 := bC BK_gE 0 (.int .i64 cls) rfl; have k_gE_1 := bC BK_gE 1 (.int .i64 knd) rfl; have k_gE_2 := bC BK_gE 2 (.int .i64 many) rfl; have k_gE_4 := bC BK_gE 4 (.func (.func 133) #[] #[]) rfl; have k_gO_0 := bC BK_gO 0 (.int .i64 c) rfl; have k_gO_1 := bC BK_gO 1 (.int .i64 t) rfl; have k_gO_2 := bC BK_gO 2 (.slice A0 ws.length c0) rfl; have k_gN_0 := bC BK_gN 0 (.int .i64 0) rfl; have k_gN_1 := bC BK_gN 1 (.int .i64 0) rfl; have k_gN_2 := bC BK_gN 2 (.int .i64 0) rfl; have k_gN_3 := bC BK_gN 3 (.int .i64 0) rfl; have k_gN_4 := bC BK_gN 4 (.int .i64 0) rfl; have k_gN_5 := bC BK_gN 5 (.int .i64 0) rfl; have k_gN_6 := bC BK_gN 6 (.int .i64 0) rfl; have k_gR_0 := bC BK_gR 0 (.int .i64 0) rfl; have k_gR_1 := bC BK_gR 1 (.int .i64 0) rfl; have k_gR_2 := bC BK_gR 2 (.int .i64 0) rfl; have k_gR_3 := bC BK_gR 3 (.int .i64 0) rfl; have k_gR_4 := bC BK_gR 4 (.int .i64 0) rfl; have k_gR_5 := bC BK_gR 5 (.int .i64 0) rfl; have k_gR_6 := bC BK_gR 6 (.int .i64 0) rfl; have f_gR_0 := bF BK_gR 0; have f_gR_1 := bF BK_gR 1; have f_gR_2 := bF BK_gR 2; have f_gR_3 := bF BK_gR 3; have f_gR_4 := bF BK_gR 4; have f_gR_5 := bF BK_gR 5; have f_gR_6 := bF BK_gR 6))
  refine bodyPost_ret (results_ct rfl _ _ gR 58 #[.int .i64 0, .int .i64 0, .int .i64 0, .int .i64 0, .int .i64 0, .int .i64 0, .int .i64 0] (0, 0) _ rfl (blk_put (cs' := #[.int .i64 0, .int .i64 0, .int .i64 0, .int .i64 0, .int .i64 0, .int .i64 0, .int .i64 0]) (blk_put (cs' := #[.int .i64 0, .int .i64 0, .int .i64 0, .int .i64 0, .int .i64 0, .int .i64 0, .int .i64 0]) (blk_put (cs' := #[.int .i64 0, .int .i64 0, .int .i64 0, .int .i64 0, .int .i64 0, .int .i64 0, .int .i64 0]) (blk_put (cs' := #[.int .i64 0, .int .i64 0, .int .i64 0, .int .i64 0, .int .i64 0, .int .i64 0, .int .i64 0]) (blk_put (cs' := #[.int .i64 0, .int .i64 0, .int .i64 0, .int .i64 0, .int .i64 0, .int .i64 0, .int .i64 0]) (blk_put (cs' := #[.int .i64 0, .int .i64 0, .int .i64 0, .int .i64 0, .int .i64 0, .int .i64 0, .int .i64 0]) (blk_put (cs' := #[.int .i64 0, .int .i64 0, .int .i64 0, .int .i64 0, .int .i64 0, .int .i64 0, .int .i64 0]) (BK_gR.out) 0 _ rfl) 1 _ rfl) 2 _ rfl) 3 _ rfl) 4 _ rfl) 5 _ rfl) 6 _ rfl) Tryz.underlying58 rfl (by kernel_rfl)) rfl ?_
  exact ⟨rfl, below_set (below_set (below_set (below_set (below_set (below_set (below_set (HB.out) GE_gR) GE_gR) GE_gR) GE_gR) GE_gR) GE_gR) GE_gR⟩
set_option maxHeartbeats 6400000 in
theorem asFlow_run (cls knd many : Int)  (A0 : Option Addr) (c0 : Nat) (ws : List Int) (l' : List Int) (x0 x1 x2 x3 x4 x5 x6 : Int) (m : Bool) (w : World) (hr : Kd.C (Kd.int .i64) w A0 ws.length ws) (hc0 : ws.length ≤ c0) (hlen : ((ws.length : Nat) : Int) = many)
  (hth : ∀ W, Below w.heap.size w W → Calls Tryz.prog 133 #[.slice A0 ws.length c0] W fun e w' => e = .returned (.agg #[.int .i64 x0, .int .i64 x1, .int .i64 x2, .int .i64 x3, .int .i64 x4, .int .i64 x5, .int .i64 x6]) ∧ Below W.heap.size W w')
  (hmay : ∀ W, Below w.heap.size w W → Calls Tryz.prog 135 #[.agg #[.int .i64 x0, .int .i64 x1, .int .i64 x2, .int .i64 x3, .int .i64 x4, .int .i64 x5, .int .i64 x6]] W fun e w' => e = .returned (.bool m) ∧ Below W.heap.size W w')
  (hws : ∀ W, Below w.heap.size w W → Calls Tryz.prog 131 #[.agg #[.int .i64 x0, .int .i64 x1, .int .i64 x2, .int .i64 x3, .int .i64 x4, .int .i64 x5, .int .i64 x6]] W fun e w' => ∃ v, e = .returned v ∧ Kd.R (Kd.int .i64) 2 w' W.heap.size (fun _ => True) v l' ∧ Below W.heap.size W w') :
  Calls Tryz.prog 60 #[.agg #[.int .i64 cls, .int .i64 knd, .int .i64 many, .func (.func 131) #[] #[], .func (.func 133) #[] #[], .func (.func 135) #[] #[]], .agg #[.int .i64 cls, .int .i64 knd, .slice A0 ws.length c0]] w (SaidIf (m && decide (l' = ws)) (.agg #[.int .i64 x0, .int .i64 x1, .int .i64 x2, .int .i64 x3, .int .i64 x4, .int .i64 x5, .int .i64 x6]) (.agg #[.int .i64 0, .int .i64 0, .int .i64 0, .int .i64 0, .int .i64 0, .int .i64 0, .int .i64 0]) w) := by
 have HR := Lib.hid hr
 have HC := Lib.hid hc0
 have HT := Lib.hid hth
 have HM := Lib.hid hmay
 have HW := Lib.hid hws
 clear hr hc0 hth hmay hws
 have q1 : (cls != cls) = false := by simp
 have q2 : (knd != knd) = false := by simp
 have q3 : (((ws.length : Nat) : Int) != many) = false := by simp [hlen]
 have HL := Lib.hid hlen
 clear hlen
 have HB := Lib.hid (Below.refl w.heap.size w)
 go_enter Tryz.func60, Tryz.ntmps60
 go_wp2_with (first | ((with_reducible refine gate_dst (N := 2) rfl ?_); refine box_event ?hg (N := 2) ?hd (cs := #[.int .i64 cls, .int .i64 knd, .int .i64 many, .func (.func 131) #[] #[], .func (.func 133) #[] #[], .func (.func 135) #[] #[]]) (t := 126) ?hr ?_; (case hd => rfl); (case hg => rfl); (case hr => first | (go_simp; done) | (go_simp; rfl)); intro gE hg w1 hbox hb; have GE_gE : w.heap.size ≤ gE := (by rw [hg]; exact below_size HB.out); replace HB := Lib.hid (below_step HB.out hb); have BK_gE := Lib.hid hbox; clear hb hbox hg) | ((with_reducible refine gate_dst (N := 3) rfl ?_); refine box_event ?hg (N := 3) ?hd (cs := #[.int .i64 cls, .int .i64 knd, .slice A0 ws.length c0]) (t := 24) ?hr ?_; (case hd => rfl); (case hg => rfl); (case hr => first | (go_simp; done) | (go_simp; rfl)); intro gO hg w2 hbox hb; have GE_gO : w.heap.size ≤ gO := (by rw [hg]; exact below_size HB.out); replace HB := Lib.hid (below_step HB.out hb); replace BK_gE := bB BK_gE hb; have BK_gO := Lib.hid hbox; clear hb hbox hg) | ((with_reducible refine gate_dst (N := 4) rfl ?_); refine box_event ?hg (N := 4) ?hd (cs := #[.int .i64 0, .int .i64 0, .int .i64 0, .int .i64 0, .int .i64 0, .int .i64 0, .int .i64 0]) (t := 58) ?hr ?_; (case hd => rfl); (case hg => rfl); (case hr => first | (go_simp; done) | (go_simp; rfl)); intro gR hg w3 hbox hb; have GE_gR : w.heap.size ≤ gR := (by rw [hg]; exact below_size HB.out); replace HB := Lib.hid (below_step HB.out hb); replace BK_gE := bB BK_gE hb; replace BK_gO := bB BK_gO hb; have BK_gR := Lib.hid hbox; clear hb hbox hg) | ((with_reducible refine gate_dst (N := 6) rfl ?_); refine box_event ?hg (N := 6) ?hd (cs := #[.int .i64 0, .int .i64 0, .int .i64 0, .int .i64 0, .int .i64 0, .int .i64 0, .int .i64 0]) (t := 58) ?hr ?_; (case hd => rfl); (case hg => rfl); (case hr => first | (go_simp; done) | (go_simp; rfl)); intro gN hg w4 hbox hb; have GE_gN : w.heap.size ≤ gN := (by rw [hg]; exact below_size HB.out); replace HB := Lib.hid (below_step HB.out hb); replace BK_gE := bB BK_gE hb; replace BK_gO := bB BK_gO hb; replace BK_gR := bB BK_gR hb; have BK_gN := Lib.hid hbox; clear hb hbox hg; have k_gE_0 := bC BK_gE 0 (.int .i64 cls) rfl; have k_gE_1 := bC BK_gE 1 (.int .i64 knd) rfl; have k_gE_2 := bC BK_gE 2 (.int .i64 many) rfl; have k_gE_4 := bC BK_gE 4 (.func (.func 133) #[] #[]) rfl; have k_gO_0 := bC BK_gO 0 (.int .i64 cls) rfl; have k_gO_1 := bC BK_gO 1 (.int .i64 knd) rfl; have k_gO_2 := bC BK_gO 2 (.slice A0 ws.length c0) rfl) | (go_at_call 133; refine (HT.out _ HB.out).mono ?_; rintro e w5 ⟨rfl, hb⟩; replace HB := Lib.hid (below_step HB.out hb); replace BK_gE := bB BK_gE hb; replace BK_gO := bB BK_gO hb; replace BK_gR := bB BK_gR hb; replace BK_gN := bB BK_gN hb; clear hb; clear k_gE_0 k_gE_1 k_gE_2 k_gE_4 k_gO_0 k_gO_1 k_gO_2))
 obtain ⟨w6, hW⟩ : ∃ W, w5.alloc (.cells #[.int .i64 x0, .int .i64 x1, .int .i64 x2, .int .i64 x3, .int .i64 x4, .int .i64 x5, .int .i64 x6] 58) = W := ⟨_, rfl⟩
 have hb : Below w5.heap.size w5 w6 := hW ▸ (Below.refl _ _).alloc (Nat.le_refl _) _
 have BK_gX : w6.heap[w5.heap.size]? = some (.cells #[.int .i64 x0, .int .i64 x1, .int .i64 x2, .int .i64 x3, .int .i64 x4, .int .i64 x5, .int .i64 x6] 58 (0, 0)) := hW ▸ blk_new _ _
 replace HB := Lib.hid (below_step HB.out hb)
 replace BK_gE := bB BK_gE hb
 replace BK_gO := bB BK_gO hb
 replace BK_gR := bB BK_gR hb
 replace BK_gN := bB BK_gN hb
 clear hb
 rw [hW]
 clear hW
 generalize w5.heap.size = gX at *
 have BK_gX := Lib.hid BK_gX
 replace HB := Lib.hid (below_drew1 HB.out)
 replace BK_gE := bD BK_gE
 replace BK_gO := bD BK_gO
 replace BK_gR := bD BK_gR
 replace BK_gN := bD BK_gN
 replace BK_gX := bD BK_gX
 refine start_ (n := 15) (S := fun w' => w'.cell? ⟨gE, 5, none⟩ = some (.func (.func 135) #[] #[]) ∧ w'.cell? ⟨gX, 0, none⟩ = some (.int .i64 x0) ∧ w'.cell? ⟨gX, 1, none⟩ = some (.int .i64 x1) ∧ w'.cell? ⟨gX, 2, none⟩ = some (.int .i64 x2) ∧ w'.cell? ⟨gX, 3, none⟩ = some (.int .i64 x3) ∧ w'.cell? ⟨gX, 4, none⟩ = some (.int .i64 x4) ∧ w'.cell? ⟨gX, 5, none⟩ = some (.int .i64 x5) ∧ w'.cell? ⟨gX, 6, none⟩ = some (.int .i64 x6) ∧ w'.cell? ⟨gE, 3, none⟩ = some (.func (.func 131) #[] #[]) ∧ w'.cell? ⟨gO, 2, none⟩ = some (.slice A0 ws.length c0)) (ds := []) #[false, false, false, false, false, false, false, false, false, false, false, false, false, false, false] (by kernel_rfl) rfl rfl ⟨((blk_cell BK_gE.out 5).trans rfl), ((blk_cell BK_gX.out 0).trans rfl), ((blk_cell BK_gX.out 1).trans rfl), ((blk_cell BK_gX.out 2).trans rfl), ((blk_cell BK_gX.out 3).trans rfl), ((blk_cell BK_gX.out 4).trans rfl), ((blk_cell BK_gX.out 5).trans rfl), ((blk_cell BK_gX.out 6).trans rfl), ((blk_cell BK_gE.out 3).trans rfl), ((blk_cell BK_gO.out 2).trans rfl)⟩ (fun hHeld => ?_); refine with_tabW asFlow_r.tab5 asFlow_r.bits5 (fun HT_ HW_ => ?_)
 generalize w6.drew = w7 at HB BK_gE BK_gO BK_gR BK_gN BK_gX hHeld ⊢
 refine pure_ (i := 0) (N := some 34) (v := ?_) (a' := ?_) #[true, false, false, false, false, false, false, false, false, false, false, false, false, false, false] rfl rfl (any_of HT_.out (by kernel_rfl)) (fun _ _ _ h => h) (Or.inl ⟨by rfl, ?_⟩) ?_ ?_
 rotate_left
 ·intro w'
  go_simp
  with_reducible rfl
 rotate_left
 ·simp only [Act.put, sA, sZ, sS, i64_w, i32_w]
  rfl
 refine take_ (i := 1) (N := some 35) (v := ?_) (a' := ?_) #[true, true, false, false, false, false, false, false, false, false, false, false, false, false, false] rfl rfl (take_ofW HT_.out HW_.out (by kernel_rfl)) (fun _ _ _ h => h) (Or.inl ⟨by rfl, ?_⟩) hHeld ?_ ?_
 rotate_left
 ·rintro w' ⟨s0, s1, s2, s3, s4, s5, s6, s7, s8, s9⟩
  go_simp
  with_reducible rfl
 rotate_left
 ·simp only [Act.put, sA, sZ, sS, i64_w, i32_w]
  rfl
 refine take_ (i := 2) (N := some 36) (v := ?_) (a' := ?_) #[true, true, true, false, false, false, false, false, false, false, false, false, false, false, false] rfl rfl (take_ofW HT_.out HW_.out (by kernel_rfl)) (fun _ _ _ h => h) (Or.inl ⟨by rfl, ?_⟩) hHeld ?_ ?_
 rotate_left
 ·rintro w' ⟨s0, s1, s2, s3, s4, s5, s6, s7, s8, s9⟩
  go_simp
  with_reducible rfl
 rotate_left
 ·simp only [Act.put, sA, sZ, sS, i64_w, i32_w]
  rfl
 refine one_ (i := 3) (N := some 37) #[true, true, true, true, false, false, false, false, false, false, false, false, false, false, false] rfl rfl (one_of HT_.out (by kernel_rfl)) (by decide) (fun K hK => ?_)
 refine goesT_ Tryz.func135 rfl rfl #[.agg #[.int .i64 x0, .int .i64 x1, .int .i64 x2, .int .i64 x3, .int .i64 x4, .int .i64 x5, .int .i64 x6]] (by rfl) rfl rfl (by rfl) (by simp only [mT, mC, mN]; rfl) ?_
 with_reducible refine (HM.out _ HB.out).mono ?_
 rintro e w8 ⟨rfl, hb⟩
 refine ⟨_, rfl, ?_⟩
 replace HB := Lib.hid (below_step HB.out hb)
 replace BK_gE := bB BK_gE hb
 replace BK_gO := bB BK_gO hb
 replace BK_gR := bB BK_gR hb
 replace BK_gN := bB BK_gN hb
 replace BK_gX := bB BK_gX hb
 clear hb
 cases m with
 | false =>
  refine hK.out _ _ ⟨((blk_cell BK_gE.out 5).trans rfl), ((blk_cell BK_gX.out 0).trans rfl), ((blk_cell BK_gX.out 1).trans rfl), ((blk_cell BK_gX.out 2).trans rfl), ((blk_cell BK_gX.out 3).trans rfl), ((blk_cell BK_gX.out 4).trans rfl), ((blk_cell BK_gX.out 5).trans rfl), ((blk_cell BK_gX.out 6).trans rfl), ((blk_cell BK_gE.out 3).trans rfl), ((blk_cell BK_gO.out 2).trans rfl)⟩ (fun hHeld => ?_)
  clear hK K
  refine norm_ (a' := ?_) ?_ ?_
  rotate_left
  ·show Act.put _ (some 37) _ = _
   simp only [Act.put, sA, sZ, sS, i64_w, i32_w]
   rfl
  refine pure_ (i := 4) (N := some 38) (v := ?_) (a' := ?_) #[true, true, true, true, true, false, false, false, false, false, false, false, false, false, false] rfl rfl (any_of HT_.out (by kernel_rfl)) (fun _ _ _ h => h) (Or.inl ⟨by rfl, ?_⟩) ?_ ?_
  rotate_left
  ·intro w'
   go_simp
   with_reducible rfl
  rotate_left
  ·simp only [Act.put, sA, sZ, sS, i64_w, i32_w]
   rfl
  refine pure_ (i := 5) (N := some 39) (v := ?_) (a' := ?_) #[true, true, true, true, true, true, false, false, false, false, false, false, false, false, false] rfl rfl (any_of HT_.out (by kernel_rfl)) (fun _ _ _ h => h) (Or.inl ⟨by rfl, ?_⟩) ?_ ?_
  rotate_left
  ·intro w'
   go_simp
   with_reducible rfl
  rotate_left
  ·simp only [Act.put, sA, sZ, sS, i64_w, i32_w]
   rfl
  refine pure_ (i := 6) (N := some 40) (v := undef) (a' := ?_) #[true, true, true, true, true, true, true, false, false, false, false, false, false, false, false] rfl rfl (any_of HT_.out (by kernel_rfl)) (fun _ _ _ h => h) (Or.inr ⟨by rfl, rfl⟩) ?_ ?_
  rotate_left
  ·simp only [Act.put, sA, sZ, sS, i64_w, i32_w]
   rfl
  refine pure_ (i := 7) (N := some 41) (v := undef) (a' := ?_) #[true, true, true, true, true, true, true, true, false, false, false, false, false, false, false] rfl rfl (any_of HT_.out (by kernel_rfl)) (fun _ _ _ h => h) (Or.inr ⟨by rfl, rfl⟩) ?_ ?_
  rotate_left
  ·simp only [Act.put, sA, sZ, sS, i64_w, i32_w]
   rfl
  refine pure_ (i := 8) (N := some 42) (v := undef) (a' := ?_) #[true, true, true, true, true, true, true, true, true, false, false, false, false, false, false] rfl rfl (any_of HT_.out (by kernel_rfl)) (fun _ _ _ h => h) (Or.inr ⟨by rfl, rfl⟩) ?_ ?_
  rotate_left
  ·simp only [Act.put, sA, sZ, sS, i64_w, i32_w]
   rfl
  refine pure_ (i := 9) (N := some 43) (v := undef) (a' := ?_) #[true, true, true, true, true, true, true, true, true, true, false, false, false, false, false] rfl rfl (any_of HT_.out (by kernel_rfl)) (fun _ _ _ h => h) (Or.inr ⟨by rfl, rfl⟩) ?_ ?_
  rotate_left
  ·simp only [Act.put, sA, sZ, sS, i64_w, i32_w]
   rfl
  refine pure_ (i := 10) (N := some 44) (v := undef) (a' := ?_) #[true, true, true, true, true, true, true, true, true, true, true, false, false, false, false] rfl rfl (any_of HT_.out (by kernel_rfl)) (fun _ _ _ h => h) (Or.inr ⟨by rfl, rfl⟩) ?_ ?_
  rotate_left
  ·simp only [Act.put, sA, sZ, sS, i64_w, i32_w]
   rfl
  refine pure_ (i := 11) (N := some 45) (v := undef) (a' := ?_) #[true, true, true, true, true, true, true, true, true, true, true, true, false, false, false] rfl rfl (any_of HT_.out (by kernel_rfl)) (fun _ _ _ h => h) (Or.inr ⟨by rfl, rfl⟩) ?_ ?_
  rotate_left
  ·simp only [Act.put, sA, sZ, sS, i64_w, i32_w]
   rfl
  refine pure_ (i := 12) (N := some 46) (v := undef) (a' := ?_) #[true, true, true, true, true, true, true, true, true, true, true, true, true, false, false] rfl rfl (any_of HT_.out (by kernel_rfl)) (fun _ _ _ h => h) (Or.inr ⟨by rfl, rfl⟩) ?_ ?_
  rotate_left
  ·simp only [Act.put, sA, sZ, sS, i64_w, i32_w]
   rfl
  refine pure_ (i := 13) (N := some 47) (v := undef) (a' := ?_) #[true, true, true, true, true, true, true, true, true, true, true, true, true, true, false] rfl rfl (any_of HT_.out (by kernel_rfl)) (fun _ _ _ h => h) (Or.inr ⟨by rfl, rfl⟩) ?_ ?_
  rotate_left
  ·simp only [Act.put, sA, sZ, sS, i64_w, i32_w]
   rfl
  refine pure_ (i := 14) (N := some 48) (v := ?_) (a' := ?_) #[true, true, true, true, true, true, true, true, true, true, true, true, true, true, true] rfl rfl (any_of HT_.out (by kernel_rfl)) (fun _ _ _ h => h) (Or.inl ⟨by rfl, ?_⟩) ?_ ?_
  rotate_left
  ·intro w'
   go_simp
   with_reducible rfl
  rotate_left
  ·simp only [Act.put, sA, sZ, sS, i64_w, i32_w]
   rfl
  refine done_ (done_of HT_.out (by kernel_rfl)) ?_
  have k_gN_0 := bC BK_gN 0 (.int .i64 0) rfl
  have k_gN_1 := bC BK_gN 1 (.int .i64 0) rfl
  have k_gN_2 := bC BK_gN 2 (.int .i64 0) rfl
  have k_gN_3 := bC BK_gN 3 (.int .i64 0) rfl
  have k_gN_4 := bC BK_gN 4 (.int .i64 0) rfl
  have k_gN_5 := bC BK_gN 5 (.int .i64 0) rfl
  have k_gN_6 := bC BK_gN 6 (.int .i64 0) rfl
  have k_gR_0 := bC BK_gR 0 (.int .i64 0) rfl
  have k_gR_1 := bC BK_gR 1 (.int .i64 0) rfl
  have k_gR_2 := bC BK_gR 2 (.int .i64 0) rfl
  have k_gR_3 := bC BK_gR 3 (.int .i64 0) rfl
  have k_gR_4 := bC BK_gR 4 (.int .i64 0) rfl
  have k_gR_5 := bC BK_gR 5 (.int .i64 0) rfl
  have k_gR_6 := bC BK_gR 6 (.int .i64 0) rfl
  have f_gR_0 := bF BK_gR 0
  have f_gR_1 := bF BK_gR 1
  have f_gR_2 := bF BK_gR 2
  have f_gR_3 := bF BK_gR 3
  have f_gR_4 := bF BK_gR 4
  have f_gR_5 := bF BK_gR 5
  have f_gR_6 := bF BK_gR 6
  go_wp2
  refine bodyPost_ret (results_ct rfl _ _ gR 58 #[.int .i64 0, .int .i64 0, .int .i64 0, .int .i64 0, .int .i64 0, .int .i64 0, .int .i64 0] (0, 0) _ rfl (blk_put (cs' := #[.int .i64 0, .int .i64 0, .int .i64 0, .int .i64 0, .int .i64 0, .int .i64 0, .int .i64 0]) (blk_put (cs' := #[.int .i64 0, .int .i64 0, .int .i64 0, .int .i64 0, .int .i64 0, .int .i64 0, .int .i64 0]) (blk_put (cs' := #[.int .i64 0, .int .i64 0, .int .i64 0, .int .i64 0, .int .i64 0, .int .i64 0, .int .i64 0]) (blk_put (cs' := #[.int .i64 0, .int .i64 0, .int .i64 0, .int .i64 0, .int .i64 0, .int .i64 0, .int .i64 0]) (blk_put (cs' := #[.int .i64 0, .int .i64 0, .int .i64 0, .int .i64 0, .int .i64 0, .int .i64 0, .int .i64 0]) (blk_put (cs' := #[.int .i64 0, .int .i64 0, .int .i64 0, .int .i64 0, .int .i64 0, .int .i64 0, .int .i64 0]) (blk_put (cs' := #[.int .i64 0, .int .i64 0, .int .i64 0, .int .i64 0, .int .i64 0, .int .i64 0, .int .i64 0]) (BK_gR.out) 0 _ rfl) 1 _ rfl) 2 _ rfl) 3 _ rfl) 4 _ rfl) 5 _ rfl) 6 _ rfl) Tryz.underlying58 rfl (by kernel_rfl)) rfl ?_
  exact ⟨rfl, below_set (below_set (below_set (below_set (below_set (below_set (below_set (HB.out) GE_gR) GE_gR) GE_gR) GE_gR) GE_gR) GE_gR) GE_gR⟩
 | true =>
  refine hK.out _ _ ⟨((blk_cell BK_gE.out 5).trans rfl), ((blk_cell BK_gX.out 0).trans rfl), ((blk_cell BK_gX.out 1).trans rfl), ((blk_cell BK_gX.out 2).trans rfl), ((blk_cell BK_gX.out 3).trans rfl), ((blk_cell BK_gX.out 4).trans rfl), ((blk_cell BK_gX.out 5).trans rfl), ((blk_cell BK_gX.out 6).trans rfl), ((blk_cell BK_gE.out 3).trans rfl), ((blk_cell BK_gO.out 2).trans rfl)⟩ (fun hHeld => ?_)
  clear hK K
  refine norm_ (a' := ?_) ?_ ?_
  rotate_left
  ·show Act.put _ (some 37) _ = _
   simp only [Act.put, sA, sZ, sS, i64_w, i32_w]
   rfl
  refine pure_ (i := 4) (N := some 38) (v := ?_) (a' := ?_) #[true, true, true, true, true, false, false, false, false, false, false, false, false, false, false] rfl rfl (any_of HT_.out (by kernel_rfl)) (fun _ _ _ h => h) (Or.inl ⟨by rfl, ?_⟩) ?_ ?_
  rotate_left
  ·intro w'
   go_simp
   with_reducible rfl
  rotate_left
  ·simp only [Act.put, sA, sZ, sS, i64_w, i32_w]
   rfl
  refine pure_ (i := 5) (N := some 39) (v := ?_) (a' := ?_) #[true, true, true, true, true, true, false, false, false, false, false, false, false, false, false] rfl rfl (any_of HT_.out (by kernel_rfl)) (fun _ _ _ h => h) (Or.inl ⟨by rfl, ?_⟩) ?_ ?_
  rotate_left
  ·intro w'
   go_simp
   with_reducible rfl
  rotate_left
  ·simp only [Act.put, sA, sZ, sS, i64_w, i32_w]
   rfl
  refine pure_ (i := 6) (N := some 40) (v := ?_) (a' := ?_) #[true, true, true, true, true, true, true, false, false, false, false, false, false, false, false] rfl rfl (any_of HT_.out (by kernel_rfl)) (fun _ _ _ h => h) (Or.inl ⟨by rfl, ?_⟩) ?_ ?_
  rotate_left
  ·intro w'
   go_simp
   with_reducible rfl
  rotate_left
  ·simp only [Act.put, sA, sZ, sS, i64_w, i32_w]
   rfl
  refine pure_ (i := 10) (N := some 44) (v := ?_) (a' := ?_) #[true, true, true, true, true, true, true, false, false, false, true, false, false, false, false] rfl rfl (any_of HT_.out (by kernel_rfl)) (fun _ _ _ h => h) (Or.inl ⟨by rfl, ?_⟩) ?_ ?_
  rotate_left
  ·intro w'
   go_simp
   with_reducible rfl
  rotate_left
  ·simp only [Act.put, sA, sZ, sS, i64_w, i32_w]
   rfl
  refine take_ (i := 7) (N := some 41) (v := ?_) (a' := ?_) #[true, true, true, true, true, true, true, true, false, false, true, false, false, false, false] rfl rfl (take_ofW HT_.out HW_.out (by kernel_rfl)) (fun _ _ _ h => h) (Or.inl ⟨by rfl, ?_⟩) hHeld ?_ ?_
  rotate_left
  ·rintro w' ⟨s0, s1, s2, s3, s4, s5, s6, s7, s8, s9⟩
   go_simp
   with_reducible rfl
  rotate_left
  ·simp only [Act.put, sA, sZ, sS, i64_w, i32_w]
   rfl
  refine take_ (i := 8) (N := some 42) (v := ?_) (a' := ?_) #[true, true, true, true, true, true, true, true, true, false, true, false, false, false, false] rfl rfl (take_ofW HT_.out HW_.out (by kernel_rfl)) (fun _ _ _ h => h) (Or.inl ⟨by rfl, ?_⟩) hHeld ?_ ?_
  rotate_left
  ·rintro w' ⟨s0, s1, s2, s3, s4, s5, s6, s7, s8, s9⟩
   go_simp
   with_reducible rfl
  rotate_left
  ·simp only [Act.put, sA, sZ, sS, i64_w, i32_w]
   rfl
  refine take_ (i := 11) (N := some 45) (v := ?_) (a' := ?_) #[true, true, true, true, true, true, true, true, true, false, true, true, false, false, false] rfl rfl (take_ofW HT_.out HW_.out (by kernel_rfl)) (fun _ _ _ h => h) (Or.inl ⟨by rfl, ?_⟩) hHeld ?_ ?_
  rotate_left
  ·rintro w' ⟨s0, s1, s2, s3, s4, s5, s6, s7, s8, s9⟩
   go_simp
   with_reducible rfl
  rotate_left
  ·simp only [Act.put, sA, sZ, sS, i64_w, i32_w]
   rfl
  refine one_ (i := 9) (N := some 43) #[true, true, true, true, true, true, true, true, true, true, true, true, false, false, false] rfl rfl (one_of HT_.out (by kernel_rfl)) (by decide) (fun K hK => ?_)
  refine goesT_ Tryz.func131 rfl rfl #[.agg #[.int .i64 x0, .int .i64 x1, .int .i64 x2, .int .i64 x3, .int .i64 x4, .int .i64 x5, .int .i64 x6]] (by rfl) rfl rfl (by rfl) (by simp only [mT, mC, mN]; rfl) ?_
  with_reducible refine (HW.out _ HB.out).mono ?_
  rintro e w9 ⟨v9, rfl, hr9, hb⟩
  refine ⟨_, rfl, ?_⟩
  replace HB := Lib.hid (below_step HB.out hb)
  replace BK_gE := bB BK_gE hb
  replace BK_gO := bB BK_gO hb
  replace BK_gR := bB BK_gR hb
  replace BK_gN := bB BK_gN hb
  replace BK_gX := bB BK_gX hb
  clear hb
  have HQ := Lib.hid hr9
  clear hr9
  refine hK.out _ _ ⟨((blk_cell BK_gE.out 5).trans rfl), ((blk_cell BK_gX.out 0).trans rfl), ((blk_cell BK_gX.out 1).trans rfl), ((blk_cell BK_gX.out 2).trans rfl), ((blk_cell BK_gX.out 3).trans rfl), ((blk_cell BK_gX.out 4).trans rfl), ((blk_cell BK_gX.out 5).trans rfl), ((blk_cell BK_gX.out 6).trans rfl), ((blk_cell BK_gE.out 3).trans rfl), ((blk_cell BK_gO.out 2).trans rfl)⟩ (fun hHeld => ?_)
  clear hK K
  refine norm_ (a' := ?_) ?_ ?_
  rotate_left
  ·show Act.put _ (some 43) _ = _
   simp only [Act.put, sA, sZ, sS, i64_w, i32_w]
   rfl
  refine one_ (i := 12) (N := some 46) #[true, true, true, true, true, true, true, true, true, true, true, true, true, false, false] rfl rfl (one_of HT_.out (by kernel_rfl)) (by decide) (fun K hK => ?_)
  refine goes_ Tryz.func119 (by kernel_rfl) rfl #[v9, .slice A0 ws.length c0] (by rfl) rfl rfl (by simp only [mT, mC, mN]; rfl) ?_
  with_reducible refine (equal_new v9 A0 c0 l' ws _ _ HQ.out (Kd.C_below HR.out HB.out) HC.out).mono ?_
  rintro e w10 ⟨rfl, hb⟩
  refine ⟨_, rfl, ?_⟩
  replace HB := Lib.hid (below_step HB.out hb)
  replace BK_gE := bB BK_gE hb
  replace BK_gO := bB BK_gO hb
  replace BK_gR := bB BK_gR hb
  replace BK_gN := bB BK_gN hb
  replace BK_gX := bB BK_gX hb
  clear hb
  refine hK.out _ _ ⟨((blk_cell BK_gE.out 5).trans rfl), ((blk_cell BK_gX.out 0).trans rfl), ((blk_cell BK_gX.out 1).trans rfl), ((blk_cell BK_gX.out 2).trans rfl), ((blk_cell BK_gX.out 3).trans rfl), ((blk_cell BK_gX.out 4).trans rfl), ((blk_cell BK_gX.out 5).trans rfl), ((blk_cell BK_gX.out 6).trans rfl), ((blk_cell BK_gE.out 3).trans rfl), ((blk_cell BK_gO.out 2).trans rfl)⟩ (fun hHeld => ?_)
  clear hK K
  refine norm_ (a' := ?_) ?_ ?_
  rotate_left
  ·show Act.put _ (some 46) _ = _
   simp only [Act.put, sA, sZ, sS, i64_w, i32_w]
   rfl
  refine pure_ (i := 13) (N := some 47) (v := ?_) (a' := ?_) #[true, true, true, true, true, true, true, true, true, true, true, true, true, true, false] rfl rfl (any_of HT_.out (by kernel_rfl)) (fun _ _ _ h => h) (Or.inl ⟨by rfl, ?_⟩) ?_ ?_
  rotate_left
  ·intro w'
   go_simp
   with_reducible rfl
  rotate_left
  ·simp only [Act.put, sA, sZ, sS, i64_w, i32_w]
   rfl
  refine pure_ (i := 14) (N := some 48) (v := ?_) (a' := ?_) #[true, true, true, true, true, true, true, true, true, true, true, true, true, true, true] rfl rfl (any_of HT_.out (by kernel_rfl)) (fun _ _ _ h => h) (Or.inl ⟨by rfl, ?_⟩) ?_ ?_
  rotate_left
  ·intro w'
   go_simp
   with_reducible rfl
  rotate_left
  ·simp only [Act.put, sA, sZ, sS, i64_w, i32_w]
   rfl
  refine done_ (done_of HT_.out (by kernel_rfl)) ?_
  have k_gN_0 := bC BK_gN 0 (.int .i64 0) rfl
  have k_gN_1 := bC BK_gN 1 (.int .i64 0) rfl
  have k_gN_2 := bC BK_gN 2 (.int .i64 0) rfl
  have k_gN_3 := bC BK_gN 3 (.int .i64 0) rfl
  have k_gN_4 := bC BK_gN 4 (.int .i64 0) rfl
  have k_gN_5 := bC BK_gN 5 (.int .i64 0) rfl
  have k_gN_6 := bC BK_gN 6 (.int .i64 0) rfl
  have k_gX_0 := bC BK_gX 0 (.int .i64 x0) rfl
  have k_gX_1 := bC BK_gX 1 (.int .i64 x1) rfl
  have k_gX_2 := bC BK_gX 2 (.int .i64 x2) rfl
  have k_gX_3 := bC BK_gX 3 (.int .i64 x3) rfl
  have k_gX_4 := bC BK_gX 4 (.int .i64 x4) rfl
  have k_gX_5 := bC BK_gX 5 (.int .i64 x5) rfl
  have k_gX_6 := bC BK_gX 6 (.int .i64 x6) rfl
  have k_gR_0 := bC BK_gR 0 (.int .i64 0) rfl
  have k_gR_1 := bC BK_gR 1 (.int .i64 0) rfl
  have k_gR_2 := bC BK_gR 2 (.int .i64 0) rfl
  have k_gR_3 := bC BK_gR 3 (.int .i64 0) rfl
  have k_gR_4 := bC BK_gR 4 (.int .i64 0) rfl
  have k_gR_5 := bC BK_gR 5 (.int .i64 0) rfl
  have k_gR_6 := bC BK_gR 6 (.int .i64 0) rfl
  have f_gR_0 := bF BK_gR 0
  have f_gR_1 := bF BK_gR 1
  have f_gR_2 := bF BK_gR 2
  have f_gR_3 := bF BK_gR 3
  have f_gR_4 := bF BK_gR 4
  have f_gR_5 := bF BK_gR 5
  have f_gR_6 := bF BK_gR 6
  cases hq : decide (l' = ws) with
  | false =>
   go_wp2
   refine bodyPost_ret (results_ct rfl _ _ gR 58 #[.int .i64 0, .int .i64 0, .int .i64 0, .int .i64 0, .int .i64 0, .int .i64 0, .int .i64 0] (0, 0) _ rfl (blk_put (cs' := #[.int .i64 0, .int .i64 0, .int .i64 0, .int .i64 0, .int .i64 0, .int .i64 0, .int .i64 0]) (blk_put (cs' := #[.int .i64 0, .int .i64 0, .int .i64 0, .int .i64 0, .int .i64 0, .int .i64 0, .int .i64 0]) (blk_put (cs' := #[.int .i64 0, .int .i64 0, .int .i64 0, .int .i64 0, .int .i64 0, .int .i64 0, .int .i64 0]) (blk_put (cs' := #[.int .i64 0, .int .i64 0, .int .i64 0, .int .i64 0, .int .i64 0, .int .i64 0, .int .i64 0]) (blk_put (cs' := #[.int .i64 0, .int .i64 0, .int .i64 0, .int .i64 0, .int .i64 0, .int .i64 0, .int .i64 0]) (blk_put (cs' := #[.int .i64 0, .int .i64 0, .int .i64 0, .int .i64 0, .int .i64 0, .int .i64 0, .int .i64 0]) (blk_put (cs' := #[.int .i64 0, .int .i64 0, .int .i64 0, .int .i64 0, .int .i64 0, .int .i64 0, .int .i64 0]) (BK_gR.out) 0 _ rfl) 1 _ rfl) 2 _ rfl) 3 _ rfl) 4 _ rfl) 5 _ rfl) 6 _ rfl) Tryz.underlying58 rfl (by kernel_rfl)) rfl ?_
   exact ⟨by rw [hq]; rfl, below_set (below_set (below_set (below_set (below_set (below_set (below_set (HB.out) GE_gR) GE_gR) GE_gR) GE_gR) GE_gR) GE_gR) GE_gR⟩
  | true =>
   go_wp2
   refine bodyPost_ret (results_ct rfl _ _ gR 58 #[.int .i64 x0, .int .i64 x1, .int .i64 x2, .int .i64 x3, .int .i64 x4, .int .i64 x5, .int .i64 x6] (0, 0) _ rfl (blk_put (cs' := #[.int .i64 x0, .int .i64 x1, .int .i64 x2, .int .i64 x3, .int .i64 x4, .int .i64 x5, .int .i64 x6]) (blk_put (cs' := #[.int .i64 x0, .int .i64 x1, .int .i64 x2, .int .i64 x3, .int .i64 x4, .int .i64 x5, .int .i64 0]) (blk_put (cs' := #[.int .i64 x0, .int .i64 x1, .int .i64 x2, .int .i64 x3, .int .i64 x4, .int .i64 0, .int .i64 0]) (blk_put (cs' := #[.int .i64 x0, .int .i64 x1, .int .i64 x2, .int .i64 x3, .int .i64 0, .int .i64 0, .int .i64 0]) (blk_put (cs' := #[.int .i64 x0, .int .i64 x1, .int .i64 x2, .int .i64 0, .int .i64 0, .int .i64 0, .int .i64 0]) (blk_put (cs' := #[.int .i64 x0, .int .i64 x1, .int .i64 0, .int .i64 0, .int .i64 0, .int .i64 0, .int .i64 0]) (blk_put (cs' := #[.int .i64 x0, .int .i64 0, .int .i64 0, .int .i64 0, .int .i64 0, .int .i64 0, .int .i64 0]) (BK_gR.out) 0 _ rfl) 1 _ rfl) 2 _ rfl) 3 _ rfl) 4 _ rfl) 5 _ rfl) 6 _ rfl) Tryz.underlying58 rfl (by kernel_rfl)) rfl ?_
   exact ⟨by rw [hq]; rfl, below_set (below_set (below_set (below_set (below_set (below_set (below_set (HB.out) GE_gR) GE_gR) GE_gR) GE_gR) GE_gR) GE_gR) GE_gR⟩
def objectFlow_true.T3 : Bool × List (List Nat × List Nat) := (true, [([], []), ([0], [0]), ([], []), ([2], [2]), ([], []), ([4], [4]), ([], []), ([5, 6], [5, 6]), ([1, 3, 7], [1, 3, 7]), ([8, 7, 0, 1, 2, 3, 4, 5, 6, 7, 8], [8]), ([9, 0, 1, 2, 3, 4, 5, 6, 7, 8, 9], [])])
def objectFlow_true.B3 : List Nat := [0, 1, 0, 4, 0, 16, 0, 112, 255, 511, 1023]
theorem objectFlow_true.tab3 : rtab .any (opsOf Tryz.f148 3) = objectFlow_true.T3 := by kernel_rfl
theorem objectFlow_true.bits3 : waitsOk objectFlow_true.T3.2 objectFlow_true.B3 = true := by kernel_rfl
set_option maxHeartbeats 6400000 in
theorem objectFlow_run (cls knd many : Int)  (l' : List Int) (x0 x1 x2 x3 x4 x5 x6 : Int) (m : Bool) (w : World)
  (hmay : ∀ W, Below w.heap.size w W → Calls Tryz.prog 135 #[.agg #[.int .i64 x0, .int .i64 x1, .int .i64 x2, .int .i64 x3, .int .i64 x4, .int .i64 x5, .int .i64 x6]] W fun e w' => e = .returned (.bool m) ∧ Below W.heap.size W w')
  (hws : ∀ W, Below w.heap.size w W → Calls Tryz.prog 131 #[.agg #[.int .i64 x0, .int .i64 x1, .int .i64 x2, .int .i64 x3, .int .i64 x4, .int .i64 x5, .int .i64 x6]] W fun e w' => ∃ v, e = .returned v ∧ Kd.R (Kd.int .i64) 2 w' W.heap.size (fun _ => True) v l' ∧ Below W.heap.size W w') :
  Calls Tryz.prog 148 #[.agg #[.int .i64 cls, .int .i64 knd, .int .i64 many, .func (.func 131) #[] #[], .func (.func 133) #[] #[], .func (.func 135) #[] #[]], .agg #[.int .i64 x0, .int .i64 x1, .int .i64 x2, .int .i64 x3, .int .i64 x4, .int .i64 x5, .int .i64 x6]] w (ObjIf m cls knd l' w) := by
 have HM := Lib.hid hmay
 have HW := Lib.hid hws
 clear hmay hws
 cases m with
 | false =>
  have HB := Lib.hid (Below.refl w.heap.size w)
  go_enter Tryz.func148, Tryz.ntmps148
  go_wp2_with (first | ((with_reducible refine gate_dst (N := 2) rfl ?_); refine box_event ?hg (N := 2) ?hd (cs := #[.int .i64 cls, .int .i64 knd, .int .i64 many, .func (.func 131) #[] #[], .func (.func 133) #[] #[], .func (.func 135) #[] #[]]) (t := 126) ?hr ?_; (case hd => rfl); (case hg => rfl); (case hr => first | (go_simp; done) | (go_simp; rfl)); intro gE hg w1 hbox hb; have GE_gE : w.heap.size ≤ gE := (by rw [hg]; exact below_size HB.out); replace HB := Lib.hid (below_step HB.out hb); have BK_gE := Lib.hid hbox; clear hb hbox hg) | ((with_reducible refine gate_dst (N := 3) rfl ?_); refine box_event ?hg (N := 3) ?hd (cs := #[.int .i64 x0, .int .i64 x1, .int .i64 x2, .int .i64 x3, .int .i64 x4, .int .i64 x5, .int .i64 x6]) (t := 58) ?hr ?_; (case hd => rfl); (case hg => rfl); (case hr => first | (go_simp; done) | (go_simp; rfl)); intro gX hg w2 hbox hb; have GE_gX : w.heap.size ≤ gX := (by rw [hg]; exact below_size HB.out); replace HB := Lib.hid (below_step HB.out hb); replace BK_gE := bB BK_gE hb; have BK_gX := Lib.hid hbox; clear hb hbox hg) | ((with_reducible refine gate_dst (N := 4) rfl ?_); refine box_event ?hg (N := 4) ?hd (cs := #[.int .i64 0, .int .i64 0, .slice none 0 0]) (t := 24) ?hr ?_; (case hd => rfl); (case hg => rfl); (case hr => first | (go_simp; done) | (go_simp; rfl)); intro gR hg w3 hbox hb; have GE_gR : w.heap.size ≤ gR := (by rw [hg]; exact below_size HB.out); replace HB := Lib.hid (below_step HB.out hb); replace BK_gE := bB BK_gE hb; replace BK_gX := bB BK_gX hb; have BK_gR := Lib.hid hbox; clear hb hbox hg; have k_gE_5 := bC BK_gE 5 (.func (.func 135) #[] #[]) rfl; have k_gX_0 := bC BK_gX 0 (.int .i64 x0) rfl; have k_gX_1 := bC BK_gX 1 (.int .i64 x1) rfl; have k_gX_2 := bC BK_gX 2 (.int .i64 x2) rfl; have k_gX_3 := bC BK_gX 3 (.int .i64 x3) rfl; have k_gX_4 := bC BK_gX 4 (.int .i64 x4) rfl; have k_gX_5 := bC BK_gX 5 (.int .i64 x5) rfl; have k_gX_6 := bC BK_gX 6 (.int .i64 x6) rfl) | (go_at_call 135; refine (HM.out _ HB.out).mono ?_; rintro e w4 ⟨rfl, hb⟩; replace HB := Lib.hid (below_step HB.out hb); replace BK_gE := bB BK_gE hb; replace BK_gX := bB BK_gX hb; replace BK_gR := bB BK_gR hb; clear hb; clear k_gE_5 k_gX_0 k_gX_1 k_gX_2 k_gX_3 k_gX_4 k_gX_5 k_gX_6; have k_gR_0 := bC BK_gR 0 (.int .i64 0) rfl; have k_gR_1 := bC BK_gR 1 (.int .i64 0) rfl; have k_gR_2 := bC BK_gR 2 (.slice none 0 0) rfl; have f_gR_0 := bF BK_gR 0; have f_gR_1 := bF BK_gR 1; have f_gR_2 := bF BK_gR 2))
  refine bodyPost_ret (results_ct rfl _ _ gR 24 #[.int .i64 0, .int .i64 0, .slice none 0 0] (0, 0) _ rfl (blk_put (cs' := #[.int .i64 0, .int .i64 0, .slice none 0 0]) (blk_put (cs' := #[.int .i64 0, .int .i64 0, .slice none 0 0]) (blk_put (cs' := #[.int .i64 0, .int .i64 0, .slice none 0 0]) (BK_gR.out) 0 _ rfl) 1 _ rfl) 2 _ rfl) Tryz.underlying24 rfl (by kernel_rfl)) rfl ?_
  exact ⟨_, rfl, Kd.R_nil _ _ _ _ _, below_set (below_set (below_set HB.out GE_gR) GE_gR) GE_gR⟩
 | true =>
  have HB := Lib.hid (Below.refl w.heap.size w)
  go_enter Tryz.func148, Tryz.ntmps148
  go_wp2_with (first | ((with_reducible refine gate_dst (N := 2) rfl ?_); refine box_event ?hg (N := 2) ?hd (cs := #[.int .i64 cls, .int .i64 knd, .int .i64 many, .func (.func 131) #[] #[], .func (.func 133) #[] #[], .func (.func 135) #[] #[]]) (t := 126) ?hr ?_; (case hd => rfl); (case hg => rfl); (case hr => first | (go_simp; done) | (go_simp; rfl)); intro gE hg w1 hbox hb; have GE_gE : w.heap.size ≤ gE := (by rw [hg]; exact below_size HB.out); replace HB := Lib.hid (below_step HB.out hb); have BK_gE := Lib.hid hbox; clear hb hbox hg) | ((with_reducible refine gate_dst (N := 3) rfl ?_); refine box_event ?hg (N := 3) ?hd (cs := #[.int .i64 x0, .int .i64 x1, .int .i64 x2, .int .i64 x3, .int .i64 x4, .int .i64 x5, .int .i64 x6]) (t := 58) ?hr ?_; (case hd => rfl); (case hg => rfl); (case hr => first | (go_simp; done) | (go_simp; rfl)); intro gX hg w2 hbox hb; have GE_gX : w.heap.size ≤ gX := (by rw [hg]; exact below_size HB.out); replace HB := Lib.hid (below_step HB.out hb); replace BK_gE := bB BK_gE hb; have BK_gX := Lib.hid hbox; clear hb hbox hg) | ((with_reducible refine gate_dst (N := 4) rfl ?_); refine box_event ?hg (N := 4) ?hd (cs := #[.int .i64 0, .int .i64 0, .slice none 0 0]) (t := 24) ?hr ?_; (case hd => rfl); (case hg => rfl); (case hr => first | (go_simp; done) | (go_simp; rfl)); intro gR hg w3 hbox hb; have GE_gR : w.heap.size ≤ gR := (by rw [hg]; exact below_size HB.out); replace HB := Lib.hid (below_step HB.out hb); replace BK_gE := bB BK_gE hb; replace BK_gX := bB BK_gX hb; have BK_gR := Lib.hid hbox; clear hb hbox hg; have k_gE_5 := bC BK_gE 5 (.func (.func 135) #[] #[]) rfl; have k_gX_0 := bC BK_gX 0 (.int .i64 x0) rfl; have k_gX_1 := bC BK_gX 1 (.int .i64 x1) rfl; have k_gX_2 := bC BK_gX 2 (.int .i64 x2) rfl; have k_gX_3 := bC BK_gX 3 (.int .i64 x3) rfl; have k_gX_4 := bC BK_gX 4 (.int .i64 x4) rfl; have k_gX_5 := bC BK_gX 5 (.int .i64 x5) rfl; have k_gX_6 := bC BK_gX 6 (.int .i64 x6) rfl) | (go_at_call 135; refine (HM.out _ HB.out).mono ?_; rintro e w4 ⟨rfl, hb⟩; replace HB := Lib.hid (below_step HB.out hb); replace BK_gE := bB BK_gE hb; replace BK_gX := bB BK_gX hb; replace BK_gR := bB BK_gR hb; clear hb; clear k_gE_5 k_gX_0 k_gX_1 k_gX_2 k_gX_3 k_gX_4 k_gX_5 k_gX_6))
  replace HB := Lib.hid (below_drew1 HB.out)
  replace BK_gE := bD BK_gE
  replace BK_gX := bD BK_gX
  replace BK_gR := bD BK_gR
  refine start_ (n := 11) (S := fun w' => w'.cell? ⟨gE, 0, none⟩ = some (.int .i64 cls) ∧ w'.cell? ⟨gE, 1, none⟩ = some (.int .i64 knd) ∧ w'.cell? ⟨gE, 3, none⟩ = some (.func (.func 131) #[] #[]) ∧ w'.cell? ⟨gX, 0, none⟩ = some (.int .i64 x0) ∧ w'.cell? ⟨gX, 1, none⟩ = some (.int .i64 x1) ∧ w'.cell? ⟨gX, 2, none⟩ = some (.int .i64 x2) ∧ w'.cell? ⟨gX, 3, none⟩ = some (.int .i64 x3) ∧ w'.cell? ⟨gX, 4, none⟩ = some (.int .i64 x4) ∧ w'.cell? ⟨gX, 5, none⟩ = some (.int .i64 x5) ∧ w'.cell? ⟨gX, 6, none⟩ = some (.int .i64 x6)) (ds := [9]) #[false, false, false, false, false, false, false, false, false, false, false] (by kernel_rfl) rfl rfl ⟨((blk_cell BK_gE.out 0).trans rfl), ((blk_cell BK_gE.out 1).trans rfl), ((blk_cell BK_gE.out 3).trans rfl), ((blk_cell BK_gX.out 0).trans rfl), ((blk_cell BK_gX.out 1).trans rfl), ((blk_cell BK_gX.out 2).trans rfl), ((blk_cell BK_gX.out 3).trans rfl), ((blk_cell BK_gX.out 4).trans rfl), ((blk_cell BK_gX.out 5).trans rfl), ((blk_cell BK_gX.out 6).trans rfl)⟩ (fun hHeld => ?_); refine with_tabW objectFlow_true.tab3 objectFlow_true.bits3 (fun HT_ HW_ => ?_)
  generalize w4.drew = w5 at HB BK_gE BK_gX BK_gR hHeld ⊢
  refine pure_ (i := 0) (N := some 12) (v := ?_) (a' := ?_) #[true, false, false, false, false, false, false, false, false, false, false] rfl rfl (any_of HT_.out (by kernel_rfl)) (fun _ _ _ h => h) (Or.inl ⟨by rfl, ?_⟩) ?_ ?_
  rotate_left
  ·intro w'
   go_simp
   with_reducible rfl
  rotate_left
  ·simp only [Act.put, sA, sZ, sS, i64_w, i32_w]
   rfl
  refine pure_ (i := 2) (N := some 14) (v := ?_) (a' := ?_) #[true, false, true, false, false, false, false, false, false, false, false] rfl rfl (any_of HT_.out (by kernel_rfl)) (fun _ _ _ h => h) (Or.inl ⟨by rfl, ?_⟩) ?_ ?_
  rotate_left
  ·intro w'
   go_simp
   with_reducible rfl
  rotate_left
  ·simp only [Act.put, sA, sZ, sS, i64_w, i32_w]
   rfl
  refine pure_ (i := 4) (N := some 16) (v := ?_) (a' := ?_) #[true, false, true, false, true, false, false, false, false, false, false] rfl rfl (any_of HT_.out (by kernel_rfl)) (fun _ _ _ h => h) (Or.inl ⟨by rfl, ?_⟩) ?_ ?_
  rotate_left
  ·intro w'
   go_simp
   with_reducible rfl
  rotate_left
  ·simp only [Act.put, sA, sZ, sS, i64_w, i32_w]
   rfl
  refine take_ (i := 1) (N := some 13) (v := ?_) (a' := ?_) #[true, true, true, false, true, false, false, false, false, false, false] rfl rfl (take_ofW HT_.out HW_.out (by kernel_rfl)) (fun _ _ _ h => h) (Or.inl ⟨by rfl, ?_⟩) hHeld ?_ ?_
  rotate_left
  ·rintro w' ⟨s0, s1, s2, s3, s4, s5, s6, s7, s8, s9⟩
   go_simp
   with_reducible rfl
  rotate_left
  ·simp only [Act.put, sA, sZ, sS, i64_w, i32_w]
   rfl
  refine take_ (i := 3) (N := some 15) (v := ?_) (a' := ?_) #[true, true, true, true, true, false, false, false, false, false, false] rfl rfl (take_ofW HT_.out HW_.out (by kernel_rfl)) (fun _ _ _ h => h) (Or.inl ⟨by rfl, ?_⟩) hHeld ?_ ?_
  rotate_left
  ·rintro w' ⟨s0, s1, s2, s3, s4, s5, s6, s7, s8, s9⟩
   go_simp
   with_reducible rfl
  rotate_left
  ·simp only [Act.put, sA, sZ, sS, i64_w, i32_w]
   rfl
  refine take_ (i := 5) (N := some 17) (v := ?_) (a' := ?_) #[true, true, true, true, true, true, false, false, false, false, false] rfl rfl (take_ofW HT_.out HW_.out (by kernel_rfl)) (fun _ _ _ h => h) (Or.inl ⟨by rfl, ?_⟩) hHeld ?_ ?_
  rotate_left
  ·rintro w' ⟨s0, s1, s2, s3, s4, s5, s6, s7, s8, s9⟩
   go_simp
   with_reducible rfl
  rotate_left
  ·simp only [Act.put, sA, sZ, sS, i64_w, i32_w]
   rfl
  refine take_ (i := 6) (N := some 18) (v := ?_) (a' := ?_) #[true, true, true, true, true, true, true, false, false, false, false] rfl rfl (take_ofW HT_.out HW_.out (by kernel_rfl)) (fun _ _ _ h => h) (Or.inl ⟨by rfl, ?_⟩) hHeld ?_ ?_
  rotate_left
  ·rintro w' ⟨s0, s1, s2, s3, s4, s5, s6, s7, s8, s9⟩
   go_simp
   with_reducible rfl
  rotate_left
  ·simp only [Act.put, sA, sZ, sS, i64_w, i32_w]
   rfl
  refine one_ (i := 7) (N := some 19) #[true, true, true, true, true, true, true, true, false, false, false] rfl rfl (one_of HT_.out (by kernel_rfl)) (by decide) (fun K hK => ?_)
  have LT := (blk_lt BK_gR.out : gR < w5.heap.size)
  have LB := below_size HB.out
  refine goesT_ Tryz.func131 rfl rfl #[.agg #[.int .i64 x0, .int .i64 x1, .int .i64 x2, .int .i64 x3, .int .i64 x4, .int .i64 x5, .int .i64 x6]] (by rfl) rfl rfl (by rfl) (by simp only [mT, mC, mN]; rfl) ?_
  with_reducible refine (HW.out _ HB.out).mono ?_
  rintro e w6 ⟨v9, rfl, hr9, hb⟩
  refine ⟨_, rfl, ?_⟩
  replace HB := Lib.hid (below_step HB.out hb)
  replace BK_gE := bB BK_gE hb
  replace BK_gX := bB BK_gX hb
  replace BK_gR := bB BK_gR hb
  clear hb
  obtain ⟨A9, c9, rfl, _, _⟩ := Kd.R_reads hr9
  have HQ := Lib.hid hr9
  clear hr9
  refine hK.out _ _ ⟨((blk_cell BK_gE.out 0).trans rfl), ((blk_cell BK_gE.out 1).trans rfl), ((blk_cell BK_gE.out 3).trans rfl), ((blk_cell BK_gX.out 0).trans rfl), ((blk_cell BK_gX.out 1).trans rfl), ((blk_cell BK_gX.out 2).trans rfl), ((blk_cell BK_gX.out 3).trans rfl), ((blk_cell BK_gX.out 4).trans rfl), ((blk_cell BK_gX.out 5).trans rfl), ((blk_cell BK_gX.out 6).trans rfl)⟩ (fun hHeld => ?_)
  clear hK K
  refine norm_ (a' := ?_) ?_ ?_
  rotate_left
  ·show Act.put _ (some 19) _ = _
   simp only [Act.put, sA, sZ, sS, i64_w, i32_w]
   rfl
  refine pure_ (i := 8) (N := some 20) (v := ?_) (a' := ?_) #[true, true, true, true, true, true, true, true, true, false, false] rfl rfl (any_of HT_.out (by kernel_rfl)) (fun _ _ _ h => h) (Or.inl ⟨by rfl, ?_⟩) ?_ ?_
  rotate_left
  ·intro w'
   go_simp
   with_reducible rfl
  rotate_left
  ·simp only [Act.put, sA, sZ, sS, i64_w, i32_w]
   rfl
  refine last_ (i := 9) (N := none) #[true, true, true, true, true, true, true, true, true, true, false] rfl rfl (one_of HT_.out (by kernel_rfl)) (by decide) (fun K hK => ?_)
  have k_gR_0 := bC BK_gR 0 (.int .i64 0) rfl
  have k_gR_1 := bC BK_gR 1 (.int .i64 0) rfl
  have k_gR_2 := bC BK_gR 2 (.slice none 0 0) rfl
  have f_gR_0 := bF BK_gR 0
  have f_gR_1 := bF BK_gR 1
  have f_gR_2 := bF BK_gR 2
  refine skip_ (w1 := ?_) (by rfl) rfl ?_ ?_
  rotate_left
  ·go_simp
   rfl
  refine hK.out _ _ ?_
  clear hK K
  refine pure_ (i := 10) (N := some 5) (v := ?_) (a' := ?_) #[true, true, true, true, true, true, true, true, true, true, true] rfl rfl (any_of HT_.out (by kernel_rfl)) (fun _ _ _ h => h) (Or.inl ⟨by rfl, ?_⟩) ?_ ?_
  rotate_left
  ·intro w'
   go_simp
   with_reducible rfl
  rotate_left
  ·simp only [Act.put, sA, sZ, sS, i64_w, i32_w]
   rfl
  refine done_ (done_of HT_.out (by kernel_rfl)) ?_
  go_wp2
  refine bodyPost_ret (results_ct rfl _ _ gR 24 #[.int .i64 cls, .int .i64 knd, .slice A9 l'.length c9] (0, 0) _ rfl (blk_put (cs' := #[.int .i64 cls, .int .i64 knd, .slice A9 l'.length c9]) (blk_put (cs' := #[.int .i64 cls, .int .i64 knd, .slice none 0 0]) (blk_put (cs' := #[.int .i64 cls, .int .i64 0, .slice none 0 0]) (BK_gR.out) 0 _ rfl) 1 _ rfl) 2 _ rfl) Tryz.underlying24 rfl (by kernel_rfl)) rfl ?_
  exact ⟨_, rfl, Kd.R_lower (R_old (p := ⟨gR, 2, none⟩) (R_old (p := ⟨gR, 1, none⟩) (R_old (p := ⟨gR, 0, none⟩) HQ.out LT _) LT _) LT _) LB, below_set (below_set (below_set HB.out GE_gR) GE_gR) GE_gR⟩
end Go.Proofs.YtecghmlojllkdaaGreat.P

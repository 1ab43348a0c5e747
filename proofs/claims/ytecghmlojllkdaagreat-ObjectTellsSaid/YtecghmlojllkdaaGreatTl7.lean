import Derived.Test.YtecghmlojllkdaaGreatTl6
import Derived.Test.YtecghmlojllkdaaGreatTl5
namespace Go.Proofs.YtecghmlojllkdaaGreat.P
open Go.RowKit Go.Proofs.YtecghmlojllkdaaGreatW.PrintWords Go.Proofs.YtecghmlojllkdaaGreatW.PrintLast
set_option linter.unusedVariables false
set_option linter.unusedSimpArgs false
set_option maxRecDepth 100000
def asNum_r.T5 : Bool × List (List Nat × List Nat) := (true, [([], []), ([0], [0]), ([], []), ([1, 2], [1, 2]), ([3], [3]), ([4, 3], [4]), ([5], [5]), ([6, 5], [5, 6]), ([5], [5]), ([7, 8, 5, 5], [5, 7, 8]), ([5], [5]), ([10, 5], [5, 10]), ([9, 11, 9, 5], [5, 9, 11]), ([12, 5], [5, 12]), ([5, 13], [5, 13])])
def asNum_r.B5 : List Nat := [0, 1, 0, 7, 15, 31, 63, 127, 63, 511, 63, 1087, 4095, 8191, 16383]
theorem asNum_r.tab5 : rtab .any (opsOf Tryz.f54 5) = asNum_r.T5 := by kernel_rfl
theorem asNum_r.bits5 : waitsOk asNum_r.T5.2 asNum_r.B5 = true := by kernel_rfl
set_option maxHeartbeats 6400000 in
theorem asNum_no (cls knd many c t : Int) (b1 b2 : Nat) (A0 : Option Addr) (c0 : Nat) (ws : List Int) (w : World) (hn : c ≠ cls ∨ t ≠ knd ∨ ((ws.length : Nat) : Int) ≠ many) :
  Calls Tryz.prog 54 #[.agg #[.int .i64 cls, .int .i64 knd, .int .i64 many, .func (.func 186) #[] #[], .func (.func 187) #[] #[], .func (.func 188) #[] #[.pointer (some ⟨b1, 0, none⟩), .pointer (some ⟨b2, 0, none⟩)]], .agg #[.int .i64 c, .int .i64 t, .slice A0 ws.length c0]] w (SaidIf false (.int .i64 0) (.int .i64 0) w) := by
 rcases noQ hn with ⟨q1, q2, q3⟩ | ⟨q1, q2⟩ | q1
 all_goals
  clear hn
  have HB := Lib.hid (Below.refl w.heap.size w)
  go_enter Tryz.func54, Tryz.ntmps54
  go_wp2_with (first | ((with_reducible refine gate_dst (N := 2) rfl ?_); refine box_event ?hg (N := 2) ?hd (cs := #[.int .i64 cls, .int .i64 knd, .int .i64 many, .func (.func 186) #[] #[], .func (.func 187) #[] #[], .func (.func 188) #[] #[.pointer (some ⟨b1, 0, none⟩), .pointer (some ⟨b2, 0, none⟩)]]) (t := 111) ?hr ?_; (case hd => rfl); (case hg => rfl); (case hr => first | (go_simp; done) | (go_simp; rfl)); intro gE hg w1 hbox hb; have GE_gE : w.heap.size ≤ gE := (by rw [hg]; exact below_size HB.out); replace HB := Lib.hid (below_step HB.out hb); have BK_gE := Lib.hid hbox; clear hb hbox hg) | ((with_reducible refine gate_dst (N := 3) rfl ?_); refine box_event ?hg (N := 3) ?hd (cs := #[.int .i64 c, .int .i64 t, .slice A0 ws.length c0]) (t := 24) ?hr ?_; (case hd => rfl); (case hg => rfl); (case hr => first | (go_simp; done) | (go_simp; rfl)); intro gO hg w2 hbox hb; have GE_gO : w.heap.size ≤ gO := (by rw [hg]; exact below_size HB.out); replace HB := Lib.hid (below_step HB.out hb); replace BK_gE := bB BK_gE hb; have BK_gO := Lib.hid hbox; clear hb hbox hg; have k_gE_0 := bC BK_gE 0 (.int .i64 cls) rfl; have k_gE_1 := bC BK_gE 1 (.int .i64 knd) rfl; have k_gE_2 := bC BK_gE 2 (.int .i64 many) rfl; have k_gE_4 := bC BK_gE 4 (.func (.func 187) #[] #[]) rfl; have k_gO_0 := bC BK_gO 0 (.int .i64 c) rfl; have k_gO_1 := bC BK_gO 1 (.int .i64 t) rfl; have k_gO_2 := bC BK_gO 2 (.slice A0 ws.length c0) rfl))
  go_ret2
  exact ⟨rfl, HB.out⟩
set_option maxHeartbeats 6400000 in
theorem asNum_run (cls knd many : Int) (b1 b2 : Nat) (A0 : Option Addr) (c0 : Nat) (ws : List Int) (l' : List Int) (x0 : Int) (m : Bool) (w : World) (hr : Kd.C (Kd.int .i64) w A0 ws.length ws) (hc0 : ws.length ≤ c0) (hlen : ((ws.length : Nat) : Int) = many)
  (hth : ∀ W, Below w.heap.size w W → Calls Tryz.prog 187 #[.slice A0 ws.length c0] W fun e w' => e = .returned (.int .i64 x0) ∧ Below W.heap.size W w')
  (hmay : ∀ W, Below w.heap.size w W → Calls Tryz.prog 188 #[.int .i64 x0, .pointer (some ⟨b1, 0, none⟩), .pointer (some ⟨b2, 0, none⟩)] W fun e w' => e = .returned (.bool m) ∧ Below W.heap.size W w')
  (hws : ∀ W, Below w.heap.size w W → Calls Tryz.prog 186 #[.int .i64 x0] W fun e w' => ∃ v, e = .returned v ∧ Kd.R (Kd.int .i64) 2 w' W.heap.size (fun _ => True) v l' ∧ Below W.heap.size W w') :
  Calls Tryz.prog 54 #[.agg #[.int .i64 cls, .int .i64 knd, .int .i64 many, .func (.func 186) #[] #[], .func (.func 187) #[] #[], .func (.func 188) #[] #[.pointer (some ⟨b1, 0, none⟩), .pointer (some ⟨b2, 0, none⟩)]], .agg #[.int .i64 cls, .int .i64 knd, .slice A0 ws.length c0]] w (SaidIf (m && decide (l' = ws)) (.int .i64 x0) (.int .i64 0) w) := by
 have HR := Lib.hid hr
 have HC := Lib.hid hc0
 have HT := Lib.hid hth
 have HM := Lib.hid hmay
 have HW := Lib.hid hws
 clear hr hc0 hth hmay hws
 have q1 : (cls != cls) = false := by simp
 have q2 : (knd != knd) = false := by simp
 have q3 : (((ws.length : Nat) : Int) != many) = false := by simp [hlen]
 have HL := Lib.hid hlen
 clear hlen
 have HB := Lib.hid (Below.refl w.heap.size w)
 go_enter Tryz.func54, Tryz.ntmps54
 go_wp2_with (first | ((with_reducible refine gate_dst (N := 2) rfl ?_); refine box_event ?hg (N := 2) ?hd (cs := #[.int .i64 cls, .int .i64 knd, .int .i64 many, .func (.func 186) #[] #[], .func (.func 187) #[] #[], .func (.func 188) #[] #[.pointer (some ⟨b1, 0, none⟩), .pointer (some ⟨b2, 0, none⟩)]]) (t := 111) ?hr ?_; (case hd => rfl); (case hg => rfl); (case hr => first | (go_simp; done) | (go_simp; rfl)); intro gE hg w1 hbox hb; have GE_gE : w.heap.size ≤ gE := (by rw [hg]; exact below_size HB.out); replace HB := Lib.hid (below_step HB.out hb); have BK_gE := Lib.hid hbox; clear hb hbox hg) | ((with_reducible refine gate_dst (N := 3) rfl ?_); refine box_event ?hg (N := 3) ?hd (cs := #[.int .i64 cls, .int .i64 knd, .slice A0 ws.length c0]) (t := 24) ?hr ?_; (case hd => rfl); (case hg => rfl); (case hr => first | (go_simp; done) | (go_simp; rfl)); intro gO hg w2 hbox hb; have GE_gO : w.heap.size ≤ gO := (by rw [hg]; exact below_size HB.out); replace HB := Lib.hid (below_step HB.out hb); replace BK_gE := bB BK_gE hb; have BK_gO := Lib.hid hbox; clear hb hbox hg; have k_gE_0 := bC BK_gE 0 (.int .i64 cls) rfl; have k_gE_1 := bC BK_gE 1 (.int .i64 knd) rfl; have k_gE_2 := bC BK_gE 2 (.int .i64 many) rfl; have k_gE_4 := bC BK_gE 4 (.func (.func 187) #[] #[]) rfl; have k_gO_0 := bC BK_gO 0 (.int .i64 cls) rfl; have k_gO_1 := bC BK_gO 1 (.int .i64 knd) rfl; have k_gO_2 := bC BK_gO 2 (.slice A0 ws.length c0) rfl) | (go_at_call 187; refine (HT.out _ HB.out).mono ?_; rintro e w3 ⟨rfl, hb⟩; replace HB := Lib.hid (below_step HB.out hb); replace BK_gE := bB BK_gE hb; replace BK_gO := bB BK_gO hb; clear hb; clear k_gE_0 k_gE_1 k_gE_2 k_gE_4 k_gO_0 k_gO_1 k_gO_2))
 replace HB := Lib.hid (below_drew1 HB.out)
 replace BK_gE := bD BK_gE
 replace BK_gO := bD BK_gO
 refine start_ (n := 15) (S := fun w' => w'.cell? ⟨gE, 5, none⟩ = some (.func (.func 188) #[] #[.pointer (some ⟨b1, 0, none⟩), .pointer (some ⟨b2, 0, none⟩)]) ∧ w'.cell? ⟨gE, 3, none⟩ = some (.func (.func 186) #[] #[]) ∧ w'.cell? ⟨gO, 2, none⟩ = some (.slice A0 ws.length c0)) (ds := []) #[false, false, false, false, false, false, false, false, false, false, false, false, false, false, false] (by kernel_rfl) rfl rfl ⟨((blk_cell BK_gE.out 5).trans rfl), ((blk_cell BK_gE.out 3).trans rfl), ((blk_cell BK_gO.out 2).trans rfl)⟩ (fun hHeld => ?_); refine with_tabW asNum_r.tab5 asNum_r.bits5 (fun HT_ HW_ => ?_)
 generalize w3.drew = w4 at HB BK_gE BK_gO hHeld ⊢
 refine pure_ (i := 0) (N := some 34) (v := ?_) (a' := ?_) #[true, false, false, false, false, false, false, false, false, false, false, false, false, false, false] rfl rfl (any_of HT_.out (by kernel_rfl)) (fun _ _ _ h => h) (Or.inl ⟨by rfl, ?_⟩) ?_ ?_
 rotate_left
 ·intro w'
  go_simp
  with_reducible rfl
 rotate_left
 ·simp only [Act.put, sA, sZ, sS, i64_w, i32_w]
  rfl
 refine pure_ (i := 2) (N := some 36) (v := ?_) (a' := ?_) #[true, false, true, false, false, false, false, false, false, false, false, false, false, false, false] rfl rfl (any_of HT_.out (by kernel_rfl)) (fun _ _ _ h => h) (Or.inl ⟨by rfl, ?_⟩) ?_ ?_
 rotate_left
 ·intro w'
  go_simp
  with_reducible rfl
 rotate_left
 ·simp only [Act.put, sA, sZ, sS, i64_w, i32_w]
  rfl
 refine take_ (i := 1) (N := some 35) (v := ?_) (a' := ?_) #[true, true, true, false, false, false, false, false, false, false, false, false, false, false, false] rfl rfl (take_ofW HT_.out HW_.out (by kernel_rfl)) (fun _ _ _ h => h) (Or.inl ⟨by rfl, ?_⟩) hHeld ?_ ?_
 rotate_left
 ·rintro w' ⟨s0, s1, s2⟩
  go_simp
  with_reducible rfl
 rotate_left
 ·simp only [Act.put, sA, sZ, sS, i64_w, i32_w]
  rfl
 refine one_ (i := 3) (N := some 37) #[true, true, true, true, false, false, false, false, false, false, false, false, false, false, false] rfl rfl (one_of HT_.out (by kernel_rfl)) (by decide) (fun K hK => ?_)
 refine goesT_ Tryz.func188 rfl rfl #[.int .i64 x0, .pointer (some ⟨b1, 0, none⟩), .pointer (some ⟨b2, 0, none⟩)] (by rfl) rfl rfl (by rfl) (by simp only [mT, mC, mN]; rfl) ?_
 with_reducible refine (HM.out _ HB.out).mono ?_
 rintro e w5 ⟨rfl, hb⟩
 refine ⟨_, rfl, ?_⟩
 replace HB := Lib.hid (below_step HB.out hb)
 replace BK_gE := bB BK_gE hb
 replace BK_gO := bB BK_gO hb
 clear hb
 cases m with
 | false =>
  refine hK.out _ _ ⟨((blk_cell BK_gE.out 5).trans rfl), ((blk_cell BK_gE.out 3).trans rfl), ((blk_cell BK_gO.out 2).trans rfl)⟩ (fun hHeld => ?_)
  clear hK K
  refine norm_ (a' := ?_) ?_ ?_
  rotate_left
  ·show Act.put _ (some 37) _ = _
   simp only [Act.put, sA, sZ, sS, i64_w, i32_w]
   rfl
  refine pure_ (i := 4) (N := some 38) (v := ?_) (a' := ?_) #[true, true, true, true, true, false, false, false, false, false, false, false, false, false, false] rfl rfl (any_of HT_.out (by kernel_rfl)) (fun _ _ _ h => h) (Or.inl ⟨by rfl, ?_⟩) ?_ ?_
  rotate_left
  ·intro w'
   go_simp
   with_reducible rfl
  rotate_left
  ·simp only [Act.put, sA, sZ, sS, i64_w, i32_w]
   rfl
  refine pure_ (i := 5) (N := some 39) (v := ?_) (a' := ?_) #[true, true, true, true, true, true, false, false, false, false, false, false, false, false, false] rfl rfl (any_of HT_.out (by kernel_rfl)) (fun _ _ _ h => h) (Or.inl ⟨by rfl, ?_⟩) ?_ ?_
  rotate_left
  ·intro w'
   go_simp
   with_reducible rfl
  rotate_left
  ·simp only [Act.put, sA, sZ, sS, i64_w, i32_w]
   rfl
  refine pure_ (i := 6) (N := some 40) (v := undef) (a' := ?_) #[true, true, true, true, true, true, true, false, false, false, false, false, false, false, false] rfl rfl (any_of HT_.out (by kernel_rfl)) (fun _ _ _ h => h) (Or.inr ⟨by rfl, rfl⟩) ?_ ?_
  rotate_left
  ·simp only [Act.put, sA, sZ, sS, i64_w, i32_w]
   rfl
  refine pure_ (i := 7) (N := some 41) (v := undef) (a' := ?_) #[true, true, true, true, true, true, true, true, false, false, false, false, false, false, false] rfl rfl (any_of HT_.out (by kernel_rfl)) (fun _ _ _ h => h) (Or.inr ⟨by rfl, rfl⟩) ?_ ?_
  rotate_left
  ·simp only [Act.put, sA, sZ, sS, i64_w, i32_w]
   rfl
  refine pure_ (i := 8) (N := some 42) (v := undef) (a' := ?_) #[true, true, true, true, true, true, true, true, true, false, false, false, false, false, false] rfl rfl (any_of HT_.out (by kernel_rfl)) (fun _ _ _ h => h) (Or.inr ⟨by rfl, rfl⟩) ?_ ?_
  rotate_left
  ·simp only [Act.put, sA, sZ, sS, i64_w, i32_w]
   rfl
  refine pure_ (i := 9) (N := some 43) (v := undef) (a' := ?_) #[true, true, true, true, true, true, true, true, true, true, false, false, false, false, false] rfl rfl (any_of HT_.out (by kernel_rfl)) (fun _ _ _ h => h) (Or.inr ⟨by rfl, rfl⟩) ?_ ?_
  rotate_left
  ·simp only [Act.put, sA, sZ, sS, i64_w, i32_w]
   rfl
  refine pure_ (i := 10) (N := some 44) (v := undef) (a' := ?_) #[true, true, true, true, true, true, true, true, true, true, true, false, false, false, false] rfl rfl (any_of HT_.out (by kernel_rfl)) (fun _ _ _ h => h) (Or.inr ⟨by rfl, rfl⟩) ?_ ?_
  rotate_left
  ·simp only [Act.put, sA, sZ, sS, i64_w, i32_w]
   rfl
  refine pure_ (i := 11) (N := some 45) (v := undef) (a' := ?_) #[true, true, true, true, true, true, true, true, true, true, true, true, false, false, false] rfl rfl (any_of HT_.out (by kernel_rfl)) (fun _ _ _ h => h) (Or.inr ⟨by rfl, rfl⟩) ?_ ?_
  rotate_left
  ·simp only [Act.put, sA, sZ, sS, i64_w, i32_w]
   rfl
  refine pure_ (i := 12) (N := some 46) (v := undef) (a' := ?_) #[true, true, true, true, true, true, true, true, true, true, true, true, true, false, false] rfl rfl (any_of HT_.out (by kernel_rfl)) (fun _ _ _ h => h) (Or.inr ⟨by rfl, rfl⟩) ?_ ?_
  rotate_left
  ·simp only [Act.put, sA, sZ, sS, i64_w, i32_w]
   rfl
  refine pure_ (i := 13) (N := some 47) (v := undef) (a' := ?_) #[true, true, true, true, true, true, true, true, true, true, true, true, true, true, false] rfl rfl (any_of HT_.out (by kernel_rfl)) (fun _ _ _ h => h) (Or.inr ⟨by rfl, rfl⟩) ?_ ?_
  rotate_left
  ·simp only [Act.put, sA, sZ, sS, i64_w, i32_w]
   rfl
  refine pure_ (i := 14) (N := some 48) (v := ?_) (a' := ?_) #[true, true, true, true, true, true, true, true, true, true, true, true, true, true, true] rfl rfl (any_of HT_.out (by kernel_rfl)) (fun _ _ _ h => h) (Or.inl ⟨by rfl, ?_⟩) ?_ ?_
  rotate_left
  ·intro w'
   go_simp
   with_reducible rfl
  rotate_left
  ·simp only [Act.put, sA, sZ, sS, i64_w, i32_w]
   rfl
  refine done_ (done_of HT_.out (by kernel_rfl)) ?_
  go_wp2
  go_ret2
  exact ⟨rfl, HB.out⟩
 | true =>
  refine hK.out _ _ ⟨((blk_cell BK_gE.out 5).trans rfl), ((blk_cell BK_gE.out 3).trans rfl), ((blk_cell BK_gO.out 2).trans rfl)⟩ (fun hHeld => ?_)
  clear hK K
  refine norm_ (a' := ?_) ?_ ?_
  rotate_left
  ·show Act.put _ (some 37) _ = _
   simp only [Act.put, sA, sZ, sS, i64_w, i32_w]
   rfl
  refine pure_ (i := 4) (N := some 38) (v := ?_) (a' := ?_) #[true, true, true, true, true, false, false, false, false, false, false, false, false, false, false] rfl rfl (any_of HT_.out (by kernel_rfl)) (fun _ _ _ h => h) (Or.inl ⟨by rfl, ?_⟩) ?_ ?_
  rotate_left
  ·intro w'
   go_simp
   with_reducible rfl
  rotate_left
  ·simp only [Act.put, sA, sZ, sS, i64_w, i32_w]
   rfl
  refine pure_ (i := 5) (N := some 39) (v := ?_) (a' := ?_) #[true, true, true, true, true, true, false, false, false, false, false, false, false, false, false] rfl rfl (any_of HT_.out (by kernel_rfl)) (fun _ _ _ h => h) (Or.inl ⟨by rfl, ?_⟩) ?_ ?_
  rotate_left
  ·intro w'
   go_simp
   with_reducible rfl
  rotate_left
  ·simp only [Act.put, sA, sZ, sS, i64_w, i32_w]
   rfl
  refine pure_ (i := 6) (N := some 40) (v := ?_) (a' := ?_) #[true, true, true, true, true, true, true, false, false, false, false, false, false, false, false] rfl rfl (any_of HT_.out (by kernel_rfl)) (fun _ _ _ h => h) (Or.inl ⟨by rfl, ?_⟩) ?_ ?_
  rotate_left
  ·intro w'
   go_simp
   with_reducible rfl
  rotate_left
  ·simp only [Act.put, sA, sZ, sS, i64_w, i32_w]
   rfl
  refine pure_ (i := 8) (N := some 42) (v := ?_) (a' := ?_) #[true, true, true, true, true, true, true, false, true, false, false, false, false, false, false] rfl rfl (any_of HT_.out (by kernel_rfl)) (fun _ _ _ h => h) (Or.inl ⟨by rfl, ?_⟩) ?_ ?_
  rotate_left
  ·intro w'
   go_simp
   with_reducible rfl
  rotate_left
  ·simp only [Act.put, sA, sZ, sS, i64_w, i32_w]
   rfl
  refine pure_ (i := 10) (N := some 44) (v := ?_) (a' := ?_) #[true, true, true, true, true, true, true, false, true, false, true, false, false, false, false] rfl rfl (any_of HT_.out (by kernel_rfl)) (fun _ _ _ h => h) (Or.inl ⟨by rfl, ?_⟩) ?_ ?_
  rotate_left
  ·intro w'
   go_simp
   with_reducible rfl
  rotate_left
  ·simp only [Act.put, sA, sZ, sS, i64_w, i32_w]
   rfl
  refine take_ (i := 7) (N := some 41) (v := ?_) (a' := ?_) #[true, true, true, true, true, true, true, true, true, false, true, false, false, false, false] rfl rfl (take_ofW HT_.out HW_.out (by kernel_rfl)) (fun _ _ _ h => h) (Or.inl ⟨by rfl, ?_⟩) hHeld ?_ ?_
  rotate_left
  ·rintro w' ⟨s0, s1, s2⟩
   go_simp
   with_reducible rfl
  rotate_left
  ·simp only [Act.put, sA, sZ, sS, i64_w, i32_w]
   rfl
  refine take_ (i := 11) (N := some 45) (v := ?_) (a' := ?_) #[true, true, true, true, true, true, true, true, true, false, true, true, false, false, false] rfl rfl (take_ofW HT_.out HW_.out (by kernel_rfl)) (fun _ _ _ h => h) (Or.inl ⟨by rfl, ?_⟩) hHeld ?_ ?_
  rotate_left
  ·rintro w' ⟨s0, s1, s2⟩
   go_simp
   with_reducible rfl
  rotate_left
  ·simp only [Act.put, sA, sZ, sS, i64_w, i32_w]
   rfl
  refine one_ (i := 9) (N := some 43) #[true, true, true, true, true, true, true, true, true, true, true, true, false, false, false] rfl rfl (one_of HT_.out (by kernel_rfl)) (by decide) (fun K hK => ?_)
  refine goesT_ Tryz.func186 rfl rfl #[.int .i64 x0] (by rfl) rfl rfl (by rfl) (by simp only [mT, mC, mN]; rfl) ?_
  with_reducible refine (HW.out _ HB.out).mono ?_
  rintro e w6 ⟨v9, rfl, hr9, hb⟩
  refine ⟨_, rfl, ?_⟩
  replace HB := Lib.hid (below_step HB.out hb)
  replace BK_gE := bB BK_gE hb
  replace BK_gO := bB BK_gO hb
  clear hb
  have HQ := Lib.hid hr9
  clear hr9
  refine hK.out _ _ ⟨((blk_cell BK_gE.out 5).trans rfl), ((blk_cell BK_gE.out 3).trans rfl), ((blk_cell BK_gO.out 2).trans rfl)⟩ (fun hHeld => ?_)
  clear hK K
  refine norm_ (a' := ?_) ?_ ?_
  rotate_left
  ·show Act.put _ (some 43) _ = _
   simp only [Act.put, sA, sZ, sS, i64_w, i32_w]
   rfl
  refine one_ (i := 12) (N := some 46) #[true, true, true, true, true, true, true, true, true, true, true, true, true, false, false] rfl rfl (one_of HT_.out (by kernel_rfl)) (by decide) (fun K hK => ?_)
  refine goes_ Tryz.func119 (by kernel_rfl) rfl #[v9, .slice A0 ws.length c0] (by rfl) rfl rfl (by simp only [mT, mC, mN]; rfl) ?_
  with_reducible refine (equal_new v9 A0 c0 l' ws _ _ HQ.out (Kd.C_below HR.out HB.out) HC.out).mono ?_
  rintro e w7 ⟨rfl, hb⟩
  refine ⟨_, rfl, ?_⟩
  replace HB := Lib.hid (below_step HB.out hb)
  replace BK_gE := bB BK_gE hb
  replace BK_gO := bB BK_gO hb
  clear hb
  refine hK.out _ _ ⟨((blk_cell BK_gE.out 5).trans rfl), ((blk_cell BK_gE.out 3).trans rfl), ((blk_cell BK_gO.out 2).trans rfl)⟩ (fun hHeld => ?_)
  clear hK K
  refine norm_ (a' := ?_) ?_ ?_
  rotate_left
  ·show Act.put _ (some 46) _ = _
   simp only [Act.put, sA, sZ, sS, i64_w, i32_w]
   rfl
  refine pure_ (i := 13) (N := some 47) (v := ?_) (a' := ?_) #[true, true, true, true, true, true, true, true, true, true, true, true, true, true, false] rfl rfl (any_of HT_.out (by kernel_rfl)) (fun _ _ _ h => h) (Or.inl ⟨by rfl, ?_⟩) ?_ ?_
  rotate_left
  ·intro w'
   go_simp
   with_reducible rfl
  rotate_left
  ·simp only [Act.put, sA, sZ, sS, i64_w, i32_w]
   rfl
  refine pure_ (i := 14) (N := some 48) (v := ?_) (a' := ?_) #[true, true, true, true, true, true, true, true, true, true, true, true, true, true, true] rfl rfl (any_of HT_.out (by kernel_rfl)) (fun _ _ _ h => h) (Or.inl ⟨by rfl, ?_⟩) ?_ ?_
  rotate_left
  ·intro w'
   go_simp
   with_reducible rfl
  rotate_left
  ·simp only [Act.put, sA, sZ, sS, i64_w, i32_w]
   rfl
  refine done_ (done_of HT_.out (by kernel_rfl)) ?_
  cases hq : decide (l' = ws) with
  | false =>
   go_wp2
   go_ret2
   exact ⟨by rw [hq]; rfl, HB.out⟩
  | true =>
   go_wp2
   go_ret2
   exact ⟨by rw [hq]; rfl, HB.out⟩
def objectNum_true.T3 : Bool × List (List Nat × List Nat) := (true, [([], []), ([0], [0]), ([], []), ([2], [2]), ([], []), ([4], [4]), ([], []), ([5, 6], [5, 6]), ([1, 3, 7], [1, 3, 7]), ([8, 7, 0, 1, 2, 3, 4, 5, 6, 7, 8], [8]), ([9, 0, 1, 2, 3, 4, 5, 6, 7, 8, 9], [])])
def objectNum_true.B3 : List Nat := [0, 1, 0, 4, 0, 16, 0, 112, 255, 511, 1023]
theorem objectNum_true.tab3 : rtab .any (opsOf Tryz.f107 3) = objectNum_true.T3 := by kernel_rfl
theorem objectNum_true.bits3 : waitsOk objectNum_true.T3.2 objectNum_true.B3 = true := by kernel_rfl
set_option maxHeartbeats 6400000 in
theorem objectNum_run (cls knd many : Int) (b1 b2 : Nat) (l' : List Int) (x0 : Int) (m : Bool) (w : World)
  (hmay : ∀ W, Below w.heap.size w W → Calls Tryz.prog 188 #[.int .i64 x0, .pointer (some ⟨b1, 0, none⟩), .pointer (some ⟨b2, 0, none⟩)] W fun e w' => e = .returned (.bool m) ∧ Below W.heap.size W w')
  (hws : ∀ W, Below w.heap.size w W → Calls Tryz.prog 186 #[.int .i64 x0] W fun e w' => ∃ v, e = .returned v ∧ Kd.R (Kd.int .i64) 2 w' W.heap.size (fun _ => True) v l' ∧ Below W.heap.size W w') :
  Calls Tryz.prog 107 #[.agg #[.int .i64 cls, .int .i64 knd, .int .i64 many, .func (.func 186) #[] #[], .func (.func 187) #[] #[], .func (.func 188) #[] #[.pointer (some ⟨b1, 0, none⟩), .pointer (some ⟨b2, 0, none⟩)]], .int .i64 x0] w (ObjIf m cls knd l' w) := by
 have HM := Lib.hid hmay
 have HW := Lib.hid hws
 clear hmay hws
 cases m with
 | false =>
  have HB := Lib.hid (Below.refl w.heap.size w)
  go_enter Tryz.func107, Tryz.ntmps107
  go_wp2_with (first | ((with_reducible refine gate_dst (N := 2) rfl ?_); refine box_event ?hg (N := 2) ?hd (cs := #[.int .i64 cls, .int .i64 knd, .int .i64 many, .func (.func 186) #[] #[], .func (.func 187) #[] #[], .func (.func 188) #[] #[.pointer (some ⟨b1, 0, none⟩), .pointer (some ⟨b2, 0, none⟩)]]) (t := 111) ?hr ?_; (case hd => rfl); (case hg => rfl); (case hr => first | (go_simp; done) | (go_simp; rfl)); intro gE hg w1 hbox hb; have GE_gE : w.heap.size ≤ gE := (by rw [hg]; exact below_size HB.out); replace HB := Lib.hid (below_step HB.out hb); have BK_gE := Lib.hid hbox; clear hb hbox hg) | ((with_reducible refine gate_dst (N := 4) rfl ?_); refine box_event ?hg (N := 4) ?hd (cs := #[.int .i64 0, .int .i64 0, .slice none 0 0]) (t := 24) ?hr ?_; (case hd => rfl); (case hg => rfl); (case hr => first | (go_simp; done) | (go_simp; rfl)); intro gR hg w2 hbox hb; have GE_gR : w.heap.size ≤ gR := (by rw [hg]; exact below_size HB.out); replace HB := Lib.hid (below_step HB.out hb); replace BK_gE := bB BK_gE hb; have BK_gR := Lib.hid hbox; clear hb hbox hg; have k_gE_5 := bC BK_gE 5 (.func (.func 188) #[] #[.pointer (some ⟨b1, 0, none⟩), .pointer (some ⟨b2, 0, none⟩)]) rfl) | (go_at_call 188; refine (HM.out _ HB.out).mono ?_; rintro e w3 ⟨rfl, hb⟩; replace HB := Lib.hid (below_step HB.out hb); replace BK_gE := bB BK_gE hb; replace BK_gR := bB BK_gR hb; clear hb; clear k_gE_5; have k_gR_0 := bC BK_gR 0 (.int .i64 0) rfl; have k_gR_1 := bC BK_gR 1 (.int .i64 0) rfl; have k_gR_2 := bC BK_gR 2 (.slice none 0 0) rfl; have f_gR_0 := bF BK_gR 0; have f_gR_1 := bF BK_gR 1; have f_gR_2 := bF BK_gR 2))
  refine bodyPost_ret (results_ct rfl _ _ gR 24 #[.int .i64 0, .int .i64 0, .slice none 0 0] (0, 0) _ rfl (blk_put (cs' := #[.int .i64 0, .int .i64 0, .slice none 0 0]) (blk_put (cs' := #[.int .i64 0, .int .i64 0, .slice none 0 0]) (blk_put (cs' := #[.int .i64 0, .int .i64 0, .slice none 0 0]) (BK_gR.out) 0 _ rfl) 1 _ rfl) 2 _ rfl) Tryz.underlying24 rfl (by kernel_rfl)) rfl ?_
  exact ⟨_, rfl, Kd.R_nil _ _ _ _ _, below_set (below_set (below_set HB.out GE_gR) GE_gR) GE_gR⟩
 | true =>
  have HB := Lib.hid (Below.refl w.heap.size w)
  go_enter Tryz.func107, Tryz.ntmps107
  go_wp2_with (first | ((with_reducible refine gate_dst (N := 2) rfl ?_); refine box_event ?hg (N := 2) ?hd (cs := #[.int .i64 cls, .int .i64 knd, .int .i64 many, .func (.func 186) #[] #[], .func (.func 187) #[] #[], .func (.func 188) #[] #[.pointer (some ⟨b1, 0, none⟩), .pointer (some ⟨b2, 0, none⟩)]]) (t := 111) ?hr ?_; (case hd => rfl); (case hg => rfl); (case hr => first | (go_simp; done) | (go_simp; rfl)); intro gE hg w1 hbox hb; have GE_gE : w.heap.size ≤ gE := (by rw [hg]; exact below_size HB.out); replace HB := Lib.hid (below_step HB.out hb); have BK_gE := Lib.hid hbox; clear hb hbox hg) | ((with_reducible refine gate_dst (N := 4) rfl ?_); refine box_event ?hg (N := 4) ?hd (cs := #[.int .i64 0, .int .i64 0, .slice none 0 0]) (t := 24) ?hr ?_; (case hd => rfl); (case hg => rfl); (case hr => first | (go_simp; done) | (go_simp; rfl)); intro gR hg w2 hbox hb; have GE_gR : w.heap.size ≤ gR := (by rw [hg]; exact below_size HB.out); replace HB := Lib.hid (below_step HB.out hb); replace BK_gE := bB BK_gE hb; have BK_gR := Lib.hid hbox; clear hb hbox hg; have k_gE_5 := bC BK_gE 5 (.func (.func 188) #[] #[.pointer (some ⟨b1, 0, none⟩), .pointer (some ⟨b2, 0, none⟩)]) rfl) | (go_at_call 188; refine (HM.out _ HB.out).mono ?_; rintro e w3 ⟨rfl, hb⟩; replace HB := Lib.hid (below_step HB.out hb); replace BK_gE := bB BK_gE hb; replace BK_gR := bB BK_gR hb; clear hb; clear k_gE_5))
  replace HB := Lib.hid (below_drew1 HB.out)
  replace BK_gE := bD BK_gE
  replace BK_gR := bD BK_gR
  refine start_ (n := 11) (S := fun w' => w'.cell? ⟨gE, 0, none⟩ = some (.int .i64 cls) ∧ w'.cell? ⟨gE, 1, none⟩ = some (.int .i64 knd) ∧ w'.cell? ⟨gE, 3, none⟩ = some (.func (.func 186) #[] #[])) (ds := [9]) #[false, false, false, false, false, false, false, false, false, false, false] (by kernel_rfl) rfl rfl ⟨((blk_cell BK_gE.out 0).trans rfl), ((blk_cell BK_gE.out 1).trans rfl), ((blk_cell BK_gE.out 3).trans rfl)⟩ (fun hHeld => ?_); refine with_tabW objectNum_true.tab3 objectNum_true.bits3 (fun HT_ HW_ => ?_)
  generalize w3.drew = w4 at HB BK_gE BK_gR hHeld ⊢
  refine pure_ (i := 0) (N := some 12) (v := ?_) (a' := ?_) #[true, false, false, false, false, false, false, false, false, false, false] rfl rfl (any_of HT_.out (by kernel_rfl)) (fun _ _ _ h => h) (Or.inl ⟨by rfl, ?_⟩) ?_ ?_
  rotate_left
  ·intro w'
   go_simp
   with_reducible rfl
  rotate_left
  ·simp only [Act.put, sA, sZ, sS, i64_w, i32_w]
   rfl
  refine pure_ (i := 2) (N := some 14) (v := ?_) (a' := ?_) #[true, false, true, false, false, false, false, false, false, false, false] rfl rfl (any_of HT_.out (by kernel_rfl)) (fun _ _ _ h => h) (Or.inl ⟨by rfl, ?_⟩) ?_ ?_
  rotate_left
  ·intro w'
   go_simp
   with_reducible rfl
  rotate_left
  ·simp only [Act.put, sA, sZ, sS, i64_w, i32_w]
   rfl
  refine pure_ (i := 4) (N := some 16) (v := ?_) (a' := ?_) #[true, false, true, false, true, false, false, false, false, false, false] rfl rfl (any_of HT_.out (by kernel_rfl)) (fun _ _ _ h => h) (Or.inl ⟨by rfl, ?_⟩) ?_ ?_
  rotate_left
  ·intro w'
   go_simp
   with_reducible rfl
  rotate_left
  ·simp only [Act.put, sA, sZ, sS, i64_w, i32_w]
   rfl
  refine pure_ (i := 6) (N := some 18) (v := ?_) (a' := ?_) #[true, false, true, false, true, false, true, false, false, false, false] rfl rfl (any_of HT_.out (by kernel_rfl)) (fun _ _ _ h => h) (Or.inl ⟨by rfl, ?_⟩) ?_ ?_
  rotate_left
  ·intro w'
   go_simp
   with_reducible rfl
  rotate_left
  ·simp only [Act.put, sA, sZ, sS, i64_w, i32_w]
   rfl
  refine take_ (i := 1) (N := some 13) (v := ?_) (a' := ?_) #[true, true, true, false, true, false, true, false, false, false, false] rfl rfl (take_ofW HT_.out HW_.out (by kernel_rfl)) (fun _ _ _ h => h) (Or.inl ⟨by rfl, ?_⟩) hHeld ?_ ?_
  rotate_left
  ·rintro w' ⟨s0, s1, s2⟩
   go_simp
   with_reducible rfl
  rotate_left
  ·simp only [Act.put, sA, sZ, sS, i64_w, i32_w]
   rfl
  refine take_ (i := 3) (N := some 15) (v := ?_) (a' := ?_) #[true, true, true, true, true, false, true, false, false, false, false] rfl rfl (take_ofW HT_.out HW_.out (by kernel_rfl)) (fun _ _ _ h => h) (Or.inl ⟨by rfl, ?_⟩) hHeld ?_ ?_
  rotate_left
  ·rintro w' ⟨s0, s1, s2⟩
   go_simp
   with_reducible rfl
  rotate_left
  ·simp only [Act.put, sA, sZ, sS, i64_w, i32_w]
   rfl
  refine take_ (i := 5) (N := some 17) (v := ?_) (a' := ?_) #[true, true, true, true, true, true, true, false, false, false, false] rfl rfl (take_ofW HT_.out HW_.out (by kernel_rfl)) (fun _ _ _ h => h) (Or.inl ⟨by rfl, ?_⟩) hHeld ?_ ?_
  rotate_left
  ·rintro w' ⟨s0, s1, s2⟩
   go_simp
   with_reducible rfl
  rotate_left
  ·simp only [Act.put, sA, sZ, sS, i64_w, i32_w]
   rfl
  refine one_ (i := 7) (N := some 19) #[true, true, true, true, true, true, true, true, false, false, false] rfl rfl (one_of HT_.out (by kernel_rfl)) (by decide) (fun K hK => ?_)
  have LT := (blk_lt BK_gR.out : gR < w4.heap.size)
  have LB := below_size HB.out
  refine goesT_ Tryz.func186 rfl rfl #[.int .i64 x0] (by rfl) rfl rfl (by rfl) (by simp only [mT, mC, mN]; rfl) ?_
  with_reducible refine (HW.out _ HB.out).mono ?_
  rintro e w5 ⟨v9, rfl, hr9, hb⟩
  refine ⟨_, rfl, ?_⟩
  replace HB := Lib.hid (below_step HB.out hb)
  replace BK_gE := bB BK_gE hb
  replace BK_gR := bB BK_gR hb
  clear hb
  obtain ⟨A9, c9, rfl, _, _⟩ := Kd.R_reads hr9
  have HQ := Lib.hid hr9
  clear hr9
  refine hK.out _ _ ⟨((blk_cell BK_gE.out 0).trans rfl), ((blk_cell BK_gE.out 1).trans rfl), ((blk_cell BK_gE.out 3).trans rfl)⟩ (fun hHeld => ?_)
  clear hK K
  refine norm_ (a' := ?_) ?_ ?_
  rotate_left
  ·show Act.put _ (some 19) _ = _
   simp only [Act.put, sA, sZ, sS, i64_w, i32_w]
   rfl
  refine pure_ (i := 8) (N := some 20) (v := ?_) (a' := ?_) #[true, true, true, true, true, true, true, true, true, false, false] rfl rfl (any_of HT_.out (by kernel_rfl)) (fun _ _ _ h => h) (Or.inl ⟨by rfl, ?_⟩) ?_ ?_
  rotate_left
  ·intro w'
   go_simp
   with_reducible rfl
  rotate_left
  ·simp only [Act.put, sA, sZ, sS, i64_w, i32_w]
   rfl
  refine last_ (i := 9) (N := none) #[true, true, true, true, true, true, true, true, true, true, false] rfl rfl (one_of HT_.out (by kernel_rfl)) (by decide) (fun K hK => ?_)
  have k_gR_0 := bC BK_gR 0 (.int .i64 0) rfl
  have k_gR_1 := bC BK_gR 1 (.int .i64 0) rfl
  have k_gR_2 := bC BK_gR 2 (.slice none 0 0) rfl
  have f_gR_0 := bF BK_gR 0
  have f_gR_1 := bF BK_gR 1
  have f_gR_2 := bF BK_gR 2
  refine skip_ (w1 := ?_) (by rfl) rfl ?_ ?_
  rotate_left
  ·go_simp
   rfl
  refine hK.out _ _ ?_
  clear hK K
  refine pure_ (i := 10) (N := some 5) (v := ?_) (a' := ?_) #[true, true, true, true, true, true, true, true, true, true, true] rfl rfl (any_of HT_.out (by kernel_rfl)) (fun _ _ _ h => h) (Or.inl ⟨by rfl, ?_⟩) ?_ ?_
  rotate_left
  ·intro w'
   go_simp
   with_reducible rfl
  rotate_left
  ·simp only [Act.put, sA, sZ, sS, i64_w, i32_w]
   rfl
  refine done_ (done_of HT_.out (by kernel_rfl)) ?_
  go_wp2
  refine bodyPost_ret (results_ct rfl _ _ gR 24 #[.int .i64 cls, .int .i64 knd, .slice A9 l'.length c9] (0, 0) _ rfl (blk_put (cs' := #[.int .i64 cls, .int .i64 knd, .slice A9 l'.length c9]) (blk_put (cs' := #[.int .i64 cls, .int .i64 knd, .slice none 0 0]) (blk_put (cs' := #[.int .i64 cls, .int .i64 0, .slice none 0 0]) (BK_gR.out) 0 _ rfl) 1 _ rfl) 2 _ rfl) Tryz.underlying24 rfl (by kernel_rfl)) rfl ?_
  exact ⟨_, rfl, Kd.R_lower (R_old (p := ⟨gR, 2, none⟩) (R_old (p := ⟨gR, 1, none⟩) (R_old (p := ⟨gR, 0, none⟩) HQ.out LT _) LT _) LT _) LB, below_set (below_set (below_set HB.out GE_gR) GE_gR) GE_gR⟩
set_option maxHeartbeats 1600000 in
theorem ctorPeriod (w : World) : Calls Tryz.prog 53 #[] w (NumSays 5 1 1000000 w) := by
 go_enter Tryz.func53, Tryz.ntmps53
 go_wp2_with (go_at_call 124; refine (numbers _ _ _ _).mono ?_; rintro e w' ⟨b1, b2, rfl, g1, g2, h1, h2, hb⟩; obtain ⟨hc, hf⟩ := bcell hb; have n1 : w.heap.size ≠ b1 := (by simp at g1; omega); have n2 : w.heap.size ≠ b2 := (by simp at g2; omega))
 refine bodyPost_ret (v := .agg #[.int .i64 5, .int .i64 1, .int .i64 1, .func (.func 186) #[] #[], .func (.func 187) #[] #[], .func (.func 188) #[] #[.pointer (some ⟨b1, 0, none⟩), .pointer (some ⟨b2, 0, none⟩)]]) (by simp [results, Tryz.results53, go_sem, hc]) rfl ⟨b1, b2, rfl, by simp at g1; omega, by simp at g2; omega, by simp [go_sem, h1], by simp [go_sem, h2], ?_⟩
 iterate 6 (refine Below.setCell (p := ⟨w.heap.size, _, none⟩) ?_ (Nat.le_refl w.heap.size) _)
 exact ((Below.refl _ _).alloc (Nat.le_refl _) _).trans (hb.mono (by simp))
set_option maxHeartbeats 6400000 in
theorem aswPeriod (c t : Int) (A0 : Option Addr) (n0 c0 : Nat) (y0 E : Int) (w : World)
  (hcall : ∀ (b1 b2 : Nat) W, Below w.heap.size w W → W.cell? ⟨b1, 0, none⟩ = some (.int .i64 1) → W.cell? ⟨b2, 0, none⟩ = some (.int .i64 1000000) → Calls Tryz.prog 54 #[.agg #[.int .i64 5, .int .i64 1, .int .i64 1, .func (.func 186) #[] #[], .func (.func 187) #[] #[], .func (.func 188) #[] #[.pointer (some ⟨b1, 0, none⟩), .pointer (some ⟨b2, 0, none⟩)]], .agg #[.int .i64 c, .int .i64 t, .slice A0 n0 c0]] W fun e w' => e = .returned (.tuple #[.int .i64 y0, .int .i64 E]) ∧ Below W.heap.size W w') :
  Calls Tryz.prog 18 #[.agg #[.int .i64 c, .int .i64 t, .slice A0 n0 c0]] w fun e w' => e = .returned (.tuple #[.int .i64 y0, .int .i64 E]) ∧ Below w.heap.size w w' := by
 have HC := Lib.hid hcall
 clear hcall
 have HB := Lib.hid (Below.refl w.heap.size w)
 go_enter Tryz.func18, Tryz.ntmps18
 go_wp2_with (first | ((with_reducible refine gate_dst (N := 1) rfl ?_); refine box_event ?hg (N := 1) ?hd (cs := #[.int .i64 c, .int .i64 t, .slice A0 n0 c0]) (t := 24) ?hr ?_; (case hd => rfl); (case hg => rfl); (case hr => first | (go_simp; done) | (go_simp; rfl)); intro gO hg w1 hbox hb; have GE_gO : w.heap.size ≤ gO := (by rw [hg]; exact below_size HB.out); replace HB := Lib.hid (below_step HB.out hb); have BK_gO := Lib.hid hbox; clear hb hbox hg))
 replace HB := Lib.hid (below_drew1 HB.out)
 replace BK_gO := bD BK_gO
 refine start_ (n := 7) (S := fun w' => w'.cell? ⟨gO, 0, none⟩ = some (.int .i64 c) ∧ w'.cell? ⟨gO, 1, none⟩ = some (.int .i64 t) ∧ w'.cell? ⟨gO, 2, none⟩ = some (.slice A0 n0 c0)) (ds := []) #[false, false, false, false, false, false, false] (by kernel_rfl) rfl rfl ⟨((blk_cell BK_gO.out 0).trans rfl), ((blk_cell BK_gO.out 1).trans rfl), ((blk_cell BK_gO.out 2).trans rfl)⟩ (fun hHeld => ?_)
 generalize w1.drew = w2 at HB BK_gO hHeld ⊢
 refine take_ (i := 1) (N := some 5) (v := ?_) (a' := ?_) #[false, true, false, false, false, false, false] rfl rfl (by kernel_rfl) (fun _ _ _ h => h) (Or.inl ⟨by rfl, ?_⟩) hHeld ?_ ?_
 rotate_left
 ·rintro w' ⟨s0, s1, s2⟩
  go_simp
  with_reducible rfl
 rotate_left
 ·simp only [Act.put, sA, sZ, sS, i64_w, i32_w]
  rfl
 refine one_ (i := 0) (N := some 4) #[true, true, false, false, false, false, false] rfl rfl (by kernel_rfl) (by decide) (fun K hK => ?_)
 refine goes_ Tryz.func53 (by kernel_rfl) rfl #[] (by rfl) rfl rfl (by first | rfl | (simp only [List.map_toArray, List.map_nil]; done) | (simp only [List.map_toArray, List.map_nil]; rfl)) ?_
 with_reducible refine (ctorPeriod _).mono ?_
 rintro e w3 ⟨b1, b2, rfl, -, -, h1, h2, hb⟩
 refine ⟨_, rfl, ?_⟩
 replace HB := Lib.hid (below_step HB.out hb)
 replace BK_gO := bB BK_gO hb
 clear hb
 have H1 := Lib.hid h1
 have H2 := Lib.hid h2
 clear h1 h2
 refine hK.out _ _ ⟨((blk_cell BK_gO.out 0).trans rfl), ((blk_cell BK_gO.out 1).trans rfl), ((blk_cell BK_gO.out 2).trans rfl)⟩ (fun hHeld => ?_)
 clear hK K
 refine norm_ (a' := ?_) ?_ ?_
 rotate_left
 ·show Act.put _ (some 4) _ = _
  simp only [Act.put, sA, sZ, sS, i64_w, i32_w]
  rfl
 refine one_ (i := 2) (N := some 6) #[true, true, true, false, false, false, false] rfl rfl (by kernel_rfl) (by decide) (fun K hK => ?_)
 refine goes_ Tryz.func54 (by kernel_rfl) rfl #[.agg #[.int .i64 5, .int .i64 1, .int .i64 1, .func (.func 186) #[] #[], .func (.func 187) #[] #[], .func (.func 188) #[] #[.pointer (some ⟨b1, 0, none⟩), .pointer (some ⟨b2, 0, none⟩)]], .agg #[.int .i64 c, .int .i64 t, .slice A0 n0 c0]] (by rfl) rfl rfl (by simp only [mT, mC, mN]; rfl) ?_
 with_reducible refine (HC.out b1 b2 _ HB.out H1.out H2.out).mono ?_
 rintro e w4 ⟨rfl, hb⟩
 refine ⟨_, rfl, ?_⟩
 replace HB := Lib.hid (below_step HB.out hb)
 replace BK_gO := bB BK_gO hb
 clear hb
 refine hK.out _ _ ⟨((blk_cell BK_gO.out 0).trans rfl), ((blk_cell BK_gO.out 1).trans rfl), ((blk_cell BK_gO.out 2).trans rfl)⟩ (fun hHeld => ?_)
 clear hK K
 refine norm_ (a' := ?_) ?_ ?_
 rotate_left
 ·show Act.put _ (some 6) _ = _
  simp only [Act.put, sA, sZ, sS, i64_w, i32_w]
  rfl
 refine pure_ (i := 3) (N := some 7) (v := ?_) (a' := ?_) #[true, true, true, true, false, false, false] rfl rfl (by kernel_rfl) (fun _ _ _ h => h) (Or.inl ⟨by rfl, ?_⟩) ?_ ?_
 rotate_left
 ·intro w'
  go_simp
  with_reducible rfl
 rotate_left
 ·simp only [Act.put, sA, sZ, sS, i64_w, i32_w]
  rfl
 refine pure_ (i := 4) (N := some 8) (v := ?_) (a' := ?_) #[true, true, true, true, true, false, false] rfl rfl (by kernel_rfl) (fun _ _ _ h => h) (Or.inl ⟨by rfl, ?_⟩) ?_ ?_
 rotate_left
 ·intro w'
  go_simp
  with_reducible rfl
 rotate_left
 ·simp only [Act.put, sA, sZ, sS, i64_w, i32_w]
  rfl
 refine pure_ (i := 5) (N := some 2) (v := ?_) (a' := ?_) #[true, true, true, true, true, true, false] rfl rfl (by kernel_rfl) (fun _ _ _ h => h) (Or.inl ⟨by rfl, ?_⟩) ?_ ?_
 rotate_left
 ·intro w'
  go_simp
  with_reducible rfl
 rotate_left
 ·simp only [Act.put, sA, sZ, sS, i64_w, i32_w]
  rfl
 refine pure_ (i := 6) (N := some 3) (v := ?_) (a' := ?_) #[true, true, true, true, true, true, true] rfl rfl (by kernel_rfl) (fun _ _ _ h => h) (Or.inl ⟨by rfl, ?_⟩) ?_ ?_
 rotate_left
 ·intro w'
  go_simp
  with_reducible rfl
 rotate_left
 ·simp only [Act.put, sA, sZ, sS, i64_w, i32_w]
  rfl
 refine done_ (by kernel_rfl) ?_
 go_wp2
 go_ret2
 exact ⟨rfl, HB.out⟩
set_option maxHeartbeats 6400000 in
theorem towPeriod (x0 C T' E : Int) (l' : List Int) (w : World)
  (hcall : ∀ (b1 b2 : Nat) W, Below w.heap.size w W → W.cell? ⟨b1, 0, none⟩ = some (.int .i64 1) → W.cell? ⟨b2, 0, none⟩ = some (.int .i64 1000000) → Calls Tryz.prog 107 #[.agg #[.int .i64 5, .int .i64 1, .int .i64 1, .func (.func 186) #[] #[], .func (.func 187) #[] #[], .func (.func 188) #[] #[.pointer (some ⟨b1, 0, none⟩), .pointer (some ⟨b2, 0, none⟩)]], .int .i64 x0] W (ObjP C T' E l' W)) :
  Calls Tryz.prog 44 #[.int .i64 x0] w (ObjP C T' E l' w) := by
 have HC := Lib.hid hcall
 clear hcall
 have HB := Lib.hid (Below.refl w.heap.size w)
 go_enter Tryz.func44, Tryz.ntmps44
 go_wp2_with (first | ((with_reducible refine gate_dst (N := 2) rfl ?_); refine box_event ?hg (N := 2) ?hd (cs := #[.int .i64 0, .int .i64 0, .slice none 0 0]) (t := 24) ?hr ?_; (case hd => rfl); (case hg => rfl); (case hr => first | (go_simp; done) | (go_simp; rfl)); intro gR hg w1 hbox hb; have GE_gR : w.heap.size ≤ gR := (by rw [hg]; exact below_size HB.out); replace HB := Lib.hid (below_step HB.out hb); have BK_gR := Lib.hid hbox; clear hb hbox hg) | (go_at_call 53; refine (ctorPeriod _).mono ?_; rintro e w2 ⟨b1, b2, rfl, -, -, h1, h2, hb⟩; replace HB := Lib.hid (below_step HB.out hb); replace BK_gR := bB BK_gR hb; clear hb; have H1 := Lib.hid h1; have H2 := Lib.hid h2; clear h1 h2) | (go_at_call 107; have LT := (blk_lt BK_gR.out : gR < w2.heap.size); have LB := below_size HB.out; refine (HC.out b1 b2 _ HB.out H1.out H2.out).mono ?_; rintro e w3 ⟨v9, rfl, hr9, hb⟩; replace HB := Lib.hid (below_step HB.out hb); replace BK_gR := bB BK_gR hb; clear hb; obtain ⟨A9, c9, rfl, _, _⟩ := Kd.R_reads hr9; have HQ := Lib.hid hr9; clear hr9; have k_gR_0 := bC BK_gR 0 (.int .i64 0) rfl; have k_gR_1 := bC BK_gR 1 (.int .i64 0) rfl; have k_gR_2 := bC BK_gR 2 (.slice none 0 0) rfl; have f_gR_0 := bF BK_gR 0; have f_gR_1 := bF BK_gR 1; have f_gR_2 := bF BK_gR 2))
 refine bodyPost_ret (results_ct rfl _ _ gR 24 #[.int .i64 C, .int .i64 T', .slice A9 l'.length c9] (0, 0) _ rfl (blk_put (cs' := #[.int .i64 C, .int .i64 T', .slice A9 l'.length c9]) (blk_put (cs' := #[.int .i64 C, .int .i64 T', .slice none 0 0]) (blk_put (cs' := #[.int .i64 C, .int .i64 0, .slice none 0 0]) (BK_gR.out) 0 _ rfl) 1 _ rfl) 2 _ rfl) Tryz.underlying24 rfl (by kernel_rfl)) rfl ?_
 exact ⟨_, rfl, Kd.R_lower (R_old (p := ⟨gR, 2, none⟩) (R_old (p := ⟨gR, 1, none⟩) (R_old (p := ⟨gR, 0, none⟩) HQ.out LT _) LT _) LT _) LB, below_set (below_set (below_set HB.out GE_gR) GE_gR) GE_gR⟩
def object_Period.f (a0 : Int) : Option (Int × Int × List Int × Int) := (some (inB a0 1 1000000)).bind fun m => (object_numbers_1.f a0).bind fun l' => some (if m then 5 else 0, if m then 1 else 0, if m then l' else [], if m then 0 else 2)
theorem object_Period.calls (a0 r1 r2 : Int) (r3 : List Int) (r4 : Int) (w : World) (h : object_Period.f a0 = some (r1, r2, r3, r4)) :
  Calls Tryz.prog 44 #[.int .i64 a0] w fun e w' => ∃ v, e = .returned (.tuple #[.agg #[.int .i64 r1, .int .i64 r2, v], .int .i64 r4]) ∧ Kd.R (Kd.int .i64) 2 w' w.heap.size (fun _ => True) v r3 ∧ Below w.heap.size w w' := by
 obtain ⟨m, hm, h⟩ := Option.bind_eq_some_iff.mp h
 obtain ⟨l', hw, h⟩ := Option.bind_eq_some_iff.mp h
 injection h with h
 simp only [Prod.mk.injEq] at h
 obtain ⟨rfl, rfl, rfl, rfl⟩ := h
 injection hm with hm
 subst hm
 refine towPeriod a0 _ _ _ _ w (fun b1 b2 W hW h1 h2 => ?_)
 exact objectNum_run 5 1 1 b1 b2  _ a0 _ W (fun W' hW' => numMay a0 1 1000000 b1 b2 W' ((hW'.cell (p := ⟨b1, 0, none⟩) (World.block_lt_of_cell? W _ h1)).trans h1) ((hW'.cell (p := ⟨b2, 0, none⟩) (World.block_lt_of_cell? W _ h2)).trans h2)) (fun W' hW' => object_numbers_1.calls a0 _ W' hw)
def object_AsPeriod.f (a0_0 a0_1 : Int) (l0_2 : List Int) : Option (Int × Int) := if a0_0 = 5 ∧ a0_1 = 1 ∧ ((l0_2.length : Nat) : Int) = 1 then ((object_numbers_2.f l0_2).bind fun x0 => (some (inB x0 1 1000000)).bind fun m => (object_numbers_1.f x0).bind fun l' => some (if m && decide (l' = l0_2) then x0 else 0, if m && decide (l' = l0_2) then 0 else 171)) else some (0, 171)
theorem object_AsPeriod.calls (a0_0 a0_1 : Int) (A0_2 : Option Addr) (c0_2 : Nat) (l0_2 : List Int) (r1 r2 : Int) (w : World) (hr0_2 : Kd.C (Kd.int .i64) w A0_2 l0_2.length l0_2) (hc0_2 : l0_2.length ≤ c0_2) (h : object_AsPeriod.f a0_0 a0_1 l0_2 = some (r1, r2)) :
  Calls Tryz.prog 18 #[.agg #[.int .i64 a0_0, .int .i64 a0_1, .slice A0_2 l0_2.length c0_2]] w fun e w' => e = .returned (.tuple #[.int .i64 r1, .int .i64 r2]) ∧ Below w.heap.size w w' := by
 refine aswPeriod a0_0 a0_1 A0_2 l0_2.length c0_2 _ _ w (fun b1 b2 W hW h1 h2 => ?_)
 unfold object_AsPeriod.f at h
 split at h
 ·rename_i hq
  obtain ⟨rfl, rfl, hlen⟩ := hq
  obtain ⟨x0, ht, h⟩ := Option.bind_eq_some_iff.mp h
  obtain ⟨m, hm, h⟩ := Option.bind_eq_some_iff.mp h
  obtain ⟨l', hw, h⟩ := Option.bind_eq_some_iff.mp h
  injection hm with hm
  subst hm
  refine (asNum_run 5 1 1 b1 b2 A0_2 c0_2 l0_2 l' x0 _ W (Kd.C_below hr0_2 hW) hc0_2 hlen (fun W' hW' => (object_numbers_2.calls A0_2 c0_2 l0_2 _ W' (Kd.C_below (Kd.C_below hr0_2 hW) hW') hc0_2 ht).mono (fun e w' h => ⟨h.1, toBelow h.2⟩)) (fun W' hW' => numMay x0 1 1000000 b1 b2 W' ((hW'.cell (p := ⟨b1, 0, none⟩) (World.block_lt_of_cell? W _ h1)).trans h1) ((hW'.cell (p := ⟨b2, 0, none⟩) (World.block_lt_of_cell? W _ h2)).trans h2)) (fun W' hW' => object_numbers_1.calls x0 _ W' hw)).mono ?_
  rintro e w' ⟨rfl, hb⟩
  injection h with h
  simp only [Prod.mk.injEq] at h
  obtain ⟨rfl, rfl⟩ := h
  refine ⟨?_, hb⟩
  cases (inB x0 1 1000000 && decide (l' = l0_2)) <;> rfl
 ·rename_i hq
  injection h with h
  simp only [Prod.mk.injEq] at h
  obtain ⟨rfl, rfl⟩ := h
  exact (asNum_no 5 1 1 a0_0 a0_1 b1 b2 A0_2 c0_2 l0_2 W (by by_cases e1 : a0_0 = 5 <;> by_cases e2 : a0_1 = 1 <;> simp_all)).mono (fun e w' h => ⟨h.1, h.2⟩)
end Go.Proofs.YtecghmlojllkdaaGreat.P

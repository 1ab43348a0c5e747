import Derived.Test.YtecghmlojllkdaaGreatTl1
import Derived.Test.YtecghmlojllkdaaGreatTl30
import Derived.Test.YtecghmlojllkdaaGreatTl31
import Derived.Test.YtecghmlojllkdaaGreatTl32
import Derived.Test.YtecghmlojllkdaaGreatTl33
import Derived.Test.YtecghmlojllkdaaGreatTl34
namespace Go.Proofs.YtecghmlojllkdaaGreat.P
open Go.RowKit Go.Proofs.YtecghmlojllkdaaGreatW.PrintWords Go.Proofs.YtecghmlojllkdaaGreatW.PrintLast
set_option linter.unusedVariables false
set_option linter.unusedSimpArgs false
set_option maxRecDepth 100000
set_option maxHeartbeats 40000000 in
theorem flows_true (x0 x1 x2 x3 x4 x5 x6 x7 x8 x9 x10 x11 x12 x13 x14 x15 x16 x17 x18 x19 x20 x21 x22 x23 x24 x25 x26 x27 : Int) (w : World) : Calls Tryz.prog 32 #[.agg #[.int .i64 x0, .int .i64 x1, .int .i64 x2, .int .i64 x3, .int .i64 x4, .int .i64 x5, .int .i64 x6, .int .i64 x7, .int .i64 x8, .int .i64 x9, .int .i64 x10, .int .i64 x11, .int .i64 x12, .int .i64 x13, .int .i64 x14, .int .i64 x15, .int .i64 x16, .int .i64 x17, .int .i64 x18, .int .i64 x19, .int .i64 x20, .int .i64 x21, .int .i64 x22, .int .i64 x23, .int .i64 x24, .int .i64 x25, .int .i64 x26, .int .i64 x27]] w fun e w' => e = .returned (.bool true) ∧ Below w.heap.size w w' := by
 have HB := Lib.hid (Below.refl w.heap.size w)
 go_enter Tryz.func32, Tryz.ntmps32
 obtain ⟨m, C, T', E, F, l, y0, y1, y2, y3, y4, y5, y6, hX, hM, hlen, hA, hcase⟩ := good_Wish x9 x10 x11 x12 x13 x14 x15
 have HXF := Lib.hid hX
 have HMF := Lib.hid hM
 have HAF := Lib.hid hA
 have HCS := Lib.hid hcase
 obtain ⟨ks, hks⟩ := same_refl C T' l hlen
 have HSF := Lib.hid hks
 clear hX hM hA hcase hks hlen
 go_upto_if 42 with (first | ((with_reducible refine gate_dst (N := 1) rfl ?_); refine box_event ?hg (N := 1) ?hd (cs := #[.int .i64 x0, .int .i64 x1, .int .i64 x2, .int .i64 x3, .int .i64 x4, .int .i64 x5, .int .i64 x6, .int .i64 x7, .int .i64 x8, .int .i64 x9, .int .i64 x10, .int .i64 x11, .int .i64 x12, .int .i64 x13, .int .i64 x14, .int .i64 x15, .int .i64 x16, .int .i64 x17, .int .i64 x18, .int .i64 x19, .int .i64 x20, .int .i64 x21, .int .i64 x22, .int .i64 x23, .int .i64 x24, .int .i64 x25, .int .i64 x26, .int .i64 x27]) (t := 70) ?hr ?_; (case hd => rfl); (case hg => rfl); (case hr => first | (go_simp; done) | (go_simp; rfl)); intro gx hg w1 hbox hb; have GE_gx : w.heap.size ≤ gx := (by rw [hg]; exact below_size HB.out); have n0_ := Lib.hid (below_step HB.out hb); clear HB ; have HB := n0_; clear n0_; have BK_gx := Lib.hid hbox; clear hb hbox hg; have BX := BK_gx; clear BK_gx GE_gx; have k_9 := cZ BX.out 9 (.int .i64 x9) rfl; have k_10 := cZ BX.out 10 (.int .i64 x10) rfl; have k_11 := cZ BX.out 11 (.int .i64 x11) rfl; have k_12 := cZ BX.out 12 (.int .i64 x12) rfl; have k_13 := cZ BX.out 13 (.int .i64 x13) rfl; have k_14 := cZ BX.out 14 (.int .i64 x14) rfl; have k_15 := cZ BX.out 15 (.int .i64 x15) rfl) | (go_at_call 79; refine (object_Wish.calls x9 x10 x11 x12 x13 x14 x15 _ _ _ _ _ HXF.out).mono ?_; rintro e wa0 ⟨v9, rfl, hr, hb⟩; have n0_ := Lib.hid (below_step HB.out hb); have n1_ := Lib.hid (blk_below BX.out hb); clear HB BX; have HB := n0_; have BX := n1_; clear n0_ n1_; obtain ⟨A9, c9, rfl, -, -⟩ := Kd.R_reads hr; have HQ := Lib.hid hr; clear hr hb; clear k_9 k_10 k_11 k_12 k_13 k_14 k_15; have hz1 : gx < wa0.heap.size := blk_lt BX.out; have hz2 : gx < wa0.heap.size + 1 := Nat.lt_succ_of_lt hz1; have hz3 : gx ≠ wa0.heap.size := Nat.ne_of_lt hz1; have hz4 : gx ≠ wa0.heap.size + 1 := Nat.ne_of_lt hz2; have k_9 : wa0.cell? ⟨gx, 9, none⟩ = some (.int .i64 x9) := (blk_cell BX.out 9).trans rfl; have k_10 : wa0.cell? ⟨gx, 10, none⟩ = some (.int .i64 x10) := (blk_cell BX.out 10).trans rfl; have k_11 : wa0.cell? ⟨gx, 11, none⟩ = some (.int .i64 x11) := (blk_cell BX.out 11).trans rfl; have k_12 : wa0.cell? ⟨gx, 12, none⟩ = some (.int .i64 x12) := (blk_cell BX.out 12).trans rfl; have k_13 : wa0.cell? ⟨gx, 13, none⟩ = some (.int .i64 x13) := (blk_cell BX.out 13).trans rfl; have k_14 : wa0.cell? ⟨gx, 14, none⟩ = some (.int .i64 x14) := (blk_cell BX.out 14).trans rfl; have k_15 : wa0.cell? ⟨gx, 15, none⟩ = some (.int .i64 x15) := (blk_cell BX.out 15).trans rfl) | (go_at_call 28; refine (postroadref07_MayWish.calls x9 x10 x11 x12 x13 x14 x15 _ _ HMF.out).mono ?_; rintro e wb0 ⟨rfl, hb'⟩; have hb := asBelow hb'; have hbb : Below wa0.heap.size wa0 wb0 := below_call (((Below.refl _ wa0).alloc (Nat.le_refl _) (.cells #[.int .i64 C, .int .i64 T', .slice A9 l.length c9] 24)).alloc (by simp) (.cells #[.int .i64 0, .int .i64 0, .slice none 0 0] 24)) hb; have BO := Lib.hid (blk_below (blk_alloc (blk_new wa0 (.cells #[.int .i64 C, .int .i64 T', .slice A9 l.length c9] 24)) (.cells #[.int .i64 0, .int .i64 0, .slice none 0 0] 24)) hb); have BW := Lib.hid (blk_below (show ((wa0.alloc (.cells #[.int .i64 C, .int .i64 T', .slice A9 l.length c9] 24)).alloc (.cells #[.int .i64 0, .int .i64 0, .slice none 0 0] 24)).heap[wa0.heap.size + 1]? = some (.cells #[.int .i64 0, .int .i64 0, .slice none 0 0] 24 (0, 0)) from (by have := blk_new (wa0.alloc (.cells #[.int .i64 C, .int .i64 T', .slice A9 l.length c9] 24)) (.cells #[.int .i64 0, .int .i64 0, .slice none 0 0] 24); rwa [World.size_alloc] at this)) hb); have GG := Lib.hid (blk_lt BX.out); have n0_ := Lib.hid (below_step HB.out hbb); have n1_ := Lib.hid (blk_below BX.out hbb); have n2_ := Lib.hid (Kd.R_below HQ.out hbb); have LW := Lib.hid (below_size HB.out); clear HB BX HQ hb hb' hbb; have HB := n0_; have BX := n1_; have HQ := n2_; clear n0_ n1_ n2_ hz1 hz2 hz3 hz4; clear k_9 k_10 k_11 k_12 k_13 k_14 k_15))
 generalize wa0.heap.size = go at *
 have k_w : ∀ j u, (#[.int .i64 0, .int .i64 0, .slice none 0 0] : Array Value)[j]? = some u → wb0.cell? ⟨go + 1, j, none⟩ = some u := fun j u h => (blk_cell BW.out j).trans h
 clear k_w
 go_cut [6] from 43 to 45 (WantRel w gx go (go + 1) #[.int .i64 x0, .int .i64 x1, .int .i64 x2, .int .i64 x3, .int .i64 x4, .int .i64 x5, .int .i64 x6, .int .i64 x7, .int .i64 x8, .int .i64 x9, .int .i64 x10, .int .i64 x11, .int .i64 x12, .int .i64 x13, .int .i64 x14, .int .i64 x15, .int .i64 x16, .int .i64 x17, .int .i64 x18, .int .i64 x19, .int .i64 x20, .int .i64 x21, .int .i64 x22, .int .i64 x23, .int .i64 x24, .int .i64 x25, .int .i64 x26, .int .i64 x27] C T' l (.slice A9 l.length c9) E)
 case first =>
  cases m with
  | false =>
   have hE : E = 2 ∧ C = 0 ∧ T' = 0 ∧ l = [] := HCS.out.elim (fun h => absurd h.1 (by decide)) (fun h => ⟨h.2.1, h.2.2.2.2.2.2.2.2.2.2⟩)
   have HE := Lib.hid hE
   clear hE
   go_wp2_with fail
   go_meet
   obtain ⟨e1, e2, e3, e4⟩ := HE.out
   exact ⟨by rw [e1], HB.out, BX.out, BO.out, _, HQ.out, _, by rw [e2, e3]; exact BW.out, _, by rw [e4]; exact Kd.R_nil _ _ wb0 0 (fun _ => True)⟩
  | true =>
   have hR : postroadref07_Wish.f x9 x10 x11 x12 x13 x14 x15 = some (C, T', l) ∧ E = 0 := HCS.out.elim (fun h => ⟨h.2.2.2.2.2.2.2.2.2.2, h.2.1⟩) (fun h => absurd h.1 (by decide))
   have HR := Lib.hid hR.1
   have HE := Lib.hid hR.2
   clear hR
   have k_9 : wb0.cell? ⟨gx, 9, none⟩ = some (.int .i64 x9) := (blk_cell BX.out 9).trans rfl
   have k_10 : wb0.cell? ⟨gx, 10, none⟩ = some (.int .i64 x10) := (blk_cell BX.out 10).trans rfl
   have k_11 : wb0.cell? ⟨gx, 11, none⟩ = some (.int .i64 x11) := (blk_cell BX.out 11).trans rfl
   have k_12 : wb0.cell? ⟨gx, 12, none⟩ = some (.int .i64 x12) := (blk_cell BX.out 12).trans rfl
   have k_13 : wb0.cell? ⟨gx, 13, none⟩ = some (.int .i64 x13) := (blk_cell BX.out 13).trans rfl
   have k_14 : wb0.cell? ⟨gx, 14, none⟩ = some (.int .i64 x14) := (blk_cell BX.out 14).trans rfl
   have k_15 : wb0.cell? ⟨gx, 15, none⟩ = some (.int .i64 x15) := (blk_cell BX.out 15).trans rfl
   go_wp2_with (go_at_call 29; refine (postroadref07_Wish.calls x9 x10 x11 x12 x13 x14 x15 _ _ _ _ HR.out).mono ?_; rintro e wc0 ⟨v8, rfl, hr, hb⟩; have n0_ := Lib.hid (below_step HB.out hb); have n1_ := Lib.hid (blk_below BX.out hb); have n2_ := Lib.hid (Kd.R_below HQ.out hb); have n3_ := Lib.hid (blk_below BO.out hb); have n4_ := Lib.hid (blk_below BW.out hb); clear HB BX HQ BO BW; have HB := n0_; have BX := n1_; have HQ := n2_; have BO := n3_; have BW := n4_; clear n0_ n1_ n2_ n3_ n4_; obtain ⟨A8, c8, rfl, -, -⟩ := Kd.R_reads hr; have HQ8 := Lib.hid hr; clear hr hb; clear k_9 k_10 k_11 k_12 k_13 k_14 k_15; have q_0 : wc0.cell? ⟨go + 1, 0, none⟩ = some (.int .i64 0) := (blk_cell BW.out 0).trans rfl; have q_1 : wc0.cell? ⟨go + 1, 1, none⟩ = some (.int .i64 0) := (blk_cell BW.out 1).trans rfl; have q_2 : wc0.cell? ⟨go + 1, 2, none⟩ = some (.slice none 0 0) := (blk_cell BW.out 2).trans rfl; have f_0 : wc0.frozen? ⟨go + 1, 0, none⟩ = false := blk_frozen BW.out 0; have f_1 : wc0.frozen? ⟨go + 1, 1, none⟩ = false := blk_frozen BW.out 1; have f_2 : wc0.frozen? ⟨go + 1, 2, none⟩ = false := blk_frozen BW.out 2)
   go_meet
   have hgx : gx ≠ go + 1 := by have := GG.out; omega
   have hgo : go ≠ go + 1 := by omega
   have hle : w.heap.size ≤ go + 1 := by have := LW.out; omega
   exact ⟨by rw [HE.out], below_set (below_set (below_set HB.out hle) hle) hle, blk_far (p := ⟨go + 1, 2, none⟩) (blk_far (p := ⟨go + 1, 1, none⟩) (blk_far (p := ⟨go + 1, 0, none⟩) BX.out hgx (.int .i64 C)) hgx (.int .i64 T')) hgx (.slice A8 l.length c8), blk_far (p := ⟨go + 1, 2, none⟩) (blk_far (p := ⟨go + 1, 1, none⟩) (blk_far (p := ⟨go + 1, 0, none⟩) BO.out hgo (.int .i64 C)) hgo (.int .i64 T')) hgo (.slice A8 l.length c8), _, Kd.R_set (Kd.R_set (Kd.R_set (HQ.out) (BW.out) (by decide) 0 (.int .i64 C)) (blk_put (cs' := #[.int .i64 C, .int .i64 0, .slice none 0 0]) (BW.out) 0 (.int .i64 C) rfl) (by decide) 1 (.int .i64 T')) (blk_put (cs' := #[.int .i64 C, .int .i64 T', .slice none 0 0]) (blk_put (cs' := #[.int .i64 C, .int .i64 0, .slice none 0 0]) (BW.out) 0 (.int .i64 C) rfl) 1 (.int .i64 T') rfl) (by decide) 2 (.slice A8 l.length c8), _, blk_put (cs' := #[.int .i64 C, .int .i64 T', .slice A8 l.length c8]) (blk_put (cs' := #[.int .i64 C, .int .i64 T', .slice none 0 0]) (blk_put (cs' := #[.int .i64 C, .int .i64 0, .slice none 0 0]) (BW.out) 0 (.int .i64 C) rfl) 1 (.int .i64 T') rfl) 2 (.slice A8 l.length c8) rfl, _, Kd.R_set (Kd.R_set (Kd.R_set (HQ8.out) (BW.out) (by decide) 0 (.int .i64 C)) (blk_put (cs' := #[.int .i64 C, .int .i64 0, .slice none 0 0]) (BW.out) 0 (.int .i64 C) rfl) (by decide) 1 (.int .i64 T')) (blk_put (cs' := #[.int .i64 C, .int .i64 T', .slice none 0 0]) (blk_put (cs' := #[.int .i64 C, .int .i64 0, .slice none 0 0]) (BW.out) 0 (.int .i64 C) rfl) 1 (.int .i64 T') rfl) (by decide) 2 (.slice A8 l.length c8)⟩
 case rest =>
  obtain ⟨rfl, hB_, hX_, hO_, b9, hQ_, v8, hW_, b8, hQ8_⟩ := hcut
  obtain ⟨wr0, hwc⟩ : ∃ W, W = wc := ⟨_, rfl⟩
  subst hwc
  clear HB BX BO BW HQ
  have HB := Lib.hid hB_
  have BX := Lib.hid hX_
  have BO := Lib.hid hO_
  have BW := Lib.hid hW_
  obtain ⟨A8, c8, rfl, hc8, hC8⟩ := Kd.R_reads hQ8_
  obtain ⟨A9', c9', he, hc9, hC9⟩ := Kd.R_reads hQ_
  injection he with he1 he2 he3
  subst he1 he3
  clear he2 hQ_ hQ8_ hB_ hX_ hO_ hW_
  have HC8 := Lib.hid hC8
  have HC9 := Lib.hid hC9
  have Hc8 := Lib.hid hc8
  have Hc9 := Lib.hid hc9
  clear hC8 hC9 hc8 hc9
  have hEE : (E != E) = false := by simp
  have o_0 : wr0.cell? ⟨go, 0, none⟩ = some (.int .i64 C) := (blk_cell BO.out 0).trans rfl
  have o_1 : wr0.cell? ⟨go, 1, none⟩ = some (.int .i64 T') := (blk_cell BO.out 1).trans rfl
  have o_2 : wr0.cell? ⟨go, 2, none⟩ = some (.slice A9 l.length c9) := (blk_cell BO.out 2).trans rfl
  have p_0 : wr0.cell? ⟨go + 1, 0, none⟩ = some (.int .i64 C) := (blk_cell BW.out 0).trans rfl
  have p_1 : wr0.cell? ⟨go + 1, 1, none⟩ = some (.int .i64 T') := (blk_cell BW.out 1).trans rfl
  have p_2 : wr0.cell? ⟨go + 1, 2, none⟩ = some (.slice A8 l.length c8) := (blk_cell BW.out 2).trans rfl
  go_upto_region 8 with (first | (go_at_call 13; refine (postroadref07_Same.calls ks C T' A9 c9 l C T' A8 c8 l true _ HC9.out Hc9.out HC8.out Hc8.out HSF.out).mono ?_; rintro e we0 ⟨rfl, hb⟩; have n0_ := Lib.hid (below_step HB.out hb); have n1_ := Lib.hid (blk_below BX.out hb); have n2_ := Lib.hid (Kd.C_below HC9.out hb); have n3_ := Lib.hid (blk_below BO.out hb); clear HB BX HC9 HC8 BO BW; have HB := n0_; have BX := n1_; have HC9 := n2_; have BO := n3_; clear n0_ n1_ n2_ n3_ hb o_0 o_1 o_2 p_0 p_1 p_2 hEE; have o_0 : we0.cell? ⟨go, 0, none⟩ = some (.int .i64 C) := (blk_cell BO.out 0).trans rfl; have o_1 : we0.cell? ⟨go, 1, none⟩ = some (.int .i64 T') := (blk_cell BO.out 1).trans rfl; have o_2 : we0.cell? ⟨go, 2, none⟩ = some (.slice A9 l.length c9) := (blk_cell BO.out 2).trans rfl) | (go_at_call 27; refine (object_AsWish.calls C T' A9 c9 l _ _ _ _ _ _ _ _ _ HC9.out Hc9.out HAF.out).mono ?_; rintro e wf0 ⟨rfl, hb⟩; have n0_ := Lib.hid (below_step HB.out hb); have n1_ := Lib.hid (blk_below BX.out hb); clear HB BX HC9 BO; have HB := n0_; have BX := n1_; clear n0_ n1_ hb o_0 o_1 o_2))
  obtain ⟨wg0, hW⟩ : ∃ W, wf0.alloc (.cells #[.int .i64 y0, .int .i64 y1, .int .i64 y2, .int .i64 y3, .int .i64 y4, .int .i64 y5, .int .i64 y6] 58) = W := ⟨_, rfl⟩
  have hb : Below wf0.heap.size wf0 wg0 := hW ▸ (Below.refl _ _).alloc (Nat.le_refl _) _
  have BY := Lib.hid (show wg0.heap[wf0.heap.size]? = some (.cells #[.int .i64 y0, .int .i64 y1, .int .i64 y2, .int .i64 y3, .int .i64 y4, .int .i64 y5, .int .i64 y6] 58 (0, 0)) from hW ▸ blk_new _ _)
  have n0_ := Lib.hid (below_step HB.out hb)
  have n1_ := Lib.hid (blk_below BX.out hb)
  clear HB BX
  have HB := n0_
  have BX := n1_
  clear n0_ n1_ hb
  rw [hW]
  clear hW
  generalize wf0.heap.size = gy at *
  go_cut [84] from 60 to 83 (fun v wz => v = .bool false ∧ wz = wg0)
  case first =>
   have hcs := HCS.out
   clear HCS HXF HMF HSF HAF
   rcases hcs with ⟨rfl, rfl, rfl, rfl, rfl, rfl, rfl, rfl, rfl, rfl, -⟩ | ⟨rfl, rfl, rfl, rfl, rfl, rfl, rfl, rfl, rfl, rfl, rfl, rfl, rfl⟩
   ·clear GG LW
    have k_9 : wg0.cell? ⟨gx, 9, none⟩ = some (.int .i64 x9) := (blk_cell BX.out 9).trans rfl
    have k_10 : wg0.cell? ⟨gx, 10, none⟩ = some (.int .i64 x10) := (blk_cell BX.out 10).trans rfl
    have k_11 : wg0.cell? ⟨gx, 11, none⟩ = some (.int .i64 x11) := (blk_cell BX.out 11).trans rfl
    have k_12 : wg0.cell? ⟨gx, 12, none⟩ = some (.int .i64 x12) := (blk_cell BX.out 12).trans rfl
    have k_13 : wg0.cell? ⟨gx, 13, none⟩ = some (.int .i64 x13) := (blk_cell BX.out 13).trans rfl
    have k_14 : wg0.cell? ⟨gx, 14, none⟩ = some (.int .i64 x14) := (blk_cell BX.out 14).trans rfl
    have k_15 : wg0.cell? ⟨gx, 15, none⟩ = some (.int .i64 x15) := (blk_cell BX.out 15).trans rfl
    have y_0 : wg0.cell? ⟨gy, 0, none⟩ = some (.int .i64 x9) := (blk_cell BY.out 0).trans rfl
    have y_1 : wg0.cell? ⟨gy, 1, none⟩ = some (.int .i64 x10) := (blk_cell BY.out 1).trans rfl
    have y_2 : wg0.cell? ⟨gy, 2, none⟩ = some (.int .i64 x11) := (blk_cell BY.out 2).trans rfl
    have y_3 : wg0.cell? ⟨gy, 3, none⟩ = some (.int .i64 x12) := (blk_cell BY.out 3).trans rfl
    have y_4 : wg0.cell? ⟨gy, 4, none⟩ = some (.int .i64 x13) := (blk_cell BY.out 4).trans rfl
    have y_5 : wg0.cell? ⟨gy, 5, none⟩ = some (.int .i64 x14) := (blk_cell BY.out 5).trans rfl
    have y_6 : wg0.cell? ⟨gy, 6, none⟩ = some (.int .i64 x15) := (blk_cell BY.out 6).trans rfl
    go_wp2
    go_meet
    exact ⟨rfl, rfl⟩
   ·clear GG LW
    have k_9 : wg0.cell? ⟨gx, 9, none⟩ = some (.int .i64 x9) := (blk_cell BX.out 9).trans rfl
    have k_10 : wg0.cell? ⟨gx, 10, none⟩ = some (.int .i64 x10) := (blk_cell BX.out 10).trans rfl
    have k_11 : wg0.cell? ⟨gx, 11, none⟩ = some (.int .i64 x11) := (blk_cell BX.out 11).trans rfl
    have k_12 : wg0.cell? ⟨gx, 12, none⟩ = some (.int .i64 x12) := (blk_cell BX.out 12).trans rfl
    have k_13 : wg0.cell? ⟨gx, 13, none⟩ = some (.int .i64 x13) := (blk_cell BX.out 13).trans rfl
    have k_14 : wg0.cell? ⟨gx, 14, none⟩ = some (.int .i64 x14) := (blk_cell BX.out 14).trans rfl
    have k_15 : wg0.cell? ⟨gx, 15, none⟩ = some (.int .i64 x15) := (blk_cell BX.out 15).trans rfl
    have y_0 : wg0.cell? ⟨gy, 0, none⟩ = some (.int .i64 0) := (blk_cell BY.out 0).trans rfl
    have y_1 : wg0.cell? ⟨gy, 1, none⟩ = some (.int .i64 0) := (blk_cell BY.out 1).trans rfl
    have y_2 : wg0.cell? ⟨gy, 2, none⟩ = some (.int .i64 0) := (blk_cell BY.out 2).trans rfl
    have y_3 : wg0.cell? ⟨gy, 3, none⟩ = some (.int .i64 0) := (blk_cell BY.out 3).trans rfl
    have y_4 : wg0.cell? ⟨gy, 4, none⟩ = some (.int .i64 0) := (blk_cell BY.out 4).trans rfl
    have y_5 : wg0.cell? ⟨gy, 5, none⟩ = some (.int .i64 0) := (blk_cell BY.out 5).trans rfl
    have y_6 : wg0.cell? ⟨gy, 6, none⟩ = some (.int .i64 0) := (blk_cell BY.out 6).trans rfl
    go_wp2
    go_meet
    exact ⟨rfl, rfl⟩
  case rest =>
   obtain ⟨rfl, rfl⟩ := hcut
   obtain ⟨wn0, hwc⟩ : ∃ W, W = wc := ⟨_, rfl⟩
   subst hwc
   clear HCS HXF HMF HSF HAF GG LW BY
   obtain ⟨m, C, T', E, F, l, y0, y1, hX, hM, hlen, hA, hcase⟩ := good_Filter x16 x17
   have HXF := Lib.hid hX
   have HMF := Lib.hid hM
   have HAF := Lib.hid hA
   have HCS := Lib.hid hcase
   obtain ⟨ks, hks⟩ := same_refl C T' l hlen
   have HSF := Lib.hid hks
   clear hX hM hA hcase hks hlen
   have k_16 : wn0.cell? ⟨gx, 16, none⟩ = some (.int .i64 x16) := (blk_cell BX.out 16).trans rfl
   have k_17 : wn0.cell? ⟨gx, 17, none⟩ = some (.int .i64 x17) := (blk_cell BX.out 17).trans rfl
   go_upto_if 94 with (first | (go_at_call 80; refine (object_Filter.calls x16 x17 _ _ _ _ _ HXF.out).mono ?_; rintro e wa1 ⟨v9, rfl, hr, hb⟩; have n0_ := Lib.hid (below_step HB.out hb); have n1_ := Lib.hid (blk_below BX.out hb); clear HB BX; have HB := n0_; have BX := n1_; clear n0_ n1_; obtain ⟨A9, c9, rfl, -, -⟩ := Kd.R_reads hr; have HQ := Lib.hid hr; clear hr hb; clear k_16 k_17; have hz1 : gx < wa1.heap.size := blk_lt BX.out; have hz2 : gx < wa1.heap.size + 1 := Nat.lt_succ_of_lt hz1; have hz3 : gx ≠ wa1.heap.size := Nat.ne_of_lt hz1; have hz4 : gx ≠ wa1.heap.size + 1 := Nat.ne_of_lt hz2; have k_16 : wa1.cell? ⟨gx, 16, none⟩ = some (.int .i64 x16) := (blk_cell BX.out 16).trans rfl; have k_17 : wa1.cell? ⟨gx, 17, none⟩ = some (.int .i64 x17) := (blk_cell BX.out 17).trans rfl) | (go_at_call 63; refine (postroadref07_MaySender.calls x16 x17 _ _ HMF.out).mono ?_; rintro e wb1 ⟨rfl, hb'⟩; have hb := asBelow hb'; have hbb : Below wa1.heap.size wa1 wb1 := below_call (((Below.refl _ wa1).alloc (Nat.le_refl _) (.cells #[.int .i64 C, .int .i64 T', .slice A9 l.length c9] 24)).alloc (by simp) (.cells #[.int .i64 0, .int .i64 0, .slice none 0 0] 24)) hb; have BO := Lib.hid (blk_below (blk_alloc (blk_new wa1 (.cells #[.int .i64 C, .int .i64 T', .slice A9 l.length c9] 24)) (.cells #[.int .i64 0, .int .i64 0, .slice none 0 0] 24)) hb); have BW := Lib.hid (blk_below (show ((wa1.alloc (.cells #[.int .i64 C, .int .i64 T', .slice A9 l.length c9] 24)).alloc (.cells #[.int .i64 0, .int .i64 0, .slice none 0 0] 24)).heap[wa1.heap.size + 1]? = some (.cells #[.int .i64 0, .int .i64 0, .slice none 0 0] 24 (0, 0)) from (by have := blk_new (wa1.alloc (.cells #[.int .i64 C, .int .i64 T', .slice A9 l.length c9] 24)) (.cells #[.int .i64 0, .int .i64 0, .slice none 0 0] 24); rwa [World.size_alloc] at this)) hb); have GG := Lib.hid (blk_lt BX.out); have n0_ := Lib.hid (below_step HB.out hbb); have n1_ := Lib.hid (blk_below BX.out hbb); have n2_ := Lib.hid (Kd.R_below HQ.out hbb); have LW := Lib.hid (below_size HB.out); clear HB BX HQ hb hb' hbb; have HB := n0_; have BX := n1_; have HQ := n2_; clear n0_ n1_ n2_ hz1 hz2 hz3 hz4; clear k_16 k_17))
   generalize wa1.heap.size = go at *
   have k_w : ∀ j u, (#[.int .i64 0, .int .i64 0, .slice none 0 0] : Array Value)[j]? = some u → wb1.cell? ⟨go + 1, j, none⟩ = some u := fun j u h => (blk_cell BW.out j).trans h
   clear k_w
   go_cut [12] from 95 to 97 (WantRel w gx go (go + 1) #[.int .i64 x0, .int .i64 x1, .int .i64 x2, .int .i64 x3, .int .i64 x4, .int .i64 x5, .int .i64 x6, .int .i64 x7, .int .i64 x8, .int .i64 x9, .int .i64 x10, .int .i64 x11, .int .i64 x12, .int .i64 x13, .int .i64 x14, .int .i64 x15, .int .i64 x16, .int .i64 x17, .int .i64 x18, .int .i64 x19, .int .i64 x20, .int .i64 x21, .int .i64 x22, .int .i64 x23, .int .i64 x24, .int .i64 x25, .int .i64 x26, .int .i64 x27] C T' l (.slice A9 l.length c9) E)
   case first =>
    cases m with
    | false =>
     have hE : E = 2 ∧ C = 0 ∧ T' = 0 ∧ l = [] := HCS.out.elim (fun h => absurd h.1 (by decide)) (fun h => ⟨h.2.1, h.2.2.2.2.2⟩)
     have HE := Lib.hid hE
     clear hE
     go_wp2_with fail
     go_meet
     obtain ⟨e1, e2, e3, e4⟩ := HE.out
     exact ⟨by rw [e1], HB.out, BX.out, BO.out, _, HQ.out, _, by rw [e2, e3]; exact BW.out, _, by rw [e4]; exact Kd.R_nil _ _ wb1 0 (fun _ => True)⟩
    | true =>
     have hR : postroadref07_Filter.f x16 x17 = some (C, T', l) ∧ E = 0 := HCS.out.elim (fun h => ⟨h.2.2.2.2.2, h.2.1⟩) (fun h => absurd h.1 (by decide))
     have HR := Lib.hid hR.1
     have HE := Lib.hid hR.2
     clear hR
     have k_16 : wb1.cell? ⟨gx, 16, none⟩ = some (.int .i64 x16) := (blk_cell BX.out 16).trans rfl
     have k_17 : wb1.cell? ⟨gx, 17, none⟩ = some (.int .i64 x17) := (blk_cell BX.out 17).trans rfl
     go_wp2_with (go_at_call 64; refine (postroadref07_Filter.calls x16 x17 _ _ _ _ HR.out).mono ?_; rintro e wc1 ⟨v8, rfl, hr, hb⟩; have n0_ := Lib.hid (below_step HB.out hb); have n1_ := Lib.hid (blk_below BX.out hb); have n2_ := Lib.hid (Kd.R_below HQ.out hb); have n3_ := Lib.hid (blk_below BO.out hb); have n4_ := Lib.hid (blk_below BW.out hb); clear HB BX HQ BO BW; have HB := n0_; have BX := n1_; have HQ := n2_; have BO := n3_; have BW := n4_; clear n0_ n1_ n2_ n3_ n4_; obtain ⟨A8, c8, rfl, -, -⟩ := Kd.R_reads hr; have HQ8 := Lib.hid hr; clear hr hb; clear k_16 k_17; have q_0 : wc1.cell? ⟨go + 1, 0, none⟩ = some (.int .i64 0) := (blk_cell BW.out 0).trans rfl; have q_1 : wc1.cell? ⟨go + 1, 1, none⟩ = some (.int .i64 0) := (blk_cell BW.out 1).trans rfl; have q_2 : wc1.cell? ⟨go + 1, 2, none⟩ = some (.slice none 0 0) := (blk_cell BW.out 2).trans rfl; have f_0 : wc1.frozen? ⟨go + 1, 0, none⟩ = false := blk_frozen BW.out 0; have f_1 : wc1.frozen? ⟨go + 1, 1, none⟩ = false := blk_frozen BW.out 1; have f_2 : wc1.frozen? ⟨go + 1, 2, none⟩ = false := blk_frozen BW.out 2)
     go_meet
     have hgx : gx ≠ go + 1 := by have := GG.out; omega
     have hgo : go ≠ go + 1 := by omega
     have hle : w.heap.size ≤ go + 1 := by have := LW.out; omega
     exact ⟨by rw [HE.out], below_set (below_set (below_set HB.out hle) hle) hle, blk_far (p := ⟨go + 1, 2, none⟩) (blk_far (p := ⟨go + 1, 1, none⟩) (blk_far (p := ⟨go + 1, 0, none⟩) BX.out hgx (.int .i64 C)) hgx (.int .i64 T')) hgx (.slice A8 l.length c8), blk_far (p := ⟨go + 1, 2, none⟩) (blk_far (p := ⟨go + 1, 1, none⟩) (blk_far (p := ⟨go + 1, 0, none⟩) BO.out hgo (.int .i64 C)) hgo (.int .i64 T')) hgo (.slice A8 l.length c8), _, Kd.R_set (Kd.R_set (Kd.R_set (HQ.out) (BW.out) (by decide) 0 (.int .i64 C)) (blk_put (cs' := #[.int .i64 C, .int .i64 0, .slice none 0 0]) (BW.out) 0 (.int .i64 C) rfl) (by decide) 1 (.int .i64 T')) (blk_put (cs' := #[.int .i64 C, .int .i64 T', .slice none 0 0]) (blk_put (cs' := #[.int .i64 C, .int .i64 0, .slice none 0 0]) (BW.out) 0 (.int .i64 C) rfl) 1 (.int .i64 T') rfl) (by decide) 2 (.slice A8 l.length c8), _, blk_put (cs' := #[.int .i64 C, .int .i64 T', .slice A8 l.length c8]) (blk_put (cs' := #[.int .i64 C, .int .i64 T', .slice none 0 0]) (blk_put (cs' := #[.int .i64 C, .int .i64 0, .slice none 0 0]) (BW.out) 0 (.int .i64 C) rfl) 1 (.int .i64 T') rfl) 2 (.slice A8 l.length c8) rfl, _, Kd.R_set (Kd.R_set (Kd.R_set (HQ8.out) (BW.out) (by decide) 0 (.int .i64 C)) (blk_put (cs' := #[.int .i64 C, .int .i64 0, .slice none 0 0]) (BW.out) 0 (.int .i64 C) rfl) (by decide) 1 (.int .i64 T')) (blk_put (cs' := #[.int .i64 C, .int .i64 T', .slice none 0 0]) (blk_put (cs' := #[.int .i64 C, .int .i64 0, .slice none 0 0]) (BW.out) 0 (.int .i64 C) rfl) 1 (.int .i64 T') rfl) (by decide) 2 (.slice A8 l.length c8)⟩
   case rest =>
    obtain ⟨rfl, hB_, hX_, hO_, b9, hQ_, v8, hW_, b8, hQ8_⟩ := hcut
    obtain ⟨wr1, hwc⟩ : ∃ W, W = wc := ⟨_, rfl⟩
    subst hwc
    clear HB BX BO BW HQ
    have HB := Lib.hid hB_
    have BX := Lib.hid hX_
    have BO := Lib.hid hO_
    have BW := Lib.hid hW_
    obtain ⟨A8, c8, rfl, hc8, hC8⟩ := Kd.R_reads hQ8_
    obtain ⟨A9', c9', he, hc9, hC9⟩ := Kd.R_reads hQ_
    injection he with he1 he2 he3
    subst he1 he3
    clear he2 hQ_ hQ8_ hB_ hX_ hO_ hW_
    have HC8 := Lib.hid hC8
    have HC9 := Lib.hid hC9
    have Hc8 := Lib.hid hc8
    have Hc9 := Lib.hid hc9
    clear hC8 hC9 hc8 hc9
    have hEE : (E != E) = false := by simp
    have o_0 : wr1.cell? ⟨go, 0, none⟩ = some (.int .i64 C) := (blk_cell BO.out 0).trans rfl
    have o_1 : wr1.cell? ⟨go, 1, none⟩ = some (.int .i64 T') := (blk_cell BO.out 1).trans rfl
    have o_2 : wr1.cell? ⟨go, 2, none⟩ = some (.slice A9 l.length c9) := (blk_cell BO.out 2).trans rfl
    have p_0 : wr1.cell? ⟨go + 1, 0, none⟩ = some (.int .i64 C) := (blk_cell BW.out 0).trans rfl
    have p_1 : wr1.cell? ⟨go + 1, 1, none⟩ = some (.int .i64 T') := (blk_cell BW.out 1).trans rfl
    have p_2 : wr1.cell? ⟨go + 1, 2, none⟩ = some (.slice A8 l.length c8) := (blk_cell BW.out 2).trans rfl
    go_upto_region 17 with (first | (go_at_call 13; refine (postroadref07_Same.calls ks C T' A9 c9 l C T' A8 c8 l true _ HC9.out Hc9.out HC8.out Hc8.out HSF.out).mono ?_; rintro e we1 ⟨rfl, hb⟩; have n0_ := Lib.hid (below_step HB.out hb); have n1_ := Lib.hid (blk_below BX.out hb); have n2_ := Lib.hid (Kd.C_below HC9.out hb); have n3_ := Lib.hid (blk_below BO.out hb); clear HB BX HC9 HC8 BO BW; have HB := n0_; have BX := n1_; have HC9 := n2_; have BO := n3_; clear n0_ n1_ n2_ n3_ hb o_0 o_1 o_2 p_0 p_1 p_2 hEE; have o_0 : we1.cell? ⟨go, 0, none⟩ = some (.int .i64 C) := (blk_cell BO.out 0).trans rfl; have o_1 : we1.cell? ⟨go, 1, none⟩ = some (.int .i64 T') := (blk_cell BO.out 1).trans rfl; have o_2 : we1.cell? ⟨go, 2, none⟩ = some (.slice A9 l.length c9) := (blk_cell BO.out 2).trans rfl) | (go_at_call 62; refine (object_AsFilter.calls C T' A9 c9 l _ _ _ _ HC9.out Hc9.out HAF.out).mono ?_; rintro e wf1 ⟨rfl, hb⟩; have n0_ := Lib.hid (below_step HB.out hb); have n1_ := Lib.hid (blk_below BX.out hb); clear HB BX HC9 BO; have HB := n0_; have BX := n1_; clear n0_ n1_ hb o_0 o_1 o_2))
    obtain ⟨wg1, hW⟩ : ∃ W, wf1.alloc (.cells #[.int .i64 y0, .int .i64 y1] 66) = W := ⟨_, rfl⟩
    have hb : Below wf1.heap.size wf1 wg1 := hW ▸ (Below.refl _ _).alloc (Nat.le_refl _) _
    have BY := Lib.hid (show wg1.heap[wf1.heap.size]? = some (.cells #[.int .i64 y0, .int .i64 y1] 66 (0, 0)) from hW ▸ blk_new _ _)
    have n0_ := Lib.hid (below_step HB.out hb)
    have n1_ := Lib.hid (blk_below BX.out hb)
    clear HB BX
    have HB := n0_
    have BX := n1_
    clear n0_ n1_ hb
    rw [hW]
    clear hW
    generalize wf1.heap.size = gy at *
    go_cut [136] from 112 to 135 (fun v wz => v = .bool false ∧ wz = wg1)
    case first =>
     have hcs := HCS.out
     clear HCS HXF HMF HSF HAF
     rcases hcs with ⟨rfl, rfl, rfl, rfl, rfl, -⟩ | ⟨rfl, rfl, rfl, rfl, rfl, rfl, rfl, rfl⟩
     ·clear GG LW
      have k_16 : wg1.cell? ⟨gx, 16, none⟩ = some (.int .i64 x16) := (blk_cell BX.out 16).trans rfl
      have k_17 : wg1.cell? ⟨gx, 17, none⟩ = some (.int .i64 x17) := (blk_cell BX.out 17).trans rfl
      have y_0 : wg1.cell? ⟨gy, 0, none⟩ = some (.int .i64 x16) := (blk_cell BY.out 0).trans rfl
      have y_1 : wg1.cell? ⟨gy, 1, none⟩ = some (.int .i64 x17) := (blk_cell BY.out 1).trans rfl
      go_wp2
      go_meet
      exact ⟨rfl, rfl⟩
     ·clear GG LW
      have k_16 : wg1.cell? ⟨gx, 16, none⟩ = some (.int .i64 x16) := (blk_cell BX.out 16).trans rfl
      have k_17 : wg1.cell? ⟨gx, 17, none⟩ = some (.int .i64 x17) := (blk_cell BX.out 17).trans rfl
      have y_0 : wg1.cell? ⟨gy, 0, none⟩ = some (.int .i64 0) := (blk_cell BY.out 0).trans rfl
      have y_1 : wg1.cell? ⟨gy, 1, none⟩ = some (.int .i64 0) := (blk_cell BY.out 1).trans rfl
      go_wp2
      go_meet
      exact ⟨rfl, rfl⟩
    case rest =>
     obtain ⟨rfl, rfl⟩ := hcut
     obtain ⟨wn1, hwc⟩ : ∃ W, W = wc := ⟨_, rfl⟩
     subst hwc
     clear HCS HXF HMF HSF HAF GG LW BY
     obtain ⟨m, C, T', E, F, l, y0, y1, hX, hM, hlen, hA, hcase⟩ := good_Sender x18 x19
     have HXF := Lib.hid hX
     have HMF := Lib.hid hM
     have HAF := Lib.hid hA
     have HCS := Lib.hid hcase
     obtain ⟨ks, hks⟩ := same_refl C T' l hlen
     have HSF := Lib.hid hks
     clear hX hM hA hcase hks hlen
     have k_18 : wn1.cell? ⟨gx, 18, none⟩ = some (.int .i64 x18) := (blk_cell BX.out 18).trans rfl
     have k_19 : wn1.cell? ⟨gx, 19, none⟩ = some (.int .i64 x19) := (blk_cell BX.out 19).trans rfl
     go_upto_if 146 with (first | (go_at_call 81; refine (object_Sender.calls x18 x19 _ _ _ _ _ HXF.out).mono ?_; rintro e wa2 ⟨v9, rfl, hr, hb⟩; have n0_ := Lib.hid (below_step HB.out hb); have n1_ := Lib.hid (blk_below BX.out hb); clear HB BX; have HB := n0_; have BX := n1_; clear n0_ n1_; obtain ⟨A9, c9, rfl, -, -⟩ := Kd.R_reads hr; have HQ := Lib.hid hr; clear hr hb; clear k_18 k_19; have hz1 : gx < wa2.heap.size := blk_lt BX.out; have hz2 : gx < wa2.heap.size + 1 := Nat.lt_succ_of_lt hz1; have hz3 : gx ≠ wa2.heap.size := Nat.ne_of_lt hz1; have hz4 : gx ≠ wa2.heap.size + 1 := Nat.ne_of_lt hz2; have k_18 : wa2.cell? ⟨gx, 18, none⟩ = some (.int .i64 x18) := (blk_cell BX.out 18).trans rfl; have k_19 : wa2.cell? ⟨gx, 19, none⟩ = some (.int .i64 x19) := (blk_cell BX.out 19).trans rfl) | (go_at_call 63; refine (postroadref07_MaySender.calls x18 x19 _ _ HMF.out).mono ?_; rintro e wb2 ⟨rfl, hb'⟩; have hb := asBelow hb'; have hbb : Below wa2.heap.size wa2 wb2 := below_call (((Below.refl _ wa2).alloc (Nat.le_refl _) (.cells #[.int .i64 C, .int .i64 T', .slice A9 l.length c9] 24)).alloc (by simp) (.cells #[.int .i64 0, .int .i64 0, .slice none 0 0] 24)) hb; have BO := Lib.hid (blk_below (blk_alloc (blk_new wa2 (.cells #[.int .i64 C, .int .i64 T', .slice A9 l.length c9] 24)) (.cells #[.int .i64 0, .int .i64 0, .slice none 0 0] 24)) hb); have BW := Lib.hid (blk_below (show ((wa2.alloc (.cells #[.int .i64 C, .int .i64 T', .slice A9 l.length c9] 24)).alloc (.cells #[.int .i64 0, .int .i64 0, .slice none 0 0] 24)).heap[wa2.heap.size + 1]? = some (.cells #[.int .i64 0, .int .i64 0, .slice none 0 0] 24 (0, 0)) from (by have := blk_new (wa2.alloc (.cells #[.int .i64 C, .int .i64 T', .slice A9 l.length c9] 24)) (.cells #[.int .i64 0, .int .i64 0, .slice none 0 0] 24); rwa [World.size_alloc] at this)) hb); have GG := Lib.hid (blk_lt BX.out); have n0_ := Lib.hid (below_step HB.out hbb); have n1_ := Lib.hid (blk_below BX.out hbb); have n2_ := Lib.hid (Kd.R_below HQ.out hbb); have LW := Lib.hid (below_size HB.out); clear HB BX HQ hb hb' hbb; have HB := n0_; have BX := n1_; have HQ := n2_; clear n0_ n1_ n2_ hz1 hz2 hz3 hz4; clear k_18 k_19))
     generalize wa2.heap.size = go at *
     have k_w : ∀ j u, (#[.int .i64 0, .int .i64 0, .slice none 0 0] : Array Value)[j]? = some u → wb2.cell? ⟨go + 1, j, none⟩ = some u := fun j u h => (blk_cell BW.out j).trans h
     clear k_w
     go_cut [18] from 147 to 149 (WantRel w gx go (go + 1) #[.int .i64 x0, .int .i64 x1, .int .i64 x2, .int .i64 x3, .int .i64 x4, .int .i64 x5, .int .i64 x6, .int .i64 x7, .int .i64 x8, .int .i64 x9, .int .i64 x10, .int .i64 x11, .int .i64 x12, .int .i64 x13, .int .i64 x14, .int .i64 x15, .int .i64 x16, .int .i64 x17, .int .i64 x18, .int .i64 x19, .int .i64 x20, .int .i64 x21, .int .i64 x22, .int .i64 x23, .int .i64 x24, .int .i64 x25, .int .i64 x26, .int .i64 x27] C T' l (.slice A9 l.length c9) E)
     case first =>
      cases m with
      | false =>
       have hE : E = 2 ∧ C = 0 ∧ T' = 0 ∧ l = [] := HCS.out.elim (fun h => absurd h.1 (by decide)) (fun h => ⟨h.2.1, h.2.2.2.2.2⟩)
       have HE := Lib.hid hE
       clear hE
       go_wp2_with fail
       go_meet
       obtain ⟨e1, e2, e3, e4⟩ := HE.out
       exact ⟨by rw [e1], HB.out, BX.out, BO.out, _, HQ.out, _, by rw [e2, e3]; exact BW.out, _, by rw [e4]; exact Kd.R_nil _ _ wb2 0 (fun _ => True)⟩
      | true =>
       have hR : postroadref07_Sender.f x18 x19 = some (C, T', l) ∧ E = 0 := HCS.out.elim (fun h => ⟨h.2.2.2.2.2, h.2.1⟩) (fun h => absurd h.1 (by decide))
       have HR := Lib.hid hR.1
       have HE := Lib.hid hR.2
       clear hR
       have k_18 : wb2.cell? ⟨gx, 18, none⟩ = some (.int .i64 x18) := (blk_cell BX.out 18).trans rfl
       have k_19 : wb2.cell? ⟨gx, 19, none⟩ = some (.int .i64 x19) := (blk_cell BX.out 19).trans rfl
       go_wp2_with (go_at_call 66; refine (postroadref07_Sender.calls x18 x19 _ _ _ _ HR.out).mono ?_; rintro e wc2 ⟨v8, rfl, hr, hb⟩; have n0_ := Lib.hid (below_step HB.out hb); have n1_ := Lib.hid (blk_below BX.out hb); have n2_ := Lib.hid (Kd.R_below HQ.out hb); have n3_ := Lib.hid (blk_below BO.out hb); have n4_ := Lib.hid (blk_below BW.out hb); clear HB BX HQ BO BW; have HB := n0_; have BX := n1_; have HQ := n2_; have BO := n3_; have BW := n4_; clear n0_ n1_ n2_ n3_ n4_; obtain ⟨A8, c8, rfl, -, -⟩ := Kd.R_reads hr; have HQ8 := Lib.hid hr; clear hr hb; clear k_18 k_19; have q_0 : wc2.cell? ⟨go + 1, 0, none⟩ = some (.int .i64 0) := (blk_cell BW.out 0).trans rfl; have q_1 : wc2.cell? ⟨go + 1, 1, none⟩ = some (.int .i64 0) := (blk_cell BW.out 1).trans rfl; have q_2 : wc2.cell? ⟨go + 1, 2, none⟩ = some (.slice none 0 0) := (blk_cell BW.out 2).trans rfl; have f_0 : wc2.frozen? ⟨go + 1, 0, none⟩ = false := blk_frozen BW.out 0; have f_1 : wc2.frozen? ⟨go + 1, 1, none⟩ = false := blk_frozen BW.out 1; have f_2 : wc2.frozen? ⟨go + 1, 2, none⟩ = false := blk_frozen BW.out 2)
       go_meet
       have hgx : gx ≠ go + 1 := by have := GG.out; omega
       have hgo : go ≠ go + 1 := by omega
       have hle : w.heap.size ≤ go + 1 := by have := LW.out; omega
       exact ⟨by rw [HE.out], below_set (below_set (below_set HB.out hle) hle) hle, blk_far (p := ⟨go + 1, 2, none⟩) (blk_far (p := ⟨go + 1, 1, none⟩) (blk_far (p := ⟨go + 1, 0, none⟩) BX.out hgx (.int .i64 C)) hgx (.int .i64 T')) hgx (.slice A8 l.length c8), blk_far (p := ⟨go + 1, 2, none⟩) (blk_far (p := ⟨go + 1, 1, none⟩) (blk_far (p := ⟨go + 1, 0, none⟩) BO.out hgo (.int .i64 C)) hgo (.int .i64 T')) hgo (.slice A8 l.length c8), _, Kd.R_set (Kd.R_set (Kd.R_set (HQ.out) (BW.out) (by decide) 0 (.int .i64 C)) (blk_put (cs' := #[.int .i64 C, .int .i64 0, .slice none 0 0]) (BW.out) 0 (.int .i64 C) rfl) (by decide) 1 (.int .i64 T')) (blk_put (cs' := #[.int .i64 C, .int .i64 T', .slice none 0 0]) (blk_put (cs' := #[.int .i64 C, .int .i64 0, .slice none 0 0]) (BW.out) 0 (.int .i64 C) rfl) 1 (.int .i64 T') rfl) (by decide) 2 (.slice A8 l.length c8), _, blk_put (cs' := #[.int .i64 C, .int .i64 T', .slice A8 l.length c8]) (blk_put (cs' := #[.int .i64 C, .int .i64 T', .slice none 0 0]) (blk_put (cs' := #[.int .i64 C, .int .i64 0, .slice none 0 0]) (BW.out) 0 (.int .i64 C) rfl) 1 (.int .i64 T') rfl) 2 (.slice A8 l.length c8) rfl, _, Kd.R_set (Kd.R_set (Kd.R_set (HQ8.out) (BW.out) (by decide) 0 (.int .i64 C)) (blk_put (cs' := #[.int .i64 C, .int .i64 0, .slice none 0 0]) (BW.out) 0 (.int .i64 C) rfl) (by decide) 1 (.int .i64 T')) (blk_put (cs' := #[.int .i64 C, .int .i64 T', .slice none 0 0]) (blk_put (cs' := #[.int .i64 C, .int .i64 0, .slice none 0 0]) (BW.out) 0 (.int .i64 C) rfl) 1 (.int .i64 T') rfl) (by decide) 2 (.slice A8 l.length c8)⟩
     case rest =>
      obtain ⟨rfl, hB_, hX_, hO_, b9, hQ_, v8, hW_, b8, hQ8_⟩ := hcut
      obtain ⟨wr2, hwc⟩ : ∃ W, W = wc := ⟨_, rfl⟩
      subst hwc
      clear HB BX BO BW HQ
      have HB := Lib.hid hB_
      have BX := Lib.hid hX_
      have BO := Lib.hid hO_
      have BW := Lib.hid hW_
      obtain ⟨A8, c8, rfl, hc8, hC8⟩ := Kd.R_reads hQ8_
      obtain ⟨A9', c9', he, hc9, hC9⟩ := Kd.R_reads hQ_
      injection he with he1 he2 he3
      subst he1 he3
      clear he2 hQ_ hQ8_ hB_ hX_ hO_ hW_
      have HC8 := Lib.hid hC8
      have HC9 := Lib.hid hC9
      have Hc8 := Lib.hid hc8
      have Hc9 := Lib.hid hc9
      clear hC8 hC9 hc8 hc9
      have hEE : (E != E) = false := by simp
      have o_0 : wr2.cell? ⟨go, 0, none⟩ = some (.int .i64 C) := (blk_cell BO.out 0).trans rfl
      have o_1 : wr2.cell? ⟨go, 1, none⟩ = some (.int .i64 T') := (blk_cell BO.out 1).trans rfl
      have o_2 : wr2.cell? ⟨go, 2, none⟩ = some (.slice A9 l.length c9) := (blk_cell BO.out 2).trans rfl
      have p_0 : wr2.cell? ⟨go + 1, 0, none⟩ = some (.int .i64 C) := (blk_cell BW.out 0).trans rfl
      have p_1 : wr2.cell? ⟨go + 1, 1, none⟩ = some (.int .i64 T') := (blk_cell BW.out 1).trans rfl
      have p_2 : wr2.cell? ⟨go + 1, 2, none⟩ = some (.slice A8 l.length c8) := (blk_cell BW.out 2).trans rfl
      go_upto_region 26 with (first | (go_at_call 13; refine (postroadref07_Same.calls ks C T' A9 c9 l C T' A8 c8 l true _ HC9.out Hc9.out HC8.out Hc8.out HSF.out).mono ?_; rintro e we2 ⟨rfl, hb⟩; have n0_ := Lib.hid (below_step HB.out hb); have n1_ := Lib.hid (blk_below BX.out hb); have n2_ := Lib.hid (Kd.C_below HC9.out hb); have n3_ := Lib.hid (blk_below BO.out hb); clear HB BX HC9 HC8 BO BW; have HB := n0_; have BX := n1_; have HC9 := n2_; have BO := n3_; clear n0_ n1_ n2_ n3_ hb o_0 o_1 o_2 p_0 p_1 p_2 hEE; have o_0 : we2.cell? ⟨go, 0, none⟩ = some (.int .i64 C) := (blk_cell BO.out 0).trans rfl; have o_1 : we2.cell? ⟨go, 1, none⟩ = some (.int .i64 T') := (blk_cell BO.out 1).trans rfl; have o_2 : we2.cell? ⟨go, 2, none⟩ = some (.slice A9 l.length c9) := (blk_cell BO.out 2).trans rfl) | (go_at_call 65; refine (object_AsSender.calls C T' A9 c9 l _ _ _ _ HC9.out Hc9.out HAF.out).mono ?_; rintro e wf2 ⟨rfl, hb⟩; have n0_ := Lib.hid (below_step HB.out hb); have n1_ := Lib.hid (blk_below BX.out hb); clear HB BX HC9 BO; have HB := n0_; have BX := n1_; clear n0_ n1_ hb o_0 o_1 o_2))
      obtain ⟨wg2, hW⟩ : ∃ W, wf2.alloc (.cells #[.int .i64 y0, .int .i64 y1] 66) = W := ⟨_, rfl⟩
      have hb : Below wf2.heap.size wf2 wg2 := hW ▸ (Below.refl _ _).alloc (Nat.le_refl _) _
      have BY := Lib.hid (show wg2.heap[wf2.heap.size]? = some (.cells #[.int .i64 y0, .int .i64 y1] 66 (0, 0)) from hW ▸ blk_new _ _)
      have n0_ := Lib.hid (below_step HB.out hb)
      have n1_ := Lib.hid (blk_below BX.out hb)
      clear HB BX
      have HB := n0_
      have BX := n1_
      clear n0_ n1_ hb
      rw [hW]
      clear hW
      generalize wf2.heap.size = gy at *
      go_cut [188] from 164 to 187 (fun v wz => v = .bool false ∧ wz = wg2)
      case first =>
       have hcs := HCS.out
       clear HCS HXF HMF HSF HAF
       rcases hcs with ⟨rfl, rfl, rfl, rfl, rfl, -⟩ | ⟨rfl, rfl, rfl, rfl, rfl, rfl, rfl, rfl⟩
       ·clear GG LW
        have k_18 : wg2.cell? ⟨gx, 18, none⟩ = some (.int .i64 x18) := (blk_cell BX.out 18).trans rfl
        have k_19 : wg2.cell? ⟨gx, 19, none⟩ = some (.int .i64 x19) := (blk_cell BX.out 19).trans rfl
        have y_0 : wg2.cell? ⟨gy, 0, none⟩ = some (.int .i64 x18) := (blk_cell BY.out 0).trans rfl
        have y_1 : wg2.cell? ⟨gy, 1, none⟩ = some (.int .i64 x19) := (blk_cell BY.out 1).trans rfl
        go_wp2
        go_meet
        exact ⟨rfl, rfl⟩
       ·clear GG LW
        have k_18 : wg2.cell? ⟨gx, 18, none⟩ = some (.int .i64 x18) := (blk_cell BX.out 18).trans rfl
        have k_19 : wg2.cell? ⟨gx, 19, none⟩ = some (.int .i64 x19) := (blk_cell BX.out 19).trans rfl
        have y_0 : wg2.cell? ⟨gy, 0, none⟩ = some (.int .i64 0) := (blk_cell BY.out 0).trans rfl
        have y_1 : wg2.cell? ⟨gy, 1, none⟩ = some (.int .i64 0) := (blk_cell BY.out 1).trans rfl
        go_wp2
        go_meet
        exact ⟨rfl, rfl⟩
      case rest =>
       obtain ⟨rfl, rfl⟩ := hcut
       obtain ⟨wn2, hwc⟩ : ∃ W, W = wc := ⟨_, rfl⟩
       subst hwc
       clear HCS HXF HMF HSF HAF GG LW BY
       obtain ⟨m, C, T', E, F, l, y0, y1, y2, y3, y4, hX, hM, hlen, hA, hcase⟩ := good_Spec x20 x21 x22 x23 x24
       have HXF := Lib.hid hX
       have HMF := Lib.hid hM
       have HAF := Lib.hid hA
       have HCS := Lib.hid hcase
       obtain ⟨ks, hks⟩ := same_refl C T' l hlen
       have HSF := Lib.hid hks
       clear hX hM hA hcase hks hlen
       have k_20 : wn2.cell? ⟨gx, 20, none⟩ = some (.int .i64 x20) := (blk_cell BX.out 20).trans rfl
       have k_21 : wn2.cell? ⟨gx, 21, none⟩ = some (.int .i64 x21) := (blk_cell BX.out 21).trans rfl
       have k_22 : wn2.cell? ⟨gx, 22, none⟩ = some (.int .i64 x22) := (blk_cell BX.out 22).trans rfl
       have k_23 : wn2.cell? ⟨gx, 23, none⟩ = some (.int .i64 x23) := (blk_cell BX.out 23).trans rfl
       have k_24 : wn2.cell? ⟨gx, 24, none⟩ = some (.int .i64 x24) := (blk_cell BX.out 24).trans rfl
       go_upto_if 198 with (first | (go_at_call 82; refine (object_Spec.calls x20 x21 x22 x23 x24 _ _ _ _ _ HXF.out).mono ?_; rintro e wa3 ⟨v9, rfl, hr, hb⟩; have n0_ := Lib.hid (below_step HB.out hb); have n1_ := Lib.hid (blk_below BX.out hb); clear HB BX; have HB := n0_; have BX := n1_; clear n0_ n1_; obtain ⟨A9, c9, rfl, -, -⟩ := Kd.R_reads hr; have HQ := Lib.hid hr; clear hr hb; clear k_20 k_21 k_22 k_23 k_24; have hz1 : gx < wa3.heap.size := blk_lt BX.out; have hz2 : gx < wa3.heap.size + 1 := Nat.lt_succ_of_lt hz1; have hz3 : gx ≠ wa3.heap.size := Nat.ne_of_lt hz1; have hz4 : gx ≠ wa3.heap.size + 1 := Nat.ne_of_lt hz2; have k_20 : wa3.cell? ⟨gx, 20, none⟩ = some (.int .i64 x20) := (blk_cell BX.out 20).trans rfl; have k_21 : wa3.cell? ⟨gx, 21, none⟩ = some (.int .i64 x21) := (blk_cell BX.out 21).trans rfl; have k_22 : wa3.cell? ⟨gx, 22, none⟩ = some (.int .i64 x22) := (blk_cell BX.out 22).trans rfl; have k_23 : wa3.cell? ⟨gx, 23, none⟩ = some (.int .i64 x23) := (blk_cell BX.out 23).trans rfl; have k_24 : wa3.cell? ⟨gx, 24, none⟩ = some (.int .i64 x24) := (blk_cell BX.out 24).trans rfl) | (go_at_call 61; refine (postroadref02_Right.calls x20 x21 x22 x23 x24 _ _ HMF.out).mono ?_; rintro e wb3 ⟨rfl, hb'⟩; have hb := asBelow hb'; have hbb : Below wa3.heap.size wa3 wb3 := below_call (((Below.refl _ wa3).alloc (Nat.le_refl _) (.cells #[.int .i64 C, .int .i64 T', .slice A9 l.length c9] 24)).alloc (by simp) (.cells #[.int .i64 0, .int .i64 0, .slice none 0 0] 24)) hb; have BO := Lib.hid (blk_below (blk_alloc (blk_new wa3 (.cells #[.int .i64 C, .int .i64 T', .slice A9 l.length c9] 24)) (.cells #[.int .i64 0, .int .i64 0, .slice none 0 0] 24)) hb); have BW := Lib.hid (blk_below (show ((wa3.alloc (.cells #[.int .i64 C, .int .i64 T', .slice A9 l.length c9] 24)).alloc (.cells #[.int .i64 0, .int .i64 0, .slice none 0 0] 24)).heap[wa3.heap.size + 1]? = some (.cells #[.int .i64 0, .int .i64 0, .slice none 0 0] 24 (0, 0)) from (by have := blk_new (wa3.alloc (.cells #[.int .i64 C, .int .i64 T', .slice A9 l.length c9] 24)) (.cells #[.int .i64 0, .int .i64 0, .slice none 0 0] 24); rwa [World.size_alloc] at this)) hb); have GG := Lib.hid (blk_lt BX.out); have n0_ := Lib.hid (below_step HB.out hbb); have n1_ := Lib.hid (blk_below BX.out hbb); have n2_ := Lib.hid (Kd.R_below HQ.out hbb); have LW := Lib.hid (below_size HB.out); clear HB BX HQ hb hb' hbb; have HB := n0_; have BX := n1_; have HQ := n2_; clear n0_ n1_ n2_ hz1 hz2 hz3 hz4; clear k_20 k_21 k_22 k_23 k_24))
       generalize wa3.heap.size = go at *
       have k_w : ∀ j u, (#[.int .i64 0, .int .i64 0, .slice none 0 0] : Array Value)[j]? = some u → wb3.cell? ⟨go + 1, j, none⟩ = some u := fun j u h => (blk_cell BW.out j).trans h
       clear k_w
       go_cut [24] from 199 to 201 (WantRel w gx go (go + 1) #[.int .i64 x0, .int .i64 x1, .int .i64 x2, .int .i64 x3, .int .i64 x4, .int .i64 x5, .int .i64 x6, .int .i64 x7, .int .i64 x8, .int .i64 x9, .int .i64 x10, .int .i64 x11, .int .i64 x12, .int .i64 x13, .int .i64 x14, .int .i64 x15, .int .i64 x16, .int .i64 x17, .int .i64 x18, .int .i64 x19, .int .i64 x20, .int .i64 x21, .int .i64 x22, .int .i64 x23, .int .i64 x24, .int .i64 x25, .int .i64 x26, .int .i64 x27] C T' l (.slice A9 l.length c9) E)
       case first =>
        cases m with
        | false =>
         have hE : E = 2 ∧ C = 0 ∧ T' = 0 ∧ l = [] := HCS.out.elim (fun h => absurd h.1 (by decide)) (fun h => ⟨h.2.1, h.2.2.2.2.2.2.2.2⟩)
         have HE := Lib.hid hE
         clear hE
         go_wp2_with fail
         go_meet
         obtain ⟨e1, e2, e3, e4⟩ := HE.out
         exact ⟨by rw [e1], HB.out, BX.out, BO.out, _, HQ.out, _, by rw [e2, e3]; exact BW.out, _, by rw [e4]; exact Kd.R_nil _ _ wb3 0 (fun _ => True)⟩
        | true =>
         have hR : postroadref07_Spec.f x20 x21 x22 x23 x24 = some (C, T', l) ∧ E = 0 := HCS.out.elim (fun h => ⟨h.2.2.2.2.2.2.2.2, h.2.1⟩) (fun h => absurd h.1 (by decide))
         have HR := Lib.hid hR.1
         have HE := Lib.hid hR.2
         clear hR
         have k_20 : wb3.cell? ⟨gx, 20, none⟩ = some (.int .i64 x20) := (blk_cell BX.out 20).trans rfl
         have k_21 : wb3.cell? ⟨gx, 21, none⟩ = some (.int .i64 x21) := (blk_cell BX.out 21).trans rfl
         have k_22 : wb3.cell? ⟨gx, 22, none⟩ = some (.int .i64 x22) := (blk_cell BX.out 22).trans rfl
         have k_23 : wb3.cell? ⟨gx, 23, none⟩ = some (.int .i64 x23) := (blk_cell BX.out 23).trans rfl
         have k_24 : wb3.cell? ⟨gx, 24, none⟩ = some (.int .i64 x24) := (blk_cell BX.out 24).trans rfl
         go_wp2_with (go_at_call 68; refine (postroadref07_Spec.calls x20 x21 x22 x23 x24 _ _ _ _ HR.out).mono ?_; rintro e wc3 ⟨v8, rfl, hr, hb⟩; have n0_ := Lib.hid (below_step HB.out hb); have n1_ := Lib.hid (blk_below BX.out hb); have n2_ := Lib.hid (Kd.R_below HQ.out hb); have n3_ := Lib.hid (blk_below BO.out hb); have n4_ := Lib.hid (blk_below BW.out hb); clear HB BX HQ BO BW; have HB := n0_; have BX := n1_; have HQ := n2_; have BO := n3_; have BW := n4_; clear n0_ n1_ n2_ n3_ n4_; obtain ⟨A8, c8, rfl, -, -⟩ := Kd.R_reads hr; have HQ8 := Lib.hid hr; clear hr hb; clear k_20 k_21 k_22 k_23 k_24; have q_0 : wc3.cell? ⟨go + 1, 0, none⟩ = some (.int .i64 0) := (blk_cell BW.out 0).trans rfl; have q_1 : wc3.cell? ⟨go + 1, 1, none⟩ = some (.int .i64 0) := (blk_cell BW.out 1).trans rfl; have q_2 : wc3.cell? ⟨go + 1, 2, none⟩ = some (.slice none 0 0) := (blk_cell BW.out 2).trans rfl; have f_0 : wc3.frozen? ⟨go + 1, 0, none⟩ = false := blk_frozen BW.out 0; have f_1 : wc3.frozen? ⟨go + 1, 1, none⟩ = false := blk_frozen BW.out 1; have f_2 : wc3.frozen? ⟨go + 1, 2, none⟩ = false := blk_frozen BW.out 2)
         go_meet
         have hgx : gx ≠ go + 1 := by have := GG.out; omega
         have hgo : go ≠ go + 1 := by omega
         have hle : w.heap.size ≤ go + 1 := by have := LW.out; omega
         exact ⟨by rw [HE.out], below_set (below_set (below_set HB.out hle) hle) hle, blk_far (p := ⟨go + 1, 2, none⟩) (blk_far (p := ⟨go + 1, 1, none⟩) (blk_far (p := ⟨go + 1, 0, none⟩) BX.out hgx (.int .i64 C)) hgx (.int .i64 T')) hgx (.slice A8 l.length c8), blk_far (p := ⟨go + 1, 2, none⟩) (blk_far (p := ⟨go + 1, 1, none⟩) (blk_far (p := ⟨go + 1, 0, none⟩) BO.out hgo (.int .i64 C)) hgo (.int .i64 T')) hgo (.slice A8 l.length c8), _, Kd.R_set (Kd.R_set (Kd.R_set (HQ.out) (BW.out) (by decide) 0 (.int .i64 C)) (blk_put (cs' := #[.int .i64 C, .int .i64 0, .slice none 0 0]) (BW.out) 0 (.int .i64 C) rfl) (by decide) 1 (.int .i64 T')) (blk_put (cs' := #[.int .i64 C, .int .i64 T', .slice none 0 0]) (blk_put (cs' := #[.int .i64 C, .int .i64 0, .slice none 0 0]) (BW.out) 0 (.int .i64 C) rfl) 1 (.int .i64 T') rfl) (by decide) 2 (.slice A8 l.length c8), _, blk_put (cs' := #[.int .i64 C, .int .i64 T', .slice A8 l.length c8]) (blk_put (cs' := #[.int .i64 C, .int .i64 T', .slice none 0 0]) (blk_put (cs' := #[.int .i64 C, .int .i64 0, .slice none 0 0]) (BW.out) 0 (.int .i64 C) rfl) 1 (.int .i64 T') rfl) 2 (.slice A8 l.length c8) rfl, _, Kd.R_set (Kd.R_set (Kd.R_set (HQ8.out) (BW.out) (by decide) 0 (.int .i64 C)) (blk_put (cs' := #[.int .i64 C, .int .i64 0, .slice none 0 0]) (BW.out) 0 (.int .i64 C) rfl) (by decide) 1 (.int .i64 T')) (blk_put (cs' := #[.int .i64 C, .int .i64 T', .slice none 0 0]) (blk_put (cs' := #[.int .i64 C, .int .i64 0, .slice none 0 0]) (BW.out) 0 (.int .i64 C) rfl) 1 (.int .i64 T') rfl) (by decide) 2 (.slice A8 l.length c8)⟩
       case rest =>
        obtain ⟨rfl, hB_, hX_, hO_, b9, hQ_, v8, hW_, b8, hQ8_⟩ := hcut
        obtain ⟨wr3, hwc⟩ : ∃ W, W = wc := ⟨_, rfl⟩
        subst hwc
        clear HB BX BO BW HQ
        have HB := Lib.hid hB_
        have BX := Lib.hid hX_
        have BO := Lib.hid hO_
        have BW := Lib.hid hW_
        obtain ⟨A8, c8, rfl, hc8, hC8⟩ := Kd.R_reads hQ8_
        obtain ⟨A9', c9', he, hc9, hC9⟩ := Kd.R_reads hQ_
        injection he with he1 he2 he3
        subst he1 he3
        clear he2 hQ_ hQ8_ hB_ hX_ hO_ hW_
        have HC8 := Lib.hid hC8
        have HC9 := Lib.hid hC9
        have Hc8 := Lib.hid hc8
        have Hc9 := Lib.hid hc9
        clear hC8 hC9 hc8 hc9
        have hEE : (E != E) = false := by simp
        have o_0 : wr3.cell? ⟨go, 0, none⟩ = some (.int .i64 C) := (blk_cell BO.out 0).trans rfl
        have o_1 : wr3.cell? ⟨go, 1, none⟩ = some (.int .i64 T') := (blk_cell BO.out 1).trans rfl
        have o_2 : wr3.cell? ⟨go, 2, none⟩ = some (.slice A9 l.length c9) := (blk_cell BO.out 2).trans rfl
        have p_0 : wr3.cell? ⟨go + 1, 0, none⟩ = some (.int .i64 C) := (blk_cell BW.out 0).trans rfl
        have p_1 : wr3.cell? ⟨go + 1, 1, none⟩ = some (.int .i64 T') := (blk_cell BW.out 1).trans rfl
        have p_2 : wr3.cell? ⟨go + 1, 2, none⟩ = some (.slice A8 l.length c8) := (blk_cell BW.out 2).trans rfl
        go_upto_region 35 with (first | (go_at_call 13; refine (postroadref07_Same.calls ks C T' A9 c9 l C T' A8 c8 l true _ HC9.out Hc9.out HC8.out Hc8.out HSF.out).mono ?_; rintro e we3 ⟨rfl, hb⟩; have n0_ := Lib.hid (below_step HB.out hb); have n1_ := Lib.hid (blk_below BX.out hb); have n2_ := Lib.hid (Kd.C_below HC9.out hb); have n3_ := Lib.hid (blk_below BO.out hb); clear HB BX HC9 HC8 BO BW; have HB := n0_; have BX := n1_; have HC9 := n2_; have BO := n3_; clear n0_ n1_ n2_ n3_ hb o_0 o_1 o_2 p_0 p_1 p_2 hEE; have o_0 : we3.cell? ⟨go, 0, none⟩ = some (.int .i64 C) := (blk_cell BO.out 0).trans rfl; have o_1 : we3.cell? ⟨go, 1, none⟩ = some (.int .i64 T') := (blk_cell BO.out 1).trans rfl; have o_2 : we3.cell? ⟨go, 2, none⟩ = some (.slice A9 l.length c9) := (blk_cell BO.out 2).trans rfl) | (go_at_call 67; refine (object_AsSpec.calls C T' A9 c9 l _ _ _ _ _ _ _ HC9.out Hc9.out HAF.out).mono ?_; rintro e wf3 ⟨rfl, hb⟩; have n0_ := Lib.hid (below_step HB.out hb); have n1_ := Lib.hid (blk_below BX.out hb); clear HB BX HC9 BO; have HB := n0_; have BX := n1_; clear n0_ n1_ hb o_0 o_1 o_2))
        obtain ⟨wg3, hW⟩ : ∃ W, wf3.alloc (.cells #[.int .i64 y0, .int .i64 y1, .int .i64 y2, .int .i64 y3, .int .i64 y4] 56) = W := ⟨_, rfl⟩
        have hb : Below wf3.heap.size wf3 wg3 := hW ▸ (Below.refl _ _).alloc (Nat.le_refl _) _
        have BY := Lib.hid (show wg3.heap[wf3.heap.size]? = some (.cells #[.int .i64 y0, .int .i64 y1, .int .i64 y2, .int .i64 y3, .int .i64 y4] 56 (0, 0)) from hW ▸ blk_new _ _)
        have n0_ := Lib.hid (below_step HB.out hb)
        have n1_ := Lib.hid (blk_below BX.out hb)
        clear HB BX
        have HB := n0_
        have BX := n1_
        clear n0_ n1_ hb
        rw [hW]
        clear hW
        generalize wf3.heap.size = gy at *
        go_cut [240] from 216 to 239 (fun v wz => v = .bool false ∧ wz = wg3)
        case first =>
         have hcs := HCS.out
         clear HCS HXF HMF HSF HAF
         rcases hcs with ⟨rfl, rfl, rfl, rfl, rfl, rfl, rfl, rfl, -⟩ | ⟨rfl, rfl, rfl, rfl, rfl, rfl, rfl, rfl, rfl, rfl, rfl⟩
         ·clear GG LW
          have k_20 : wg3.cell? ⟨gx, 20, none⟩ = some (.int .i64 x20) := (blk_cell BX.out 20).trans rfl
          have k_21 : wg3.cell? ⟨gx, 21, none⟩ = some (.int .i64 x21) := (blk_cell BX.out 21).trans rfl
          have k_22 : wg3.cell? ⟨gx, 22, none⟩ = some (.int .i64 x22) := (blk_cell BX.out 22).trans rfl
          have k_23 : wg3.cell? ⟨gx, 23, none⟩ = some (.int .i64 x23) := (blk_cell BX.out 23).trans rfl
          have k_24 : wg3.cell? ⟨gx, 24, none⟩ = some (.int .i64 x24) := (blk_cell BX.out 24).trans rfl
          have y_0 : wg3.cell? ⟨gy, 0, none⟩ = some (.int .i64 x20) := (blk_cell BY.out 0).trans rfl
          have y_1 : wg3.cell? ⟨gy, 1, none⟩ = some (.int .i64 x21) := (blk_cell BY.out 1).trans rfl
          have y_2 : wg3.cell? ⟨gy, 2, none⟩ = some (.int .i64 x22) := (blk_cell BY.out 2).trans rfl
          have y_3 : wg3.cell? ⟨gy, 3, none⟩ = some (.int .i64 x23) := (blk_cell BY.out 3).trans rfl
          have y_4 : wg3.cell? ⟨gy, 4, none⟩ = some (.int .i64 x24) := (blk_cell BY.out 4).trans rfl
          go_wp2
          go_meet
          exact ⟨rfl, rfl⟩
         ·clear GG LW
          have k_20 : wg3.cell? ⟨gx, 20, none⟩ = some (.int .i64 x20) := (blk_cell BX.out 20).trans rfl
          have k_21 : wg3.cell? ⟨gx, 21, none⟩ = some (.int .i64 x21) := (blk_cell BX.out 21).trans rfl
          have k_22 : wg3.cell? ⟨gx, 22, none⟩ = some (.int .i64 x22) := (blk_cell BX.out 22).trans rfl
          have k_23 : wg3.cell? ⟨gx, 23, none⟩ = some (.int .i64 x23) := (blk_cell BX.out 23).trans rfl
          have k_24 : wg3.cell? ⟨gx, 24, none⟩ = some (.int .i64 x24) := (blk_cell BX.out 24).trans rfl
          have y_0 : wg3.cell? ⟨gy, 0, none⟩ = some (.int .i64 0) := (blk_cell BY.out 0).trans rfl
          have y_1 : wg3.cell? ⟨gy, 1, none⟩ = some (.int .i64 0) := (blk_cell BY.out 1).trans rfl
          have y_2 : wg3.cell? ⟨gy, 2, none⟩ = some (.int .i64 0) := (blk_cell BY.out 2).trans rfl
          have y_3 : wg3.cell? ⟨gy, 3, none⟩ = some (.int .i64 0) := (blk_cell BY.out 3).trans rfl
          have y_4 : wg3.cell? ⟨gy, 4, none⟩ = some (.int .i64 0) := (blk_cell BY.out 4).trans rfl
          go_wp2
          go_meet
          exact ⟨rfl, rfl⟩
        case rest =>
         obtain ⟨rfl, rfl⟩ := hcut
         obtain ⟨wn3, hwc⟩ : ∃ W, W = wc := ⟨_, rfl⟩
         subst hwc
         clear HCS HXF HMF HSF HAF GG LW BY
         obtain ⟨m, C, T', E, F, l, y0, y1, hX, hM, hlen, hA, hcase⟩ := good_Terms x25 x26
         have HXF := Lib.hid hX
         have HMF := Lib.hid hM
         have HAF := Lib.hid hA
         have HCS := Lib.hid hcase
         obtain ⟨ks, hks⟩ := same_refl C T' l hlen
         have HSF := Lib.hid hks
         clear hX hM hA hcase hks hlen
         have k_25 : wn3.cell? ⟨gx, 25, none⟩ = some (.int .i64 x25) := (blk_cell BX.out 25).trans rfl
         have k_26 : wn3.cell? ⟨gx, 26, none⟩ = some (.int .i64 x26) := (blk_cell BX.out 26).trans rfl
         go_upto_if 250 with (first | (go_at_call 83; refine (object_Terms.calls x25 x26 _ _ _ _ _ HXF.out).mono ?_; rintro e wa4 ⟨v9, rfl, hr, hb⟩; have n0_ := Lib.hid (below_step HB.out hb); have n1_ := Lib.hid (blk_below BX.out hb); clear HB BX; have HB := n0_; have BX := n1_; clear n0_ n1_; obtain ⟨A9, c9, rfl, -, -⟩ := Kd.R_reads hr; have HQ := Lib.hid hr; clear hr hb; clear k_25 k_26; have hz1 : gx < wa4.heap.size := blk_lt BX.out; have hz2 : gx < wa4.heap.size + 1 := Nat.lt_succ_of_lt hz1; have hz3 : gx ≠ wa4.heap.size := Nat.ne_of_lt hz1; have hz4 : gx ≠ wa4.heap.size + 1 := Nat.ne_of_lt hz2; have k_25 : wa4.cell? ⟨gx, 25, none⟩ = some (.int .i64 x25) := (blk_cell BX.out 25).trans rfl; have k_26 : wa4.cell? ⟨gx, 26, none⟩ = some (.int .i64 x26) := (blk_cell BX.out 26).trans rfl) | (go_at_call 70; refine (postroadref07_MayTerms.calls x25 x26 _ _ HMF.out).mono ?_; rintro e wb4 ⟨rfl, hb'⟩; have hb := asBelow hb'; have hbb : Below wa4.heap.size wa4 wb4 := below_call (((Below.refl _ wa4).alloc (Nat.le_refl _) (.cells #[.int .i64 C, .int .i64 T', .slice A9 l.length c9] 24)).alloc (by simp) (.cells #[.int .i64 0, .int .i64 0, .slice none 0 0] 24)) hb; have BO := Lib.hid (blk_below (blk_alloc (blk_new wa4 (.cells #[.int .i64 C, .int .i64 T', .slice A9 l.length c9] 24)) (.cells #[.int .i64 0, .int .i64 0, .slice none 0 0] 24)) hb); have BW := Lib.hid (blk_below (show ((wa4.alloc (.cells #[.int .i64 C, .int .i64 T', .slice A9 l.length c9] 24)).alloc (.cells #[.int .i64 0, .int .i64 0, .slice none 0 0] 24)).heap[wa4.heap.size + 1]? = some (.cells #[.int .i64 0, .int .i64 0, .slice none 0 0] 24 (0, 0)) from (by have := blk_new (wa4.alloc (.cells #[.int .i64 C, .int .i64 T', .slice A9 l.length c9] 24)) (.cells #[.int .i64 0, .int .i64 0, .slice none 0 0] 24); rwa [World.size_alloc] at this)) hb); have GG := Lib.hid (blk_lt BX.out); have n0_ := Lib.hid (below_step HB.out hbb); have n1_ := Lib.hid (blk_below BX.out hbb); have n2_ := Lib.hid (Kd.R_below HQ.out hbb); have LW := Lib.hid (below_size HB.out); clear HB BX HQ hb hb' hbb; have HB := n0_; have BX := n1_; have HQ := n2_; clear n0_ n1_ n2_ hz1 hz2 hz3 hz4; clear k_25 k_26))
         generalize wa4.heap.size = go at *
         have k_w : ∀ j u, (#[.int .i64 0, .int .i64 0, .slice none 0 0] : Array Value)[j]? = some u → wb4.cell? ⟨go + 1, j, none⟩ = some u := fun j u h => (blk_cell BW.out j).trans h
         clear k_w
         go_cut [30] from 251 to 253 (WantRel w gx go (go + 1) #[.int .i64 x0, .int .i64 x1, .int .i64 x2, .int .i64 x3, .int .i64 x4, .int .i64 x5, .int .i64 x6, .int .i64 x7, .int .i64 x8, .int .i64 x9, .int .i64 x10, .int .i64 x11, .int .i64 x12, .int .i64 x13, .int .i64 x14, .int .i64 x15, .int .i64 x16, .int .i64 x17, .int .i64 x18, .int .i64 x19, .int .i64 x20, .int .i64 x21, .int .i64 x22, .int .i64 x23, .int .i64 x24, .int .i64 x25, .int .i64 x26, .int .i64 x27] C T' l (.slice A9 l.length c9) E)
         case first =>
          cases m with
          | false =>
           have hE : E = 2 ∧ C = 0 ∧ T' = 0 ∧ l = [] := HCS.out.elim (fun h => absurd h.1 (by decide)) (fun h => ⟨h.2.1, h.2.2.2.2.2⟩)
           have HE := Lib.hid hE
           clear hE
           go_wp2_with fail
           go_meet
           obtain ⟨e1, e2, e3, e4⟩ := HE.out
           exact ⟨by rw [e1], HB.out, BX.out, BO.out, _, HQ.out, _, by rw [e2, e3]; exact BW.out, _, by rw [e4]; exact Kd.R_nil _ _ wb4 0 (fun _ => True)⟩
          | true =>
           have hR : postroadref07_Terms.f x25 x26 = some (C, T', l) ∧ E = 0 := HCS.out.elim (fun h => ⟨h.2.2.2.2.2, h.2.1⟩) (fun h => absurd h.1 (by decide))
           have HR := Lib.hid hR.1
           have HE := Lib.hid hR.2
           clear hR
           have k_25 : wb4.cell? ⟨gx, 25, none⟩ = some (.int .i64 x25) := (blk_cell BX.out 25).trans rfl
           have k_26 : wb4.cell? ⟨gx, 26, none⟩ = some (.int .i64 x26) := (blk_cell BX.out 26).trans rfl
           go_wp2_with (go_at_call 71; refine (postroadref07_Terms.calls x25 x26 _ _ _ _ HR.out).mono ?_; rintro e wc4 ⟨v8, rfl, hr, hb⟩; have n0_ := Lib.hid (below_step HB.out hb); have n1_ := Lib.hid (blk_below BX.out hb); have n2_ := Lib.hid (Kd.R_below HQ.out hb); have n3_ := Lib.hid (blk_below BO.out hb); have n4_ := Lib.hid (blk_below BW.out hb); clear HB BX HQ BO BW; have HB := n0_; have BX := n1_; have HQ := n2_; have BO := n3_; have BW := n4_; clear n0_ n1_ n2_ n3_ n4_; obtain ⟨A8, c8, rfl, -, -⟩ := Kd.R_reads hr; have HQ8 := Lib.hid hr; clear hr hb; clear k_25 k_26; have q_0 : wc4.cell? ⟨go + 1, 0, none⟩ = some (.int .i64 0) := (blk_cell BW.out 0).trans rfl; have q_1 : wc4.cell? ⟨go + 1, 1, none⟩ = some (.int .i64 0) := (blk_cell BW.out 1).trans rfl; have q_2 : wc4.cell? ⟨go + 1, 2, none⟩ = some (.slice none 0 0) := (blk_cell BW.out 2).trans rfl; have f_0 : wc4.frozen? ⟨go + 1, 0, none⟩ = false := blk_frozen BW.out 0; have f_1 : wc4.frozen? ⟨go + 1, 1, none⟩ = false := blk_frozen BW.out 1; have f_2 : wc4.frozen? ⟨go + 1, 2, none⟩ = false := blk_frozen BW.out 2)
           go_meet
           have hgx : gx ≠ go + 1 := by have := GG.out; omega
           have hgo : go ≠ go + 1 := by omega
           have hle : w.heap.size ≤ go + 1 := by have := LW.out; omega
           exact ⟨by rw [HE.out], below_set (below_set (below_set HB.out hle) hle) hle, blk_far (p := ⟨go + 1, 2, none⟩) (blk_far (p := ⟨go + 1, 1, none⟩) (blk_far (p := ⟨go + 1, 0, none⟩) BX.out hgx (.int .i64 C)) hgx (.int .i64 T')) hgx (.slice A8 l.length c8), blk_far (p := ⟨go + 1, 2, none⟩) (blk_far (p := ⟨go + 1, 1, none⟩) (blk_far (p := ⟨go + 1, 0, none⟩) BO.out hgo (.int .i64 C)) hgo (.int .i64 T')) hgo (.slice A8 l.length c8), _, Kd.R_set (Kd.R_set (Kd.R_set (HQ.out) (BW.out) (by decide) 0 (.int .i64 C)) (blk_put (cs' := #[.int .i64 C, .int .i64 0, .slice none 0 0]) (BW.out) 0 (.int .i64 C) rfl) (by decide) 1 (.int .i64 T')) (blk_put (cs' := #[.int .i64 C, .int .i64 T', .slice none 0 0]) (blk_put (cs' := #[.int .i64 C, .int .i64 0, .slice none 0 0]) (BW.out) 0 (.int .i64 C) rfl) 1 (.int .i64 T') rfl) (by decide) 2 (.slice A8 l.length c8), _, blk_put (cs' := #[.int .i64 C, .int .i64 T', .slice A8 l.length c8]) (blk_put (cs' := #[.int .i64 C, .int .i64 T', .slice none 0 0]) (blk_put (cs' := #[.int .i64 C, .int .i64 0, .slice none 0 0]) (BW.out) 0 (.int .i64 C) rfl) 1 (.int .i64 T') rfl) 2 (.slice A8 l.length c8) rfl, _, Kd.R_set (Kd.R_set (Kd.R_set (HQ8.out) (BW.out) (by decide) 0 (.int .i64 C)) (blk_put (cs' := #[.int .i64 C, .int .i64 0, .slice none 0 0]) (BW.out) 0 (.int .i64 C) rfl) (by decide) 1 (.int .i64 T')) (blk_put (cs' := #[.int .i64 C, .int .i64 T', .slice none 0 0]) (blk_put (cs' := #[.int .i64 C, .int .i64 0, .slice none 0 0]) (BW.out) 0 (.int .i64 C) rfl) 1 (.int .i64 T') rfl) (by decide) 2 (.slice A8 l.length c8)⟩
         case rest =>
          obtain ⟨rfl, hB_, hX_, hO_, b9, hQ_, v8, hW_, b8, hQ8_⟩ := hcut
          obtain ⟨wr4, hwc⟩ : ∃ W, W = wc := ⟨_, rfl⟩
          subst hwc
          clear HB BX BO BW HQ
          have HB := Lib.hid hB_
          have BX := Lib.hid hX_
          have BO := Lib.hid hO_
          have BW := Lib.hid hW_
          obtain ⟨A8, c8, rfl, hc8, hC8⟩ := Kd.R_reads hQ8_
          obtain ⟨A9', c9', he, hc9, hC9⟩ := Kd.R_reads hQ_
          injection he with he1 he2 he3
          subst he1 he3
          clear he2 hQ_ hQ8_ hB_ hX_ hO_ hW_
          have HC8 := Lib.hid hC8
          have HC9 := Lib.hid hC9
          have Hc8 := Lib.hid hc8
          have Hc9 := Lib.hid hc9
          clear hC8 hC9 hc8 hc9
          have hEE : (E != E) = false := by simp
          have o_0 : wr4.cell? ⟨go, 0, none⟩ = some (.int .i64 C) := (blk_cell BO.out 0).trans rfl
          have o_1 : wr4.cell? ⟨go, 1, none⟩ = some (.int .i64 T') := (blk_cell BO.out 1).trans rfl
          have o_2 : wr4.cell? ⟨go, 2, none⟩ = some (.slice A9 l.length c9) := (blk_cell BO.out 2).trans rfl
          have p_0 : wr4.cell? ⟨go + 1, 0, none⟩ = some (.int .i64 C) := (blk_cell BW.out 0).trans rfl
          have p_1 : wr4.cell? ⟨go + 1, 1, none⟩ = some (.int .i64 T') := (blk_cell BW.out 1).trans rfl
          have p_2 : wr4.cell? ⟨go + 1, 2, none⟩ = some (.slice A8 l.length c8) := (blk_cell BW.out 2).trans rfl
          go_upto_region 44 with (first | (go_at_call 13; refine (postroadref07_Same.calls ks C T' A9 c9 l C T' A8 c8 l true _ HC9.out Hc9.out HC8.out Hc8.out HSF.out).mono ?_; rintro e we4 ⟨rfl, hb⟩; have n0_ := Lib.hid (below_step HB.out hb); have n1_ := Lib.hid (blk_below BX.out hb); have n2_ := Lib.hid (Kd.C_below HC9.out hb); have n3_ := Lib.hid (blk_below BO.out hb); clear HB BX HC9 HC8 BO BW; have HB := n0_; have BX := n1_; have HC9 := n2_; have BO := n3_; clear n0_ n1_ n2_ n3_ hb o_0 o_1 o_2 p_0 p_1 p_2 hEE; have o_0 : we4.cell? ⟨go, 0, none⟩ = some (.int .i64 C) := (blk_cell BO.out 0).trans rfl; have o_1 : we4.cell? ⟨go, 1, none⟩ = some (.int .i64 T') := (blk_cell BO.out 1).trans rfl; have o_2 : we4.cell? ⟨go, 2, none⟩ = some (.slice A9 l.length c9) := (blk_cell BO.out 2).trans rfl) | (go_at_call 69; refine (object_AsTerms.calls C T' A9 c9 l _ _ _ _ HC9.out Hc9.out HAF.out).mono ?_; rintro e wf4 ⟨rfl, hb⟩; have n0_ := Lib.hid (below_step HB.out hb); have n1_ := Lib.hid (blk_below BX.out hb); clear HB BX HC9 BO; have HB := n0_; have BX := n1_; clear n0_ n1_ hb o_0 o_1 o_2))
          obtain ⟨wg4, hW⟩ : ∃ W, wf4.alloc (.cells #[.int .i64 y0, .int .i64 y1] 68) = W := ⟨_, rfl⟩
          have hb : Below wf4.heap.size wf4 wg4 := hW ▸ (Below.refl _ _).alloc (Nat.le_refl _) _
          have BY := Lib.hid (show wg4.heap[wf4.heap.size]? = some (.cells #[.int .i64 y0, .int .i64 y1] 68 (0, 0)) from hW ▸ blk_new _ _)
          have n0_ := Lib.hid (below_step HB.out hb)
          have n1_ := Lib.hid (blk_below BX.out hb)
          clear HB BX
          have HB := n0_
          have BX := n1_
          clear n0_ n1_ hb
          rw [hW]
          clear hW
          generalize wf4.heap.size = gy at *
          go_cut [292] from 268 to 291 (fun v wz => v = .bool false ∧ wz = wg4)
          case first =>
           have hcs := HCS.out
           clear HCS HXF HMF HSF HAF
           rcases hcs with ⟨rfl, rfl, rfl, rfl, rfl, -⟩ | ⟨rfl, rfl, rfl, rfl, rfl, rfl, rfl, rfl⟩
           ·clear GG LW
            have k_25 : wg4.cell? ⟨gx, 25, none⟩ = some (.int .i64 x25) := (blk_cell BX.out 25).trans rfl
            have k_26 : wg4.cell? ⟨gx, 26, none⟩ = some (.int .i64 x26) := (blk_cell BX.out 26).trans rfl
            have y_0 : wg4.cell? ⟨gy, 0, none⟩ = some (.int .i64 x25) := (blk_cell BY.out 0).trans rfl
            have y_1 : wg4.cell? ⟨gy, 1, none⟩ = some (.int .i64 x26) := (blk_cell BY.out 1).trans rfl
            go_wp2
            go_meet
            exact ⟨rfl, rfl⟩
           ·clear GG LW
            have k_25 : wg4.cell? ⟨gx, 25, none⟩ = some (.int .i64 x25) := (blk_cell BX.out 25).trans rfl
            have k_26 : wg4.cell? ⟨gx, 26, none⟩ = some (.int .i64 x26) := (blk_cell BX.out 26).trans rfl
            have y_0 : wg4.cell? ⟨gy, 0, none⟩ = some (.int .i64 0) := (blk_cell BY.out 0).trans rfl
            have y_1 : wg4.cell? ⟨gy, 1, none⟩ = some (.int .i64 0) := (blk_cell BY.out 1).trans rfl
            go_wp2
            go_meet
            exact ⟨rfl, rfl⟩
          case rest =>
           obtain ⟨rfl, rfl⟩ := hcut
           obtain ⟨wn4, hwc⟩ : ∃ W, W = wc := ⟨_, rfl⟩
           subst hwc
           clear HCS HXF HMF HSF HAF GG LW BY
           go_wp2
           go_ret
           exact ⟨rfl, HB.out⟩
end Go.Proofs.YtecghmlojllkdaaGreat.P

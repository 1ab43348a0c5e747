import Derived.Test.YtecghmlojllkdaaGreatTl34
import Derived.Deep.Slices
import Derived.Deep.Strs
import Derived.DataReads
import Derived.Lib.SmallJoins
import Derived.Test.YtecghmlojllkdaaGreatTl35
import Derived.Test.YtecghmlojllkdaaGreatTl36
namespace Go.Proofs.YtecghmlojllkdaaGreat.P
open Go.RowKit Go.ChangeShapes Go.WideShapes Go.Deep Go.Proofs.YtecghmlojllkdaaGreatW.PrintWords Go.Proofs.YtecghmlojllkdaaGreatW.PrintLast
set_option linter.unusedVariables false
set_option linter.unusedSimpArgs false
set_option maxRecDepth 100000
def flatB (P : Program) : Nat → TypeId → Bool
 | 0, _ => false
 | n + 1, t => match P.underlying t with
  | some (.int .i64) => true
  | some (.struct fs) => fs.toList.all (fun f => flatB P n f.type) && (List.range (P.cellsOf t)).all fun j => fs.toList.any fun f => decide (f.offset ≤ j ∧ j < f.offset + P.cellsOf f.type)
  | _ => false
theorem flat_trod {P : Program} {H : Type} {enc : TypeId × Value → H} {w : World} {base : Nat} {spare : Nat → Bool} {held : Bool} : ∀ (k : Nat) (t : TypeId) (n : Nat) (cs : List Value) (x : DataW H × List MemPlace), flatB P k t = true →
  DataW.trod enc P w base spare held n t cs = some x → ∀ v ∈ cs, ∃ i, v = .int .i64 i := by
 intro k
 induction k with
 | zero => intro t n cs x h; cases h
 | succ k ih =>
  intro t n cs x hf h
  unfold flatB at hf
  split at hf
  ·rename_i hu
   obtain ⟨i, e, _, _⟩ := DataW.trod_int hu h
   subst e
   intro v hv
   simp at hv
   exact ⟨i, hv⟩
  ·rename_i fs hu
   simp only [Bool.and_eq_true, List.all_eq_true] at hf
   obtain ⟨hf1, hf2⟩ := hf
   obtain ⟨xs, m, _, hx, hl, hlen, hfs⟩ := DataW.trod_struct hu h
   intro v hv
   obtain ⟨j, hj, rfl⟩ := List.getElem_of_mem hv
   have hc := hf2 j (by simp; omega)
   simp only [List.any_eq_true, decide_eq_true_eq] at hc
   obtain ⟨f, hfm, h1, h2⟩ := hc
   obtain ⟨i, hi, hfi⟩ := List.getElem_of_mem hfm
   have hft := hfs i f (by rw [← hfi]; simp)
   rw [List.getElem?_eq_getElem (show i < xs.length by simp at hi; omega)] at hft
   have := ih f.type m _ _ (hf1 f hfm) hft
   refine this _ ?_
   have hd : cs[j] = (cs.drop f.offset)[j - f.offset]'(by simp; omega) := by simp [show f.offset + (j - f.offset) = j by omega]
   rw [hd]
   exact List.mem_take_iff_getElem.2 ⟨j - f.offset, by simp; omega, rfl⟩
  ·cases hf
theorem open_things {H : Type} {enc : TypeId × Value → H} {w : World} {base : Nat} {spare : Nat → Bool} {held : Bool} {r : Reach} {b0 : Nat} {v : Value} {d : DataW H} {p : List MemPlace} (hv : Value.okWide Tryz.prog w r b0 70 v) (h : DataW.Trod enc Tryz.prog w base spare held 70 v d p) :
  ∃ f : Nat → Int, v = .agg #[.int .i64 (f 0), .int .i64 (f 1), .int .i64 (f 2), .int .i64 (f 3), .int .i64 (f 4), .int .i64 (f 5), .int .i64 (f 6), .int .i64 (f 7), .int .i64 (f 8), .int .i64 (f 9), .int .i64 (f 10), .int .i64 (f 11), .int .i64 (f 12), .int .i64 (f 13), .int .i64 (f 14), .int .i64 (f 15), .int .i64 (f 16), .int .i64 (f 17), .int .i64 (f 18), .int .i64 (f 19), .int .i64 (f 20), .int .i64 (f 21), .int .i64 (f 22), .int .i64 (f 23), .int .i64 (f 24), .int .i64 (f 25), .int .i64 (f 26), .int .i64 (f 27)] := by
 obtain ⟨cs, rfl, hsz⟩ := okWide_struct Tryz.underlying70 hv
 obtain ⟨fuel, hf⟩ := h
 have hfl := flat_trod 5 70 fuel _ _ (by kernel_rfl) hf
 have hn : cs.size = 28 := hsz.trans (by kernel_rfl)
 have hch : ∀ j : Nat, ∃ i : Int, j < 28 → cs[j]? = some (.int .i64 i) := by
  intro j
  by_cases hj : j < 28
  ·obtain ⟨i, hi⟩ := hfl (cs[j]'(by omega)) (by simp [Value.cells])
   exact ⟨i, fun _ => by rw [Array.getElem?_eq_getElem (by omega), hi]⟩
  ·exact ⟨0, fun h => absurd h hj⟩
 obtain ⟨f, hfj⟩ := Classical.axiomOfChoice hch
 refine ⟨f, congrArg Value.agg ?_⟩
 apply Array.ext_getElem?
 intro j
 by_cases hj : j < 28
 ·rw [hfj j hj]
  match j, hj with
  | 0, _ => rfl
  | 1, _ => rfl
  | 2, _ => rfl
  | 3, _ => rfl
  | 4, _ => rfl
  | 5, _ => rfl
  | 6, _ => rfl
  | 7, _ => rfl
  | 8, _ => rfl
  | 9, _ => rfl
  | 10, _ => rfl
  | 11, _ => rfl
  | 12, _ => rfl
  | 13, _ => rfl
  | 14, _ => rfl
  | 15, _ => rfl
  | 16, _ => rfl
  | 17, _ => rfl
  | 18, _ => rfl
  | 19, _ => rfl
  | 20, _ => rfl
  | 21, _ => rfl
  | 22, _ => rfl
  | 23, _ => rfl
  | 24, _ => rfl
  | 25, _ => rfl
  | 26, _ => rfl
  | 27, _ => rfl
  | n + 28, h => exact absurd h (by omega)
 ·rw [Array.getElem?_eq_none (by omega), Array.getElem?_eq_none (by simp; omega)]
end Go.Proofs.YtecghmlojllkdaaGreat.P
namespace Go.Proofs.YtecghmlojllkdaaGreat.P
open Go.RowKit Go.Proofs.YtecghmlojllkdaaGreatW.PrintWords Go.Proofs.YtecghmlojllkdaaGreatW.PrintLast
set_option linter.unusedVariables false
set_option linter.unusedSimpArgs false
set_option maxRecDepth 100000
set_option maxHeartbeats 6400000 in
theorem tells_true (x0 x1 x2 x3 x4 x5 x6 x7 x8 x9 x10 x11 x12 x13 x14 x15 x16 x17 x18 x19 x20 x21 x22 x23 x24 x25 x26 x27 : Int) (w : World) : Calls Tryz.prog 4 #[.agg #[.int .i64 x0, .int .i64 x1, .int .i64 x2, .int .i64 x3, .int .i64 x4, .int .i64 x5, .int .i64 x6, .int .i64 x7, .int .i64 x8, .int .i64 x9, .int .i64 x10, .int .i64 x11, .int .i64 x12, .int .i64 x13, .int .i64 x14, .int .i64 x15, .int .i64 x16, .int .i64 x17, .int .i64 x18, .int .i64 x19, .int .i64 x20, .int .i64 x21, .int .i64 x22, .int .i64 x23, .int .i64 x24, .int .i64 x25, .int .i64 x26, .int .i64 x27]] w fun e w' => e = .returned (.bool true) ∧ Below w.heap.size w w' := by
 have HB := Lib.hid (Below.refl w.heap.size w)
 go_enter Tryz.func4, Tryz.ntmps4
 go_wp2_with (first
  | ((with_reducible refine gate_dst (N := 1) rfl ?_); refine box_event ?hg (N := 1) ?hd (cs := #[.int .i64 x0, .int .i64 x1, .int .i64 x2, .int .i64 x3, .int .i64 x4, .int .i64 x5, .int .i64 x6, .int .i64 x7, .int .i64 x8, .int .i64 x9, .int .i64 x10, .int .i64 x11, .int .i64 x12, .int .i64 x13, .int .i64 x14, .int .i64 x15, .int .i64 x16, .int .i64 x17, .int .i64 x18, .int .i64 x19, .int .i64 x20, .int .i64 x21, .int .i64 x22, .int .i64 x23, .int .i64 x24, .int .i64 x25, .int .i64 x26, .int .i64 x27]) (t := 70) ?hr ?_; (case hd => rfl); (case hg => rfl); (case hr => first | (go_simp; done) | (go_simp; rfl)); intro gx hg w1 hbox hb; have n0_ := Lib.hid (below_step HB.out hb); clear HB ; have HB := n0_; clear n0_; have BX := Lib.hid hbox; clear hb hbox hg)
  | ((with_reducible refine gate_dst (N := 3) rfl ?_); refine wpList_load_row rfl 70 (.tmp 1) rfl gx rfl 70 _ (0, 0) _ BX.out Tryz.underlying70 rfl (by kernel_rfl) ?_)
  | ((with_reducible refine gate_dst (N := 6) rfl ?_); refine gate_guard (by rfl) ?_; refine wpList_load_row rfl 70 (.tmp 1) rfl gx rfl 70 _ (0, 0) _ BX.out Tryz.underlying70 rfl (by kernel_rfl) ?_)
  | (go_at_call 31; refine (places_true x0 x1 x2 x3 x4 x5 x6 x7 x8 x9 x10 x11 x12 x13 x14 x15 x16 x17 x18 x19 x20 x21 x22 x23 x24 x25 x26 x27 _).mono ?_; rintro e w2 ⟨rfl, hb⟩; have n0_ := Lib.hid (below_step HB.out hb); have n1_ := Lib.hid (blk_below BX.out hb); clear HB BX; have HB := n0_; have BX := n1_; clear n0_ n1_ hb)
  | (go_at_call 32; refine (flows_true x0 x1 x2 x3 x4 x5 x6 x7 x8 x9 x10 x11 x12 x13 x14 x15 x16 x17 x18 x19 x20 x21 x22 x23 x24 x25 x26 x27 _).mono ?_; rintro e w3 ⟨rfl, hb⟩; have n0_ := Lib.hid (below_step HB.out hb); clear HB; have HB := n0_; clear n0_ hb)
  | (go_at_call 10; refine (law_known.calls true _ rfl).mono ?_; rintro e w4 ⟨rfl, hb⟩; have n0_ := Lib.hid (below_step HB.out hb); clear HB; have HB := n0_; clear n0_ hb))
 go_ret
 exact ⟨rfl, HB.out⟩
end Go.Proofs.YtecghmlojllkdaaGreat.P

import Derived.Test.YtecghmlojllkdaaB3
import Derived.Test.YtecghmlojllkdaaB4
import Derived.Maps.OwnIn
namespace Go.Proofs.Ytecghmlojllkdaa.P
open Go.RowKit Go.Shelf Go.Proofs.Ytecghmlojllkdaa.RangePanic Go.Proofs.YtecghmlojllkdaaW.PrintWords Go.Proofs.YtecghmlojllkdaaW.PrintLast Go.Proofs.YtecghmlojllkdaaW.PrintMore
set_option linter.unusedVariables false

attribute [local go_sem] Oper.semAt_some
set_option linter.unusedSimpArgs false

/-- append(v, x) inside a fence. -/
theorem S_appendIn {F : Fence} {n : Nat} {P : Program} {ops : Array Oper} {rest : List Oper} {o : Oper} {a : Act} {Q : Exit → Act → World → Prop} {α : Type} (d : Kd α) {W : World} (base : Nat) (hgd : o.guard = none) (s x : Operand) (t e : TypeId) (z : Value) (bytes : Nat)
    (ho : o.op = .call { callee := .builtin .append, args := #[s, x], argTypes := #[t, t] })
    (ht : P.underlying t = some (.slice e)) (hinfo : (P.info? e).map (fun i => (i.zero, i.size, i.bytes)) = some (some z, d.sz, bytes)) (hz : z.cells.size = d.sz) (hs0 : 0 < d.sz) (hb0 : 0 < bytes)
    (v : Value) (xs : List α) (p : α) (cs : List Value) (ok okp : Nat → Prop) (hs : a.eval s = v) (hx : a.eval x = .slice (some ⟨W.heap.size, 0, none⟩) 1 1) (hp : d.M W base okp p cs) (hokp : ∀ k, okp k → ok k ∧ some k ≠ v.ownBlock) (hfresh : ∀ k, W.heap.size ≤ k → ok k)
    (HO : Kd.S d e W base (fun k => ok k ∧ ¬ okp k) v xs) (hbase : base ≤ W.heap.size) (hl : (xs.length + 1) * bytes ≤ 140737488355328)
    (h : ∀ v1 w1, Kd.S d e w1 base ok v1 (xs ++ [p]) → W.grownBy w1 v.ownBlock → wpListIn F n P ops Q rest (a.put o.dst v1) w1) :
    wpListIn F n P ops Q (o :: rest) a (W.alloc (.cells cs.toArray e)) := by
  obtain ⟨i0, hi, hzz⟩ := Option.map_eq_some_iff.1 hinfo
  simp only [Prod.mk.injEq] at hzz
  obtain ⟨hz0, hz1, hz2⟩ := hzz
  obtain ⟨f, hf, hR⟩ := Kd.S_tag HO xs.length okp (fun _ hk h2 => h2.2 hk)
  obtain ⟨h0, inner, hown, hr⟩ := Kd.R_mono hR (ok' := ok) (fun _ hk => hk.1)
  rw [List.length_zipIdx] at hown
  have hlen : xs.length + 1 ≤ 140737488355328 := Nat.le_trans (Nat.le_mul_of_pos_right _ hb0) hl
  have hcl := d.K_len (d.K_of_M hp)
  refine wpListIn_append_own_at (W.alloc (.cells cs.toArray e)) hgd s x t ho base e i0 z d.sz bytes ht hi hz0 hz1 hz2 hz hs0 v xs.length inner hs (hown.alloc _) ⟨W.heap.size, 0, none⟩ 1 1 cs hx (by rw [hcl]; simp)
    (by simpa using World.news_of_block (cs := cs.toArray) (t := e) (fr := (0, 0)) (World.alloc_heap_new W (.cells cs.toArray e))) (d.K_one (d.K_of_M hp)) (by simp only [maxLen]; omega) hl (by simp; omega) ?_
  intro v1 w1 hown1 hg1 _ hat1
  have hg := World.grownBy.trans (World.grownBy_alloc W _ _) hg1
  have hat : v1.ownBlock = v.ownBlock ∨ ∃ b, v1.ownBlock = some b ∧ W.heap.size ≤ b := by
    rcases hat1 with hat | hat
    · exact .inl hat
    · exact .inr ⟨_, hat, by simp⟩
  have hfin := Kd.R_appended (d := Kd.tag f d) (p := (p, xs.length)) h0 hr (d.M_mono (fun k hk => ⟨hk, hf k hk⟩) hp) hokp hfresh (by rw [List.length_zipIdx]; exact hown1) hg hat
  rw [← Kd.zip_snoc] at hfin
  exact h v1 w1 ⟨f, hfin⟩ hg

/-- What object.Parse gives. -/
def parseO (l : List Int) : List S32 × Int :=
  if 65536 < l.length then ([], 3)
  else if (scanAt l (l.length + 1) 0).2 = true ∧ (scanAt l (l.length + 1) 0).1.length ≤ 40 then ((scanAt l (l.length + 1) 0).1, 0)
  else ([], 170)

/-- Between two rounds. -/
def InvP (w : World) (pre : List S32) (W : World) : Prop :=
  (∃ v, Boxed W w.heap.size 22 v ∧ Kd.S k32 32 W w.heap.size (fun k => w.heap.size + 5 < k) v pre) ∧ Boxed W (w.heap.size + 1) 26 (.int .i64 0) ∧ Below w.heap.size w W ∧ pre.length ≤ 40
/-- Behind a panic. -/
def PanP (l : List Int) (w : World) (ch : List PanicEntry) (W : World) : Prop :=
  ch = failCh ∧ parseO l = ([], 170) ∧ (∃ v, Boxed W w.heap.size 22 v ∧ v.cells.size = 1) ∧ Boxed W (w.heap.size + 1) 26 (.int .i64 0) ∧ Below w.heap.size w W

theorem InvP.kept {w A B : World} {pre : List S32} {row : Option Nat} (h : InvP w pre A) (hg : A.grownBy B row) (hr : ∀ r, row = some r → w.heap.size + 2 ≤ r ∧ (r ≤ w.heap.size + 5 ∨ ∃ o : Obj, A.heap[r]? = some o ∧ o.isCells = false)) : InvP w pre B := by
  obtain ⟨⟨v, hb, hS⟩, hb2, hB, hl⟩ := h
  refine ⟨⟨v, hb.kept hg (fun e => by have := (hr _ e.symm).1; omega), ?_⟩, hb2.kept hg (fun e => by have := (hr _ e.symm).1; omega), hB.grown hg hB.size (fun k e => by have := (hr _ e).1; omega), hl⟩
  refine Kd.S_mono (Kd.S_grown (Kd.S_bound hS) hg ?_) (fun k hk => hk.1)
  rintro k ⟨hk, _, _, q, _, cells, hc⟩ e
  rcases (hr k e.symm).2 with h | ⟨o, ho, hoc⟩
  · omega
  · rw [hc] at ho; cases ho; cases hoc

theorem parseO_small (l : List Int) (h : ¬ 65536 < l.length) (hx : (scanAt l (l.length + 1) 0).2 = false ∨ 40 < (scanAt l (l.length + 1) 0).1.length) : parseO l = ([], 170) := by
  unfold parseO
  rw [if_neg h, if_neg]
  rintro ⟨h1, h2⟩
  rcases hx with hx | hx
  · rw [h1] at hx; cases hx
  · omega

set_option maxRecDepth 100000 in
set_option maxHeartbeats 4000000 in
theorem parse_in (F : Fence) (n : Nat) (h11 : F.fn 11) (h22 : F.fn 22) (h21 : F.fn 21) (h36 : F.fn 36) (h37 : F.fn 37) (h34 : F.fn 34) (h23 : F.fn 23) (hFf : ∀ f, F.fn f → ∃ fn, Try.prog.funcs[f]? = some fn) (hro : F.round = none) (hn : 6 ≤ n)
    (l : List Int) (hby : Bytes l) (A0 : Option Addr) (c0 : Nat) (w : World) (hr0 : Kd.C (Kd.int .u8) w A0 l.length l) :
    CallsIn F n Try.prog 11 #[.slice A0 l.length c0] w fun e w' => ∃ v, e = .returned (.tuple #[v, .int .i64 (parseO l).2]) ∧ Kd.S k32 32 w' w.heap.size (fun _ => True) v (parseO l).1 ∧ Below w.heap.size w w' := by
  refine callsIn_of_wp_marks Try.func11 rfl h11 ?_ hro
  simp only [Try.ntmps11, List.size_toArray, List.length_cons, List.length_nil, Nat.reduceAdd, Nat.reduceSub, Array.replicate_succ, Array.replicate_zero, List.push_toArray, List.append_toArray, List.nil_append, List.cons_append]
  have h1 : 1 ≤ n := by omega
  by_cases hlen : 65536 < l.length
  · have hd : decide (65536 < (l.length : Int)) = true := by simp; omega
    rw [show parseO l = ([], 3) by simp [parseO, hlen]]
    gi_wp2
    refine ⟨.tuple #[.slice none 0 0, .int .i64 3], by simp [results, Try.results11, go_sem], _, rfl, Kd.S_nil _ _ _ _ _, ?_⟩
    exact ((Below.refl _ w).alloc (Nat.le_refl _) _).alloc (by simp) _
  · have hd : decide (65536 < (l.length : Int)) = false := by simp; omega
    gi_wp2_with (gi_at_call 22; refine (maker_in F _ h22 hro _ A0 _ c0 rfl _).mono ?_; rintro e w' ⟨rfl, rfl⟩)
    have hb2 : Below w.heap.size w (((w.alloc (.cells #[.slice none 0 0] 22)).alloc (.cells #[.int .i64 0] 26)).alloc (.cells #[.slice A0 l.length c0] 25)) := (((Below.refl _ w).alloc (Nat.le_refl _) _).alloc (by simp) _).alloc (by simp; omega) _
    have bR1 : Boxed (((w.alloc (.cells #[.slice none 0 0] 22)).alloc (.cells #[.int .i64 0] 26)).alloc (.cells #[.slice A0 l.length c0] 25)) w.heap.size 22 (.slice none 0 0) := ((Boxed.new w 22 _).alloc _).alloc _
    have bR2 : Boxed (((w.alloc (.cells #[.slice none 0 0] 22)).alloc (.cells #[.int .i64 0] 26)).alloc (.cells #[.slice A0 l.length c0] 25)) (w.heap.size + 1) 26 (.int .i64 0) := by
      have := (Boxed.new (w.alloc (.cells #[.slice none 0 0] 22)) 26 (.int .i64 0)).alloc (.cells #[.slice A0 l.length c0] 25)
      rwa [World.size_alloc] at this
    have bBn : Boxed (((w.alloc (.cells #[.slice none 0 0] 22)).alloc (.cells #[.int .i64 0] 26)).alloc (.cells #[.slice A0 l.length c0] 25)) (w.heap.size + 1 + 1) 25 (.slice A0 l.length c0) := by
      have := Boxed.new ((w.alloc (.cells #[.slice none 0 0] 22)).alloc (.cells #[.int .i64 0] 26)) 25 (.slice A0 l.length c0)
      rwa [World.size_alloc, World.size_alloc] at this
    obtain ⟨w2, hw2⟩ : ∃ w2, ((w.alloc (.cells #[.slice none 0 0] 22)).alloc (.cells #[.int .i64 0] 26)).alloc (.cells #[.slice A0 l.length c0] 25) = w2 := ⟨_, rfl⟩
    have hz2 : w2.heap.size = w.heap.size + 3 := by rw [← hw2]; simp
    rw [hw2] at hb2 bR1 bR2 bBn ⊢
    clear hw2
    have hA : ∀ ad, A0 = some ad → 0 < l.length → ad.block < w.heap.size := by
      intro ad e hl0
      obtain ⟨ad', e', hx⟩ := Kd.at_int hr0 0 (by omega) (by omega)
      rw [e] at e'; cases e'
      exact World.block_lt_of_cell? w _ hx
    refine wpIn_rangeFunc_P hro h1 (gf := 36) (lb := #[.pointer (some ⟨w.heap.size + 1 + 1, 0, none⟩)]) rfl h36 (enters_of Try.func36 (by kernel_rfl) rfl) hFf
      (objects_in F (n - 1) h36 h37 h34 h23 hro (by omega) l (by omega) hby A0 c0 (w.heap.size + 1 + 1) w w2 hb2 (by omega) bBn.cell hA hr0)
      ?hKb (Below.refl _ _) rfl (InvP w) (PanP l w) ?hI ?hPn ⟨⟨_, bR1, Kd.S_nil _ _ _ _ _⟩, bR2, hb2, by simp⟩ ?hround ?hdone ?hpan
    case hKb =>
      rintro A W o ⟨k1, k2, k3⟩
      refine ⟨(World.putObj_heap_other (by omega)).trans k1, (World.putObj_heap_other (by omega)).trans k2, k3.trans ⟨rfl, rfl, rfl, (grownBy_putObj' W _ o).size, fun k hk => World.putObj_heap_other (by omega)⟩⟩
    case hI =>
      intro pre A B row hi hg hr
      refine hi.kept hg (fun r e => ?_)
      rcases hr r e with ⟨h, ho⟩ | h
      · exact ⟨by omega, .inr ho⟩
      · exact ⟨by omega, .inl (by omega)⟩
    case hPn =>
      rintro pre A ch ⟨⟨v, hb, hS⟩, hb', hB, _⟩ ⟨rfl, hsc⟩
      refine ⟨rfl, parseO_small l hlen (.inl hsc), ⟨v, hb, ?_⟩, hb', hB⟩
      obtain ⟨A', c', rfl⟩ := Kd.S_slice hS
      rfl
    case hround =>
      rintro lr pre x v W0 W hlr ⟨⟨v0, hb10, hS0⟩, hb20, hB0, hle⟩ hgv hg0 hat ⟨u, rfl, hu⟩
      obtain ⟨Au, cu, rfl⟩ := Kd.R_slice hu
      have hWs : W0.heap.size ≤ W.heap.size := hg0.size
      have h12 : 1 ≤ n - 1 - 1 := by omega
      gi_wp2
      refine ⟨(KeepsOthers.alloc _ _).from _, fun W2 hg2 => ?_⟩
      have hz1 : (W.alloc (.cells #[.int .i64 x.f0, .int .i64 x.f1, .slice Au x.f2.length cu] 32)).heap.size = W.heap.size + 1 := by simp
      have hz2' : W.heap.size + 1 ≤ W2.heap.size := by have := hg2.size; omega
      have hSb : Kd.S k32 32 W2 w.heap.size (fun k => w.heap.size + 5 < k ∧ ¬ W0.heap.size ≤ k) v0 pre :=
        Kd.S_mono (Kd.S_grown (Kd.S_alloc (Kd.S_grown (Kd.S_bound hS0) hg0 (fun k hk e => by have := hk.1; injection e with e; omega)) (.cells #[.int .i64 x.f0, .int .i64 x.f1, .slice Au x.f2.length cu] 32)) hg2 (fun k hk e => by have := hk.1; injection e with e; omega))
          (fun k hk => ⟨hk.1, by have := hk.2.2.1; omega⟩)
      have hS := Kd.S_mono hSb (ok' := fun k => w.heap.size + 5 < k) (fun k hk => hk.1)
      have hb1 : Boxed W2 w.heap.size 22 v0 := ((hb10.kept hg0 (by intro e; injection e with e; omega)).alloc _).kept hg2 (by intro e; injection e with e; omega)
      have hb2' : Boxed W2 (w.heap.size + 1) 26 (.int .i64 0) := ((hb20.kept hg0 (by intro e; injection e with e; omega)).alloc _).kept hg2 (by intro e; injection e with e; omega)
      have hB : Below w.heap.size w W2 := ((hB0.grown hg0 hB0.size (fun k e => by injection e with e; omega)).alloc (by have := hB0.size; omega) _).grown hg2 (by have := hB0.size; omega) (fun k e => by injection e with e; omega)
      have hBW : Below w.heap.size W W2 := ((Below.refl _ W).alloc (by have := hB0.size; omega) _).grown hg2 (by have := hB0.size; omega) (fun k e => by injection e with e; omega)
      have hWk : ∀ k, k < W.heap.size → k ≠ w.heap.size + 4 → W2.heap[k]? = W.heap[k]? := fun k hk hne => (hg2.block k (by omega) (by intro e; injection e with e; omega)).trans (Below.heap_alloc _ _ _ hk)
      have hT : W2.heap[W.heap.size]? = some (.cells #[.int .i64 x.f0, .int .i64 x.f1, .slice Au x.f2.length cu] 32 (0, 0)) := blk_grown (World.alloc_heap_new W _) hg2 (by intro e; injection e with e; omega)
      have hM : k32.M W2 w.heap.size (fun k => W0.heap.size ≤ k) x [.int .i64 x.f0, .int .i64 x.f1, .slice Au x.f2.length cu] := by
        refine k32_mkM _ _ _ x ?_
        have q1 := Kd.R_bound (Kd.R_alloc hu (.cells #[.int .i64 x.f0, .int .i64 x.f1, .slice Au x.f2.length cu] 32))
        have q2 := Kd.R_grown q1 hg2 (fun k hk e => by have := hk.2.1; injection e with e; omega)
        exact Kd.R_lower (Kd.R_mono q2 (fun k hk => hk.2.1)) (by omega)
      have hok : ∀ k, W0.heap.size ≤ k → (fun k => w.heap.size + 5 < k) k ∧ some k ≠ v0.ownBlock := by
        intro k hk
        refine ⟨by show w.heap.size + 5 < k; omega, fun e => ?_⟩
        have := Kd.S_lt hS0 k e.symm
        omega
      obtain ⟨m, hm⟩ : ∃ m, (pre ++ [x]).length = m := ⟨_, rfl⟩
      have hm' : m = pre.length + 1 := by rw [← hm]; simp
      have c1 := hb1.cell
      have cT0 : W2.cell? ⟨W.heap.size, 0, none⟩ = some (.int .i64 x.f0) := (blk_cell hT 0).trans rfl
      have cT1 : W2.cell? ⟨W.heap.size, 1, none⟩ = some (.int .i64 x.f1) := (blk_cell hT 1).trans rfl
      have cT2 : W2.cell? ⟨W.heap.size, 2, none⟩ = some (.slice Au x.f2.length cu) := (blk_cell hT 2).trans rfl
      obtain ⟨Av, cv, rfl⟩ := Kd.S_slice hS
      have hn0 : some w.heap.size ≠ (Value.slice Av pre.length cv).ownBlock := Kd.S_away hS (fun k hk => by omega)
      have hkeep : ∀ (w5 : World) (v1 : Value), W2.grownBy w5 (Value.slice Av pre.length cv).ownBlock → KeepsFrom w2.heap.size W2 (w5.setCell ⟨w.heap.size, 0, none⟩ v1) := by
        intro w5 v1 hg5
        refine ((KeepsOthers.of_grownBy hg5 (fun j o ej hj => ?_)).trans (KeepsOthers.setCell _ _ _)).from _
        obtain ⟨cells, hc⟩ := Kd.S_typed hS j ej
        rw [hc] at hj; cases hj; rfl
      have hpl : pre.length + 1 ≤ (scanAt l (l.length + 1) 0).1.length := by have := hgv.length_le; simpa using this
      have hfresh : ∀ k, W2.heap.size ≤ k → (fun k => w.heap.size + 5 < k) k := fun k hk => by show _ < _; omega
      have hbase : w.heap.size ≤ W2.heap.size := by omega
      have hl40 : (pre.length + 1) * 40 ≤ 140737488355328 := by omega
      have hend : ∀ (w5 : World) (A1 : Option Addr) (d1 : Nat), Kd.S k32 32 w5 w.heap.size (fun k => w.heap.size + 5 < k) (.slice A1 m d1) (pre ++ [x]) → W2.grownBy w5 (Value.slice Av pre.length cv).ownBlock →
          KpO w.heap.size (w.heap.size + 1 + 1) (w.heap.size + 5) W (w5.setCell ⟨w.heap.size, 0, none⟩ (.slice A1 m d1)) ∧ Boxed (w5.setCell ⟨w.heap.size, 0, none⟩ (.slice A1 m d1)) w.heap.size 22 (.slice A1 m d1) ∧
          Kd.S k32 32 (w5.setCell ⟨w.heap.size, 0, none⟩ (.slice A1 m d1)) w.heap.size (fun k => w.heap.size + 5 < k) (.slice A1 m d1) (pre ++ [x]) ∧ Boxed (w5.setCell ⟨w.heap.size, 0, none⟩ (.slice A1 m d1)) (w.heap.size + 1) 26 (.int .i64 0) ∧ Below w.heap.size w (w5.setCell ⟨w.heap.size, 0, none⟩ (.slice A1 m d1)) := by
        intro w5 A1 d1 hS5 hg5
        have hob : ∀ k, (Value.slice Av pre.length cv).ownBlock = some k → w.heap.size + 5 < k := fun k e => Classical.byContradiction fun hk => Kd.S_away hS (g := k) (fun j hj => by omega) e.symm
        have hk5 : ∀ k, k ≤ w.heap.size + 5 → k ≠ w.heap.size + 4 → k ≠ w.heap.size → (w5.setCell ⟨w.heap.size, 0, none⟩ (.slice A1 m d1)).heap[k]? = W.heap[k]? := by
          intro k hk h4 h0
          exact (Below.heap_setCell _ _ _ k h0).trans ((hg5.block k (by omega) (fun e => by have := hob k e.symm; omega)).trans (hWk k (by omega) h4))
        refine ⟨⟨hk5 _ (by omega) (by omega) (by omega), hk5 _ (by omega) (by omega) (by omega), ?_⟩, (hb1.kept hg5 hn0).set _, Kd.S_far hS5 (p := ⟨w.heap.size, 0, none⟩) (fun k hk => by show k ≠ w.heap.size; omega) _, (hb2'.kept hg5 (fun e => by have := hob _ e.symm; omega)).other (by omega) _, ?_⟩
        · exact (hBW.grown hg5 hbase (fun k e => by have := hob k e; omega)).setCell (p := ⟨w.heap.size, 0, none⟩) (Nat.le_refl _) _
        · exact (hB.grown hg5 hbase (fun k e => by have := hob k e; omega)).setCell (p := ⟨w.heap.size, 0, none⟩) (Nat.le_refl _) _
      have HM := Lib.hid hm'
      have HZ := Lib.hid hz2
      clear hm' hz2 hz1
      by_cases h40 : m ≤ 40
      · have hd40 : decide ((m : Int) ≤ 40) = true := by simp; omega
        gi_wp2_with (first
          | (gi_at_builtin; refine S_appendIn k32 w.heap.size rfl (.tmp 12) (.tmp 14) 22 32 (.agg #[(.int .i64 0), (.int .i64 0), (.slice none 0 0)]) 40 rfl Try.underlying22 info32 rfl (by decide) (by omega) (.slice Av pre.length cv) pre x [.int .i64 x.f0, .int .i64 x.f1, .slice Au x.f2.length cu] (fun k => w.heap.size + 5 < k) (fun k => W0.heap.size ≤ k) rfl rfl hM hok hfresh hSb hbase hl40 ?_; intro v1 w5 hS5 hg5; obtain ⟨A1, d1, hv1⟩ := Kd.S_slice hS5; rw [hm] at hv1; subst hv1; have hb5 := hb1.kept hg5 hn0; have c5 := hb5.cell; have f5 := hb5.frozen)
          | (gi_at_call 23; refine (CallsIn.inRound _ (must_in F _ h23 hro true _)).mono ?_; rintro e w' ⟨he, rfl⟩; obtain rfl := (if_pos rfl).mp he))
        obtain ⟨e1, e2, e3, e4, e5⟩ := hend _ _ _ hS5 hg5
        exact ⟨hkeep _ _ hg5, HZ.out ▸ e1, ⟨_, e2, e3⟩, e4, e5, by rw [hm]; exact h40⟩
      · have hd40 : decide ((m : Int) ≤ 40) = false := by simp; omega
        gi_wp2_with (first
          | (gi_at_builtin; refine S_appendIn k32 w.heap.size rfl (.tmp 12) (.tmp 14) 22 32 (.agg #[(.int .i64 0), (.int .i64 0), (.slice none 0 0)]) 40 rfl Try.underlying22 info32 rfl (by decide) (by omega) (.slice Av pre.length cv) pre x [.int .i64 x.f0, .int .i64 x.f1, .slice Au x.f2.length cu] (fun k => w.heap.size + 5 < k) (fun k => W0.heap.size ≤ k) rfl rfl hM hok hfresh hSb hbase hl40 ?_; intro v1 w5 hS5 hg5; obtain ⟨A1, d1, hv1⟩ := Kd.S_slice hS5; rw [hm] at hv1; subst hv1; have hb5 := hb1.kept hg5 hn0; have c5 := hb5.cell; have f5 := hb5.frozen)
          | (gi_at_call 23; refine (CallsIn.inRound _ (must_in F _ h23 hro false _)).mono ?_; rintro e w' ⟨he, rfl⟩; obtain rfl := (if_neg Bool.false_ne_true).mp he))
        obtain ⟨e1, e2, e3, e4, e5⟩ := hend _ _ _ hS5 hg5
        exact ⟨rfl, hkeep _ _ hg5, rfl, parseO_small l hlen (.inr (by have := HM.out; omega)), ⟨_, e2, rfl⟩, e4, e5⟩
    case hdone =>
      rintro xs W ⟨rfl, hsc⟩ ⟨⟨v, hb1, hS⟩, hb2', hB, hle⟩ hK
      have hpo : parseO l = ((scanAt l (l.length + 1) 0).1, 0) := by unfold parseO; rw [if_neg hlen, if_pos ⟨hsc, hle⟩]
      obtain ⟨Av, cv, rfl⟩ := Kd.S_slice hS
      have c1 := hb1.cell
      have f1 := hb1.frozen
      have c2 := hb2'.cell
      have f2 := hb2'.frozen
      have HZ := Lib.hid hz2
      clear hz2
      gi_wp2
      rw [hpo]
      generalize (scanAt l (l.length + 1) 0).1 = ys at *
      have hb1' := (hb1.set (.slice Av ys.length cv)).other (B' := w.heap.size + 1) (by omega) (.int .i64 0)
      have hb2'' := (hb2'.other (B' := w.heap.size) (by omega) (.slice Av ys.length cv)).set (.int .i64 0)
      have hS2 := Kd.S_far (Kd.S_far hS (p := ⟨w.heap.size, 0, none⟩) (fun k hk => by show k ≠ w.heap.size; omega) (.slice Av ys.length cv)) (p := ⟨w.heap.size + 1, 0, none⟩) (fun k hk => by show k ≠ w.heap.size + 1; omega) (.int .i64 0)
      have hB2 : Below w.heap.size w ((W.setCell ⟨w.heap.size, 0, none⟩ (.slice Av ys.length cv)).setCell ⟨w.heap.size + 1, 0, none⟩ (.int .i64 0)) := (hB.setCell (p := ⟨w.heap.size, 0, none⟩) (Nat.le_refl _) _).setCell (p := ⟨w.heap.size + 1, 0, none⟩) (by show w.heap.size ≤ w.heap.size + 1; omega) _
      have hK2 := ((KeepsOthers.setCell W ⟨w.heap.size, 0, none⟩ (.slice Av ys.length cv)).trans (KeepsOthers.setCell _ ⟨w.heap.size + 1, 0, none⟩ (.int .i64 0))).same _ _ hK rfl
      generalize (W.setCell ⟨w.heap.size, 0, none⟩ (.slice Av ys.length cv)).setCell ⟨w.heap.size + 1, 0, none⟩ (.int .i64 0) = W3 at *
      have hg := grownBy_putObj' W3 w2.heap.size (.deferred none)
      refine ⟨by simp, .inl ⟨_, _, rfl, run_takeDeferred hK2, ?_⟩⟩
      refine ⟨by simp, .inr ⟨fun _ => h1, _, _, 21, #[.pointer (some ⟨w.heap.size, 0, none⟩), .pointer (some ⟨w.heap.size + 1, 0, none⟩)], rfl, by simp [invoke, go_sem, enters_of Try.func21 (by kernel_rfl) rfl], by intro g hg; simp [Target.leads] at hg; subst hg; exact h21, ?_⟩⟩
      refine (calm_in F (n - 1) h21 hro _ _ _).mono ?_
      rintro e u' w' ⟨⟨v, rfl⟩, rfl, rfl⟩
      have d1 := (hb1'.kept hg (by intro e; injection e with e; have := HZ.out; omega)).cell
      have d2 := (hb2''.kept hg (by intro e; injection e with e; have := HZ.out; omega)).cell
      refine ⟨.tuple #[.slice Av ys.length cv, .int .i64 0], by simp [results, Try.results11, go_sem, d1, d2], _, rfl, ?_, hB2.grown hg hB2.size (fun k e => by injection e with e; have := HZ.out; omega)⟩
      refine Kd.S_mono (Kd.S_grown (Kd.S_bound hS2) hg ?_) (fun _ _ => trivial)
      rintro k ⟨_, _, _, q, _, cells, hc⟩ e
      injection e with e
      rw [e, hK2] at hc
      cases hc
    case hpan =>
      rintro ch W ⟨rfl, hpo, ⟨v, hb1, hv1⟩, hb2', hB⟩ hK
      have HZ := Lib.hid hz2
      clear hz2
      have hg := grownBy_putObj' W w2.heap.size (.deferred none)
      refine ⟨by simp, .inl ⟨_, _, rfl, run_takeDeferred hK, ?_⟩⟩
      refine ⟨by simp, .inr ⟨fun _ => h1, _, _, 21, #[.pointer (some ⟨w.heap.size, 0, none⟩), .pointer (some ⟨w.heap.size + 1, 0, none⟩)], rfl, by simp [invoke, go_sem, enters_of Try.func21 (by kernel_rfl) rfl], by intro g hg; simp [Target.leads] at hg; subst hg; exact h21, ?_⟩⟩
      have d1 := hb1.kept hg (by intro e; injection e with e; have := HZ.out; omega)
      have d2 := hb2'.kept hg (by intro e; injection e with e; have := HZ.out; omega)
      have hB1 := hB.grown hg hB.size (fun k e => by injection e with e; have := HZ.out; omega)
      refine (caught_in F (n - 1) h21 hro _ _ _ _ _ d1 d2 (by omega) hv1 rfl).mono ?_
      rintro e u' w' ⟨⟨v, rfl⟩, rfl, k1, k2, k3⟩
      have d1 := k1.cell
      have d2 := k2.cell
      refine ⟨.tuple #[.slice none 0 0, .int .i64 170], by simp [results, Try.results11, go_sem, d1, d2], _, by rw [hpo], by rw [hpo]; exact Kd.S_nil _ _ _ _ _, hB1.trans (by rwa [Nat.min_eq_left (by omega)] at k3)⟩

end Go.Proofs.Ytecghmlojllkdaa.P

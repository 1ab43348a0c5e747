import Derived.Test.YtecghmlojllkdaaB2
import Derived.Maps.AppendAt
namespace Go.Proofs.Ytecghmlojllkdaa.P
open Go.RowKit Go.Shelf Go.Proofs.Ytecghmlojllkdaa.RangePanic Go.Proofs.YtecghmlojllkdaaW.PrintWords Go.Proofs.YtecghmlojllkdaaW.PrintLast Go.Proofs.YtecghmlojllkdaaW.PrintMore
set_option linter.unusedVariables false
set_option linter.unusedSimpArgs false

attribute [local go_sem] Oper.semAt_some

def wordsAt (l : List Int) (q k : Nat) : List Int := (List.range k).map (fun j => beNum ((l.drop (q + 4 * j)).take 4))
theorem wordsAt_succ (l : List Int) (q k : Nat) : wordsAt l q (k + 1) = wordsAt l q k ++ [beNum ((l.drop (q + 4 * k)).take 4)] := by simp [wordsAt, List.range_succ]

/-- The object at a place. -/
def oneAt (l : List Int) (p : Nat) : Option (S32 × Nat) :=
  if p + 2 ≤ l.length then
    (if Int.tmod (beNum ((l.drop p).take 2)) 4 = 0 ∧ inB (Int.tdiv (beNum ((l.drop p).take 2)) 4) 2 65 = true then
      (if p + (beNum ((l.drop p).take 2)).toNat ≤ l.length then
        some (⟨beNum ((l.drop (p + 2)).take 1), beNum ((l.drop (p + 3)).take 1), wordsAt l (p + 4) ((beNum ((l.drop p).take 2)).toNat / 4 - 1)⟩, p + (beNum ((l.drop p).take 2)).toNat)
      else none)
    else none)
  else none

def scanAt (l : List Int) : Nat → Nat → List S32 × Bool
  | 0, _ => ([], false)
  | k + 1, p => if p < l.length then (match oneAt l p with | none => ([], false) | some (o, p') => (o :: (scanAt l k p').1, (scanAt l k p').2)) else ([], true)

/-- What a round is given: an object whose words lie in blocks that are new. -/
def RdO (base : Nat) (x : S32) (v : Value) (w : World) : Prop := ∃ u, v = .agg #[.int .i64 x.f0, .int .i64 x.f1, u] ∧ (Kd.int .i64).R 2 w base (fun _ => True) u x.f2
def KpO (n0 Bn : Nat) (AT : Nat) (A B : World) : Prop := B.heap[AT]? = A.heap[AT]? ∧ B.heap[Bn]? = A.heap[Bn]? ∧ Below n0 A B

theorem own_ne {w : World} {base n size g : Nat} {e t : TypeId} {v : Value} {xs : List Value} {cells : Array Value} (h : w.ownsRow base e size v n xs) (hb : w.heap[g]? = some (.cells cells t (0, 0))) (ht : e ≠ t) : some g ≠ v.ownBlock := by
  intro he
  obtain ⟨cells', hc⟩ := own_typed h g he.symm
  rw [hb] at hc
  injection hc with h1
  injection h1 with _ h2
  exact ht h2.symm
theorem own_low {w : World} {base n size a : Nat} {e : TypeId} {v : Value} {xs : List Value} (h : w.ownsRow base e size v n xs) (hlt : a < base) : v.ownBlock ≠ some a := fun e => by have := own_base h a e; omega
theorem grown_far {A B C : World} {a : Nat} {row : Option Nat} (h : A.grownBy B (some a)) (k : B.grownBy C row) (hr : ∀ k, row = some k → A.heap.size ≤ k) : A.grownBy C (some a) := by
  obtain ⟨a1, a2, a3, a4, a5⟩ := h
  obtain ⟨b1, b2, b3, b4, b5⟩ := k
  exact ⟨b1.trans a1, b2.trans a2, b3.trans a3, Nat.le_trans a4 b4, fun j hj hn => (b5 j (by omega) (fun e => by have := hr j e.symm; omega)).trans (a5 j hj hn)⟩
theorem grownBy_setCell2 (W : World) (b i : Nat) (v : Value) : W.grownBy (W.setCell ⟨b, i, none⟩ v) (some b) :=
  ⟨rfl, rfl, rfl, by rw [size_setCell']; exact Nat.le_refl _, fun k _ hk => Below.heap_setCell _ _ _ k (fun e => hk (by rw [e]))⟩
theorem cell_far {A B : World} {row : Option Nat} {a b i : Nat} {x v : Value} (hne : a ≠ b) (h : A.cell? ⟨a, 0, none⟩ = some x) (hg : A.grownBy B row) (hr : row ≠ some a) : (B.setCell ⟨b, i, none⟩ v).cell? ⟨a, 0, none⟩ = some x :=
  (World.cell?_of_block (Below.heap_setCell B ⟨b, i, none⟩ v a hne)).trans ((World.cell?_of_block (hg.block a (World.block_lt_of_cell? _ _ h) (fun e => hr e.symm))).trans h)
theorem frozen_far {A B : World} {row : Option Nat} {a b i : Nat} {x v : Value} (hne : a ≠ b) (h : A.cell? ⟨a, 0, none⟩ = some x) (hf : A.frozen? ⟨a, 0, none⟩ = false) (hg : A.grownBy B row) (hr : row ≠ some a) : (B.setCell ⟨b, i, none⟩ v).frozen? ⟨a, 0, none⟩ = false := by
  rw [World.frozen?_setCell]
  exact (World.frozen?_of_block (hg.block a (World.block_lt_of_cell? _ _ h) (fun e => hr e.symm))).trans hf
theorem cell_alloc' {A : World} {a : Nat} {x : Value} (h : A.cell? ⟨a, 0, none⟩ = some x) (o : Obj) : (A.alloc o).cell? ⟨a, 0, none⟩ = some x := (Below.cell ((Below.refl _ A).alloc (Nat.le_refl _) _) (World.block_lt_of_cell? _ _ h)).trans h
theorem frozen_alloc' {A : World} {a : Nat} {x : Value} (h : A.cell? ⟨a, 0, none⟩ = some x) (hf : A.frozen? ⟨a, 0, none⟩ = false) (o : Obj) : (A.alloc o).frozen? ⟨a, 0, none⟩ = false := (Below.frozen (p := ⟨a, 0, none⟩) ((Below.refl _ A).alloc (Nat.le_refl _) _) (World.block_lt_of_cell? _ _ h)).trans hf

theorem wpIn_append_own {F : Fence} {n : Nat} {P : Program} (w : World) {o : Oper} {a : Act} {K : Act → World → Prop} {Q : Exit → Act → World → Prop}
    (s x : Operand) (t : TypeId) (hop : o.op = Op.call { callee := Callee.builtin Builtin.append, args := #[s, x], argTypes := #[t, t] })
    (base : Nat) (e : TypeId) (i : TypeInfo) (z : Value) (size bytes : Nat) (h1 : P.underlying t = some (.slice e)) (h2 : P.info? e = some i) (h3 : i.zero = some z) (h4 : i.size = size) (h5 : i.bytes = bytes) (h6 : z.cells.size = size) (h7 : 0 < size)
    (v : Value) (k : Nat) (xs : List Value) (hs : a.eval s = v) (hown : w.ownsRow base e size v k xs) (ad : Addr) (m c : Nat) (news : List Value) (hx : a.eval x = .slice (some ad) m c) (hn : news.length = m * size)
    (hc : ∀ j u, news[j]? = some u → w.cell? (ad.add j) = some u) (h1c : ∀ u ∈ news, u.oneCell' = true) (b1 : k + m ≤ maxLen) (b2 : (k + m) * bytes ≤ 140737488355328) (b3 : base ≤ w.heap.size)
    (hK : ∀ v' w', w'.ownsRow base e size v' (k + m) (xs ++ news) → w.grownBy w' v.ownBlock → K (a.put o.dst v') w') :
    Oper.wpIn F n P o a w K Q := by
  obtain ⟨v', w', hrun, r1, r2, r3⟩ := run_append_own (P := P) w base t o.type e i z size bytes h1 h2 h3 h4 h5 h6 h7 v k xs hown ad m c news hn hc h1c b1 b2 b3
  unfold Oper.wpIn
  refine ⟨?_, ?_⟩
  · simp [Oper.about, hop, resolve, Target.leads, Sem.run_pure]
  · rw [Oper.semAt_plain F _ _ (by rw [hop]; intro c hc'; cases hc')]
    simp [execOp, hop, resolve, invoke, builtin, hs, hx, hrun, Result.andThen]
    exact hK v' w' r1 r2

set_option maxRecDepth 100000 in
set_option maxHeartbeats 4000000 in
theorem objects_in (F : Fence) (n : Nat) (h36 : F.fn 36) (h37 : F.fn 37) (h34 : F.fn 34) (h23 : F.fn 23) (hro : F.round = none) (hn : 4 ≤ n) (l : List Int) (hlen : l.length ≤ 65536) (hby : Bytes l) (A0 : Option Addr) (c0 : Nat) (Bn : Nat)
    (wb w0 : World) (hb00 : Below wb.heap.size wb w0) (hBn : Bn < w0.heap.size) (hs0 : w0.cell? ⟨Bn, 0, none⟩ = some (.slice A0 l.length c0)) (hA : ∀ ad, A0 = some ad → 0 < l.length → ad.block < wb.heap.size) (hr0 : Kd.C (Kd.int .u8) wb A0 l.length l) :
    SeqP F n Try.prog 36 #[.pointer (some ⟨Bn, 0, none⟩)] RdO (fun pre => pre <+: (scanAt l (l.length + 1) 0).1) (fun xs => xs = (scanAt l (l.length + 1) 0).1 ∧ (scanAt l (l.length + 1) 0).2 = true) (fun _ ch => ch = failCh ∧ (scanAt l (l.length + 1) 0).2 = false) (KpO wb.heap.size Bn) w0 := by
  intro lr J Jp W hW hJ hJp hY hJ0
  have h1 : 1 ≤ n := by omega
  have h11 : 1 ≤ n - 1 := by omega
  obtain ⟨i0, hi0, hz0, hz1, hz2⟩ := info_parts info2
  refine callsIn_of_wp Try.func36 rfl h36 ?_ hro
  simp only [Try.ntmps36, List.size_toArray, List.length_cons, List.length_nil, Nat.reduceAdd, Nat.reduceSub, Array.replicate_succ, Array.replicate_zero, List.push_toArray, List.append_toArray, List.nil_append, List.cons_append]
  have hBW : Bn < W.heap.size := Nat.lt_of_lt_of_le hBn hW.size
  refine wpIn_scope_straight ?_
  gi_wp2
  refine wpIn_label ?_
  gi_wp2
  have hWb : wb.heap.size ≤ W.heap.size := Nat.le_trans hb00.size hW.size
  have hB1 : Below wb.heap.size wb (W.alloc (.cells #[.int .i64 0] 3)) := (hb00.trans (hW.mono hb00.size)).alloc hWb _
  have cB1 : (W.alloc (.cells #[.int .i64 0] 3)).cell? ⟨Bn, 0, none⟩ = some (.slice A0 l.length c0) := cell_alloc' ((hW.cell (p := ⟨Bn, 0, none⟩) hBn).trans hs0) _
  have hJ1 : J [] (W.alloc (.cells #[.int .i64 0] 3)) := hJ _ _ _ none hJ0 (World.grownBy_alloc _ _ none) (fun r e => by cases e)
  gi_loopw [5] (fun _ wr => ∃ (p k : Nat) (pre : List S32), p ≤ l.length ∧ l.length - p < k ∧ (scanAt l (l.length + 1) 0).1 = pre ++ (scanAt l k p).1 ∧ (scanAt l (l.length + 1) 0).2 = (scanAt l k p).2 ∧
      wr.cell? ⟨W.heap.size, 0, none⟩ = some (.int .i64 p) ∧ wr.frozen? ⟨W.heap.size, 0, none⟩ = false ∧ J pre wr ∧ wr.cell? ⟨Bn, 0, none⟩ = some (.slice A0 l.length c0) ∧ Below wb.heap.size wb wr)
    (fun _ wr => l.length - (intOf ((wr.cell? ⟨W.heap.size, 0, none⟩).getD undef)).toNat)
  case atStart => exact ⟨0, l.length + 1, [], by omega, by omega, rfl, rfl, (Boxed.new _ _ _).cell, (Boxed.new _ _ _).frozen, hJ1, cB1, hB1⟩
  case round =>
    obtain ⟨p, k, pre, hp, hk, hS1, hS2, cAT, fAT, hJs, cBn, hBl⟩ := hrel
    have cBg : ∀ {A B : World}, A.cell? ⟨Bn, 0, none⟩ = some (.slice A0 l.length c0) → A.grownBy B (some W.heap.size) → B.cell? ⟨Bn, 0, none⟩ = some (.slice A0 l.length c0) := fun h hg => (World.cell?_of_block (hg.block Bn (World.block_lt_of_cell? _ _ h) (fun e => by injection e with e; omega))).trans h
    have hAd : ∀ ad, A0 = some ad → 0 < l.length → ad.block ≠ W.heap.size := fun ad e hl => by have := hA ad e hl; omega
    have hne : W.heap.size ≠ Bn := by omega
    have hrr : Kd.C (Kd.int .u8) wr A0 l.length l := Kd.C_below hr0 hBl
    by_cases hpl : p < l.length
    · obtain ⟨k, rfl⟩ : ∃ k', k = k' + 1 := ⟨k - 1, by omega⟩
      have hlp : decide ((p : Int) < (l.length : Int)) = true := by simp; omega
      have hdie : ∀ W', J pre W' → oneAt l p = none → Jp failCh W' := fun W' hj ho => hJp pre W' failCh hj ⟨rfl, by rw [hS2]; simp [scanAt, hpl, ho]⟩
      have grow : ∀ {A B : World}, Below wb.heap.size wb A → A.grownBy B (some W.heap.size) → Below wb.heap.size wb B := fun hA hg => hA.grown hg hA.size (fun k e => by injection e with e; omega)
      have hJg : ∀ {A B : World}, J pre A → A.grownBy B (some W.heap.size) → J pre B := fun hA hg => hJ _ _ _ _ hA hg (fun r e => by injection e with e; exact e.symm)
      by_cases h2 : p + 2 ≤ l.length
      · obtain ⟨N, hN⟩ : ∃ N, beNum ((l.drop p).take 2) = N := ⟨_, rfl⟩
        have hNb := beNum_bound ((l.drop p).take 2) (fun x hx => hby x (List.mem_of_mem_drop (List.mem_of_mem_take hx)))
        rw [hN, show ((l.drop p).take 2).length = 2 by simp; omega] at hNb
        by_cases h3 : Int.tmod N 4 = 0 ∧ inB (Int.tdiv N 4) 2 65 = true
        · obtain ⟨hm, hin⟩ := h3
          obtain ⟨K, hNK, hK1, hK2⟩ : ∃ K : Nat, N = 4 * (K : Int) + 4 ∧ 1 ≤ K ∧ K ≤ 64 := by
            have hin' := hin
            simp [inB] at hin'
            have e1 : Int.tmod N 4 = N % 4 := Int.tmod_eq_emod_of_nonneg hNb.1
            have e2 : Int.tdiv N 4 = N / 4 := Int.tdiv_eq_ediv_of_nonneg hNb.1
            rw [e1] at hm
            rw [e2] at hin'
            exact ⟨(N / 4 - 1).toNat, by omega, by omega, by omega⟩
          have hd : Int.tdiv N 4 = (K : Int) + 1 := by
            have e2 : Int.tdiv N 4 = N / 4 := Int.tdiv_eq_ediv_of_nonneg hNb.1
            rw [e2]; omega
          have hmb : (Int.tmod N 4 == 0) = true := by rw [hm]; rfl
          rw [hd] at hin
          have hNh := Lib.hid hNK
          have hNhb := Lib.hid hNb
          clear hNK hNb
          by_cases c4 : p + 4 ≤ l.length
          · have tok1 : True := trivial
            gi_wp2_with (first
              | (gi_at_call 37; clear tok1; refine (take_in F _ h37 h23 hro (by omega) 2 p (by omega) W.heap.size Bn hne l hlen (by omega) hby A0 c0 _ cAT fAT cBn hAd hrr).mono ?_; rintro e w1 ⟨hg1, -, hf1, ht1⟩; rw [if_pos h2, hN] at ht1; obtain ⟨rfl, hc1⟩ := ht1; have hB1 := grow hBl hg1; have tok2 : True := trivial; have hJ1 := hJg hJs hg1; have cBn1 : w1.cell? ⟨Bn, 0, none⟩ = some (.slice A0 l.length c0) := cBg cBn hg1; have hrr1 : Kd.C (Kd.int .u8) w1 A0 l.length l := Kd.C_below hr0 hB1)
              | (gi_at_call 34; refine (within_in F _ h34 hro _ _ _ _).mono ?_; rintro e w1' ⟨rfl, rfl⟩; rw [hin])
              | (gi_at_call 23; refine (must_in F _ h23 hro true _).mono ?_; rintro e w1' ⟨he, rfl⟩; obtain rfl := (if_pos rfl).mp he)
              | (gi_at_call 37; clear tok2; refine (take_in F _ h37 h23 hro (by omega) 1 (p + 2) (by omega) W.heap.size Bn hne l hlen (by omega) hby A0 c0 _ hc1 hf1 cBn1 hAd hrr1).mono ?_; rintro e w2 ⟨hg2, -, hf2, ht2⟩; rw [if_pos (by omega)] at ht2; obtain ⟨rfl, hc2⟩ := ht2; have hB2 := grow hB1 hg2; have tok3 : True := trivial; have hJ2 := hJg hJ1 hg2; have cBn2 : w2.cell? ⟨Bn, 0, none⟩ = some (.slice A0 l.length c0) := cBg cBn1 hg2; have hrr2 : Kd.C (Kd.int .u8) w2 A0 l.length l := Kd.C_below hr0 hB2)
              | (gi_at_call 37; clear tok3; refine (take_in F _ h37 h23 hro (by omega) 1 (p + 3) (by omega) W.heap.size Bn hne l hlen (by omega) hby A0 c0 _ hc2 hf2 cBn2 hAd hrr2).mono ?_; rintro e w3 ⟨hg3, -, hf3, ht3⟩; rw [if_pos (by omega)] at ht3; obtain ⟨rfl, hc3⟩ := ht3; have hB3 := grow hB2 hg3; have tok4 : True := trivial; have hJ3 := hJg hJ2 hg3; have cBn3 : w3.cell? ⟨Bn, 0, none⟩ = some (.slice A0 l.length c0) := cBg cBn2 hg3; have hrr3 : Kd.C (Kd.int .u8) w3 A0 l.length l := Kd.C_below hr0 hB3))
            obtain ⟨cl, hcl⟩ : ∃ cl, beNum ((l.drop (p + 2)).take 1) = cl := ⟨_, rfl⟩
            obtain ⟨ty, hty⟩ : ∃ ty, beNum ((l.drop (p + 3)).take 1) = ty := ⟨_, rfl⟩
            rw [hcl, hty]
            have hNt : N.toNat = 4 * K + 4 := by have := hNh.out; omega
            have hone : oneAt l p = if p + (4 * K + 4) ≤ l.length then some (⟨cl, ty, wordsAt l (p + 4) K⟩, p + (4 * K + 4)) else none := by
              simp only [oneAt, if_pos h2, hN, hcl, hty, hNt]
              rw [if_pos ⟨hm, by rw [hd]; exact hin⟩, show (4 * K + 4) / 4 - 1 = K by omega]
            have hgr0 : w3.grownBy (w3.alloc (.cells #[.int .i64 cl, .int .i64 ty, .slice none 0 0] 32)) (some W.heap.size) := World.grownBy_alloc _ _ _
            have hATw : W.heap.size < w3.heap.size := World.block_lt_of_cell? _ _ hc3
            have hc3' : (w3.alloc (.cells #[.int .i64 cl, .int .i64 ty, .slice none 0 0] 32)).cell? ⟨W.heap.size, 0, none⟩ = some (.int .i64 ((p + 4 : Nat) : Int)) := (Below.cell ((Below.refl _ w3).alloc (Nat.le_refl _) _) (World.block_lt_of_cell? _ _ hc3)).trans hc3
            have hf3' : (w3.alloc (.cells #[.int .i64 cl, .int .i64 ty, .slice none 0 0] 32)).frozen? ⟨W.heap.size, 0, none⟩ = false := (Below.frozen (p := ⟨W.heap.size, 0, none⟩) ((Below.refl _ w3).alloc (Nat.le_refl _) _) (World.block_lt_of_cell? _ _ hc3)).trans hf3
            gi_loopw [31] (fun vi wq => ∃ (j : Nat) (u : Value), j ≤ K ∧ vi = .int .i64 j ∧ p + 4 + 4 * j ≤ l.length ∧ wq.heap[w3.heap.size]? = some (.cells #[.int .i64 cl, .int .i64 ty, u] 32 (0, 0)) ∧ wq.ownsRow w3.heap.size 2 1 u j (encs (Value.int .i64) (wordsAt l (p + 4) j)) ∧
                w3.grownBy wq (some W.heap.size) ∧ w3.heap.size < wq.heap.size ∧ wq.cell? ⟨W.heap.size, 0, none⟩ = some (.int .i64 ((p + 4 + 4 * j : Nat) : Int)) ∧ wq.frozen? ⟨W.heap.size, 0, none⟩ = false)
              (fun i _ => K - (intOf i).toNat)
            case atStart => exact ⟨0, _, by omega, rfl, by omega, World.alloc_heap_new _ _, World.ownsRow_nil _ _ _ _, hgr0, by simp, hc3', hf3'⟩
            case round =>
              obtain ⟨j, u, hj, rfl, hjl, hG, hR, hgq, hsq, hcq, hfq⟩ := hrel
              have hBq := grow hB3 hgq
              have cBq : wr.cell? ⟨Bn, 0, none⟩ = some (.slice A0 l.length c0) := cBg cBn3 hgq
              have hrq : Kd.C (Kd.int .u8) wr A0 l.length l := Kd.C_below hr0 hBq
              have cG2 : wr.cell? ⟨w3.heap.size, 2, none⟩ = some u := (blk_cell hG 2).trans rfl
              by_cases hjK : j < K
              · have hlj : decide ((j : Int) < (K : Int)) = true := by simp; omega
                by_cases c8 : p + 4 + 4 * j + 4 ≤ l.length
                · have tok5 : True := trivial
                  gi_wp2
                  refine wpIn_region_any (by kernel_rfl) ?_
                  change wpAnyIn _ _ _ _ _ _ _ _ _ (World.drew _)
                  (refine wpAnyIn_take (i := 0) (v := ?_) (by assumption) rfl (by kernel_rfl) (by kernel_rfl) (by kernel_rfl) (fun _ _ _ h => h) ⟨Or.inl ⟨by rfl, ?_⟩, fun _ => rfl⟩ ?_; rotate_left; (intro w; go_simp; first | done | with_reducible rfl); (try simp only [Act.put, List.setIfInBounds_toArray, List.set_cons_zero, List.set_cons_succ]))
                  (refine wpAnyIn_take (i := 2) (v := ?_) (by assumption) rfl (by kernel_rfl) (by kernel_rfl) (by kernel_rfl) (fun _ _ _ h => h) ⟨Or.inl ⟨by rfl, ?_⟩, fun _ => rfl⟩ ?_; rotate_left; (intro w; go_simp; first | done | with_reducible rfl); (try simp only [Act.put, List.setIfInBounds_toArray, List.set_cons_zero, List.set_cons_succ]))
                  refine wpAnyIn_ready (rs := [1, 3]) (by kernel_rfl) (by simp) ?_
                  refine AllReadyIn.cons rfl (fun K hK => ?_) ?_
                  · skip
                    go_simp
                    refine hK _ _ ?_
                    clear hK K
                    (try simp only [Act.put, List.setIfInBounds_toArray, List.set_cons_zero, List.set_cons_succ])
                    refine wpAnyIn_ready (rs := [3]) (by kernel_rfl) (by simp) ?_
                    refine AllReadyIn.cons rfl (fun K hK => ?_) ?_
                    · skip
                      go_simp
                      refine (take_in F _ h37 h23 hro (by omega) 4 (p + 4 + 4 * j) (by omega) W.heap.size Bn hne l hlen (by omega) hby A0 c0 wr.drew hcq hfq cBq hAd hrq).mono ?_
                      rintro e w5 ⟨hg5, -, hf5, ht5⟩
                      rw [if_pos c8] at ht5
                      obtain ⟨rfl, hc5⟩ := ht5
                      have hG5 := blk_grown (w := wr.drew) hG hg5 (by intro e; injection e with e; omega)
                      have hs5 : w3.heap.size < w5.heap.size := blk_lt hG5
                      have hO5 : w5.ownsRow w3.heap.size 2 1 u j (encs (Value.int .i64) (wordsAt l (p + 4) j)) := World.ownsRow.kept (w := wr.drew) hR hg5 (.inr (own_low hR hATw))
                      have hg35 := grown_trans' (w1 := wr.drew) ⟨hgq.os, hgq.tape, hgq.output, hgq.size, hgq.block⟩ hg5
                      have cG5 : w5.cell? ⟨w3.heap.size, 2, none⟩ = some u := (World.cell?_of_block (hg5.block w3.heap.size hsq (fun e => by injection e with e; omega))).trans cG2
                      refine hK _ _ ?_
                      clear hK K
                      (try simp only [Act.put, List.setIfInBounds_toArray, List.set_cons_zero, List.set_cons_succ])
                      refine wpAnyIn_ready (rs := [4]) (by kernel_rfl) (by simp) ?_
                      refine AllReadyIn.cons rfl (fun K hK => ?_) ?_
                      · skip
                        go_simp
                        refine hK _ _ ?_
                        clear hK K
                        (try simp only [Act.put, List.setIfInBounds_toArray, List.set_cons_zero, List.set_cons_succ])
                        (refine wpAnyIn_ready (rs := [5]) (by kernel_rfl) (by simp) ?_; refine AllReadyIn.cons rfl (fun K hK => ?_) AllReadyIn.nil)
                        rw [if_pos (by rfl)]
                        refine wpIn_append_own _ (.tmp 34) (.tmp 37) 30 rfl w3.heap.size 2 i0 (.int .i64 0) 1 8 Try.underlying30 hi0 hz0 hz1 hz2 rfl (by decide) u j _ rfl ((hO5.alloc _)) ⟨w5.heap.size, 0, none⟩ 1 1 [.int .i64 (beNum ((l.drop (p + 4 + 4 * j)).take 4))] rfl rfl (cell_one_new _ _ _) (by simp [Value.oneCell']) (by simp only [maxLen]; omega) (by omega) (by simp; omega) ?_
                        intro v' w6 hown' hgrow
                        obtain ⟨g', cap', rfl⟩ := ownsRow_succ hown'
                        have hG6 : w6.heap[w3.heap.size]? = some (.cells #[.int .i64 cl, .int .i64 ty, u] 32 (0, 0)) := blk_grown (blk_alloc hG5 _) hgrow (own_ne hO5 hG5 (by decide))
                        have cG6 := (blk_cell hG6 2).trans rfl
                        have fG6 := blk_frozen hG6 2
                        refine hK _ _ ?_
                        clear hK K
                        (try simp only [Act.put, List.setIfInBounds_toArray, List.set_cons_zero, List.set_cons_succ])
                        (refine wpAnyIn_take (i := 6) (v := ?_) (by assumption) rfl (by kernel_rfl) (by kernel_rfl) (by kernel_rfl) (fun _ _ _ h => h) ⟨Or.inl ⟨by rfl, ?_⟩, fun _ => rfl⟩ ?_; rotate_left; (intro w; go_simp; first | done | with_reducible rfl); (try simp only [Act.put, List.setIfInBounds_toArray, List.set_cons_zero, List.set_cons_succ]))
                        (refine wpAnyIn_ready (rs := [7]) (by kernel_rfl) (by simp) ?_; refine AllReadyIn.cons rfl (fun K hK => ?_) AllReadyIn.nil)
                        go_simp
                        refine hK _ _ ?_
                        clear hK K
                        (try simp only [Act.put, List.setIfInBounds_toArray, List.set_cons_zero, List.set_cons_succ])
                        refine wpAnyIn_done (by kernel_rfl) ?_ _
                        gi_wp2
                        go_roundw
                        case rel =>
                          have hgA : w3.grownBy (w5.alloc (.cells #[.int .i64 (beNum ((l.drop (p + 4 + 4 * j)).take 4))] 2)) (some W.heap.size) := grown_far hg35 (World.grownBy_alloc _ _ none) (fun k e => by cases e)
                          refine ⟨j + 1, _, by omega, by simp, by omega, blk_set hG6 2 _, ?_, grown_far (grown_far hgA hgrow (fun k e => own_base hO5 k e)) (grownBy_setCell2 _ _ _ _) (fun k e => by injection e with e; omega), ?_, ?_, ?_⟩
                          · rw [wordsAt_succ]; simpa [encs] using hown'.kept (grownBy_setCell2 _ _ _ _) (.inr (fun e => own_ne hown' hG6 (by decide) e.symm))
                          · rw [size_setCell']; have := hgrow.size; simp at this; omega
                          · rw [show p + 4 + 4 * (j + 1) = p + 4 + 4 * j + 4 by omega]; exact cell_far (by omega) (cell_alloc' hc5 _) hgrow (own_low hO5 hATw)
                          · exact frozen_far (by omega) (cell_alloc' hc5 _) (frozen_alloc' hc5 hf5 _) hgrow (own_low hO5 hATw)
                        case measure => simp [intOf]; omega
                      exact AllReadyIn.nil
                    exact AllReadyIn.nil
                  refine AllReadyIn.cons rfl (fun K hK => ?_) ?_
                  · skip
                    go_simp
                    refine (take_in F _ h37 h23 hro (by omega) 4 (p + 4 + 4 * j) (by omega) W.heap.size Bn hne l hlen (by omega) hby A0 c0 wr.drew hcq hfq cBq hAd hrq).mono ?_
                    rintro e w5 ⟨hg5, -, hf5, ht5⟩
                    rw [if_pos c8] at ht5
                    obtain ⟨rfl, hc5⟩ := ht5
                    have hG5 := blk_grown (w := wr.drew) hG hg5 (by intro e; injection e with e; omega)
                    have hs5 : w3.heap.size < w5.heap.size := blk_lt hG5
                    have hO5 : w5.ownsRow w3.heap.size 2 1 u j (encs (Value.int .i64) (wordsAt l (p + 4) j)) := World.ownsRow.kept (w := wr.drew) hR hg5 (.inr (own_low hR hATw))
                    have hg35 := grown_trans' (w1 := wr.drew) ⟨hgq.os, hgq.tape, hgq.output, hgq.size, hgq.block⟩ hg5
                    have cG5 : w5.cell? ⟨w3.heap.size, 2, none⟩ = some u := (World.cell?_of_block (hg5.block w3.heap.size hsq (fun e => by injection e with e; omega))).trans cG2
                    refine hK _ _ ?_
                    clear hK K
                    (try simp only [Act.put, List.setIfInBounds_toArray, List.set_cons_zero, List.set_cons_succ])
                    refine wpAnyIn_ready (rs := [1, 4]) (by kernel_rfl) (by simp) ?_
                    refine AllReadyIn.cons rfl (fun K hK => ?_) ?_
                    · skip
                      go_simp
                      refine hK _ _ ?_
                      clear hK K
                      (try simp only [Act.put, List.setIfInBounds_toArray, List.set_cons_zero, List.set_cons_succ])
                      refine wpAnyIn_ready (rs := [4]) (by kernel_rfl) (by simp) ?_
                      refine AllReadyIn.cons rfl (fun K hK => ?_) ?_
                      · skip
                        go_simp
                        refine hK _ _ ?_
                        clear hK K
                        (try simp only [Act.put, List.setIfInBounds_toArray, List.set_cons_zero, List.set_cons_succ])
                        (refine wpAnyIn_ready (rs := [5]) (by kernel_rfl) (by simp) ?_; refine AllReadyIn.cons rfl (fun K hK => ?_) AllReadyIn.nil)
                        rw [if_pos (by rfl)]
                        refine wpIn_append_own _ (.tmp 34) (.tmp 37) 30 rfl w3.heap.size 2 i0 (.int .i64 0) 1 8 Try.underlying30 hi0 hz0 hz1 hz2 rfl (by decide) u j _ rfl ((hO5.alloc _)) ⟨w5.heap.size, 0, none⟩ 1 1 [.int .i64 (beNum ((l.drop (p + 4 + 4 * j)).take 4))] rfl rfl (cell_one_new _ _ _) (by simp [Value.oneCell']) (by simp only [maxLen]; omega) (by omega) (by simp; omega) ?_
                        intro v' w6 hown' hgrow
                        obtain ⟨g', cap', rfl⟩ := ownsRow_succ hown'
                        have hG6 : w6.heap[w3.heap.size]? = some (.cells #[.int .i64 cl, .int .i64 ty, u] 32 (0, 0)) := blk_grown (blk_alloc hG5 _) hgrow (own_ne hO5 hG5 (by decide))
                        have cG6 := (blk_cell hG6 2).trans rfl
                        have fG6 := blk_frozen hG6 2
                        refine hK _ _ ?_
                        clear hK K
                        (try simp only [Act.put, List.setIfInBounds_toArray, List.set_cons_zero, List.set_cons_succ])
                        (refine wpAnyIn_take (i := 6) (v := ?_) (by assumption) rfl (by kernel_rfl) (by kernel_rfl) (by kernel_rfl) (fun _ _ _ h => h) ⟨Or.inl ⟨by rfl, ?_⟩, fun _ => rfl⟩ ?_; rotate_left; (intro w; go_simp; first | done | with_reducible rfl); (try simp only [Act.put, List.setIfInBounds_toArray, List.set_cons_zero, List.set_cons_succ]))
                        (refine wpAnyIn_ready (rs := [7]) (by kernel_rfl) (by simp) ?_; refine AllReadyIn.cons rfl (fun K hK => ?_) AllReadyIn.nil)
                        go_simp
                        refine hK _ _ ?_
                        clear hK K
                        (try simp only [Act.put, List.setIfInBounds_toArray, List.set_cons_zero, List.set_cons_succ])
                        refine wpAnyIn_done (by kernel_rfl) ?_ _
                        gi_wp2
                        go_roundw
                        case rel =>
                          have hgA : w3.grownBy (w5.alloc (.cells #[.int .i64 (beNum ((l.drop (p + 4 + 4 * j)).take 4))] 2)) (some W.heap.size) := grown_far hg35 (World.grownBy_alloc _ _ none) (fun k e => by cases e)
                          refine ⟨j + 1, _, by omega, by simp, by omega, blk_set hG6 2 _, ?_, grown_far (grown_far hgA hgrow (fun k e => own_base hO5 k e)) (grownBy_setCell2 _ _ _ _) (fun k e => by injection e with e; omega), ?_, ?_, ?_⟩
                          · rw [wordsAt_succ]; simpa [encs] using hown'.kept (grownBy_setCell2 _ _ _ _) (.inr (fun e => own_ne hown' hG6 (by decide) e.symm))
                          · rw [size_setCell']; have := hgrow.size; simp at this; omega
                          · rw [show p + 4 + 4 * (j + 1) = p + 4 + 4 * j + 4 by omega]; exact cell_far (by omega) (cell_alloc' hc5 _) hgrow (own_low hO5 hATw)
                          · exact frozen_far (by omega) (cell_alloc' hc5 _) (frozen_alloc' hc5 hf5 _) hgrow (own_low hO5 hATw)
                        case measure => simp [intOf]; omega
                      exact AllReadyIn.nil
                    refine AllReadyIn.cons rfl (fun K hK => ?_) ?_
                    · skip
                      go_simp
                      refine hK _ _ ?_
                      clear hK K
                      (try simp only [Act.put, List.setIfInBounds_toArray, List.set_cons_zero, List.set_cons_succ])
                      refine wpAnyIn_ready (rs := [1]) (by kernel_rfl) (by simp) ?_
                      refine AllReadyIn.cons rfl (fun K hK => ?_) ?_
                      · skip
                        go_simp
                        refine hK _ _ ?_
                        clear hK K
                        (try simp only [Act.put, List.setIfInBounds_toArray, List.set_cons_zero, List.set_cons_succ])
                        (refine wpAnyIn_ready (rs := [5]) (by kernel_rfl) (by simp) ?_; refine AllReadyIn.cons rfl (fun K hK => ?_) AllReadyIn.nil)
                        rw [if_pos (by rfl)]
                        refine wpIn_append_own _ (.tmp 34) (.tmp 37) 30 rfl w3.heap.size 2 i0 (.int .i64 0) 1 8 Try.underlying30 hi0 hz0 hz1 hz2 rfl (by decide) u j _ rfl ((hO5.alloc _)) ⟨w5.heap.size, 0, none⟩ 1 1 [.int .i64 (beNum ((l.drop (p + 4 + 4 * j)).take 4))] rfl rfl (cell_one_new _ _ _) (by simp [Value.oneCell']) (by simp only [maxLen]; omega) (by omega) (by simp; omega) ?_
                        intro v' w6 hown' hgrow
                        obtain ⟨g', cap', rfl⟩ := ownsRow_succ hown'
                        have hG6 : w6.heap[w3.heap.size]? = some (.cells #[.int .i64 cl, .int .i64 ty, u] 32 (0, 0)) := blk_grown (blk_alloc hG5 _) hgrow (own_ne hO5 hG5 (by decide))
                        have cG6 := (blk_cell hG6 2).trans rfl
                        have fG6 := blk_frozen hG6 2
                        refine hK _ _ ?_
                        clear hK K
                        (try simp only [Act.put, List.setIfInBounds_toArray, List.set_cons_zero, List.set_cons_succ])
                        (refine wpAnyIn_take (i := 6) (v := ?_) (by assumption) rfl (by kernel_rfl) (by kernel_rfl) (by kernel_rfl) (fun _ _ _ h => h) ⟨Or.inl ⟨by rfl, ?_⟩, fun _ => rfl⟩ ?_; rotate_left; (intro w; go_simp; first | done | with_reducible rfl); (try simp only [Act.put, List.setIfInBounds_toArray, List.set_cons_zero, List.set_cons_succ]))
                        (refine wpAnyIn_ready (rs := [7]) (by kernel_rfl) (by simp) ?_; refine AllReadyIn.cons rfl (fun K hK => ?_) AllReadyIn.nil)
                        go_simp
                        refine hK _ _ ?_
                        clear hK K
                        (try simp only [Act.put, List.setIfInBounds_toArray, List.set_cons_zero, List.set_cons_succ])
                        refine wpAnyIn_done (by kernel_rfl) ?_ _
                        gi_wp2
                        go_roundw
                        case rel =>
                          have hgA : w3.grownBy (w5.alloc (.cells #[.int .i64 (beNum ((l.drop (p + 4 + 4 * j)).take 4))] 2)) (some W.heap.size) := grown_far hg35 (World.grownBy_alloc _ _ none) (fun k e => by cases e)
                          refine ⟨j + 1, _, by omega, by simp, by omega, blk_set hG6 2 _, ?_, grown_far (grown_far hgA hgrow (fun k e => own_base hO5 k e)) (grownBy_setCell2 _ _ _ _) (fun k e => by injection e with e; omega), ?_, ?_, ?_⟩
                          · rw [wordsAt_succ]; simpa [encs] using hown'.kept (grownBy_setCell2 _ _ _ _) (.inr (fun e => own_ne hown' hG6 (by decide) e.symm))
                          · rw [size_setCell']; have := hgrow.size; simp at this; omega
                          · rw [show p + 4 + 4 * (j + 1) = p + 4 + 4 * j + 4 by omega]; exact cell_far (by omega) (cell_alloc' hc5 _) hgrow (own_low hO5 hATw)
                          · exact frozen_far (by omega) (cell_alloc' hc5 _) (frozen_alloc' hc5 hf5 _) hgrow (own_low hO5 hATw)
                        case measure => simp [intOf]; omega
                      exact AllReadyIn.nil
                    exact AllReadyIn.nil
                  exact AllReadyIn.nil
                · have hno : oneAt l p = none := by rw [hone, if_neg (by omega)]
                  gi_wp2
                  refine wpIn_region_any (by kernel_rfl) ?_
                  change wpAnyIn _ _ _ _ _ _ _ _ _ (World.drew _)
                  (refine wpAnyIn_take (i := 0) (v := ?_) (by assumption) rfl (by kernel_rfl) (by kernel_rfl) (by kernel_rfl) (fun _ _ _ h => h) ⟨Or.inl ⟨by rfl, ?_⟩, fun _ => rfl⟩ ?_; rotate_left; (intro w; go_simp; first | done | with_reducible rfl); (try simp only [Act.put, List.setIfInBounds_toArray, List.set_cons_zero, List.set_cons_succ]))
                  (refine wpAnyIn_take (i := 2) (v := ?_) (by assumption) rfl (by kernel_rfl) (by kernel_rfl) (by kernel_rfl) (fun _ _ _ h => h) ⟨Or.inl ⟨by rfl, ?_⟩, fun _ => rfl⟩ ?_; rotate_left; (intro w; go_simp; first | done | with_reducible rfl); (try simp only [Act.put, List.setIfInBounds_toArray, List.set_cons_zero, List.set_cons_succ]))
                  refine wpAnyIn_ready (rs := [1, 3]) (by kernel_rfl) (by simp) ?_
                  refine AllReadyIn.cons rfl (fun K hK => ?_) ?_
                  · go_simp
                    refine hK _ _ ?_
                    clear hK K
                    (try simp only [Act.put, List.setIfInBounds_toArray, List.set_cons_zero, List.set_cons_succ])
                    (refine wpAnyIn_ready (rs := [3]) (by kernel_rfl) (by simp) ?_; refine AllReadyIn.cons rfl (fun K hK => ?_) AllReadyIn.nil)
                    go_simp
                    refine (take_in F _ h37 h23 hro (by omega) 4 (p + 4 + 4 * j) (by omega) W.heap.size Bn hne l hlen (by omega) hby A0 c0 wr.drew hcq hfq cBq hAd hrq).mono ?_
                    rintro e w5 ⟨hg5, -, hf5, ht5⟩
                    rw [if_neg c8] at ht5
                    subst ht5
                    exact ⟨rfl, .inr ⟨failCh, rfl, hdie _ (hJg hJ3 (grown_trans' (w1 := wr.drew) ⟨hgq.os, hgq.tape, hgq.output, hgq.size, hgq.block⟩ hg5)) hno⟩⟩
                  refine AllReadyIn.cons rfl (fun K hK => ?_) AllReadyIn.nil
                  go_simp
                  refine (take_in F _ h37 h23 hro (by omega) 4 (p + 4 + 4 * j) (by omega) W.heap.size Bn hne l hlen (by omega) hby A0 c0 wr.drew hcq hfq cBq hAd hrq).mono ?_
                  rintro e w5 ⟨hg5, -, hf5, ht5⟩
                  rw [if_neg c8] at ht5
                  subst ht5
                  exact ⟨rfl, .inr ⟨failCh, rfl, hdie _ (hJg hJ3 (grown_trans' (w1 := wr.drew) ⟨hgq.os, hgq.tape, hgq.output, hgq.size, hgq.block⟩ hg5)) hno⟩⟩
              · obtain rfl : j = K := by omega
                have hlj : decide ((j : Int) < (j : Int)) = false := by simp
                have hyes : oneAt l p = some (⟨cl, ty, wordsAt l (p + 4) j⟩, p + (4 * j + 4)) := by rw [hone, if_pos (by omega)]
                have hsc : scanAt l (k + 1) p = ((⟨cl, ty, wordsAt l (p + 4) j⟩ : S32) :: (scanAt l k (p + (4 * j + 4))).1, (scanAt l k (p + (4 * j + 4))).2) := by simp [scanAt, hpl, hyes]
                have hwl : (wordsAt l (p + 4) j).length = j := by simp [wordsAt]
                have hO : (Kd.int .i64).R 2 wr w3.heap.size (fun _ => True) u (wordsAt l (p + 4) j) := Kd.R_of_own (by rw [hwl]; exact hR) (fun _ _ => trivial)
                obtain ⟨fn, tmps, assign, body, hy, hRd⟩ := hY pre ⟨cl, ty, wordsAt l (p + 4) j⟩ (.agg #[.int .i64 cl, .int .i64 ty, u]) w3 wr hJ3 ⟨(scanAt l k (p + (4 * j + 4))).1, by rw [hS1, hsc]; simp⟩ hgq hATw ⟨u, rfl, hO⟩
                obtain ⟨Au, cu, hu⟩ := Kd.R_slice hO
                rw [hwl] at hu
                subst hu
                have cG0 : wr.cell? ⟨w3.heap.size, 0, none⟩ = some (.int .i64 cl) := (blk_cell hG 0).trans rfl
                have cG1 : wr.cell? ⟨w3.heap.size, 1, none⟩ = some (.int .i64 ty) := (blk_cell hG 1).trans rfl
                gi_wp2
                refine hRd.mono ?_
                rintro e w6 (⟨rfl, hJ6, hk6⟩ | ⟨ch, rfl, hJp6⟩)
                · have hc6 := (World.cell?_of_block hk6.1).trans hcq
                  have hf6 := (World.frozen?_of_block hk6.1).trans hfq
                  gi_wp2
                  go_roundw
                  case rel => exact ⟨p + (4 * j + 4), k, pre ++ [⟨cl, ty, wordsAt l (p + 4) j⟩], by omega, by omega, by rw [hS1, hsc]; simp, by rw [hS2, hsc], by rw [hc6]; congr 2; omega, hf6, hJ6, (World.cell?_of_block hk6.2.1).trans cBq, hBq.trans hk6.2.2⟩
                  case measure => simp only [cAT, hc6, Option.getD_some, intOf]; omega
                · exact ⟨rfl, .inr ⟨ch, rfl, hJp6⟩⟩
          · have hno : oneAt l p = none := by
              have hNt : ¬ (p + N.toNat ≤ l.length) := by have := hNh.out; omega
              simp only [oneAt, if_pos h2, hN, if_neg hNt, ite_self]
            have tok1 : True := trivial
            by_cases c3 : p + 3 ≤ l.length
            · gi_wp2_with (first | (gi_at_call 37; clear tok1; refine (take_in F _ h37 h23 hro (by omega) 2 p (by omega) W.heap.size Bn hne l hlen (by omega) hby A0 c0 _ cAT fAT cBn hAd hrr).mono ?_; rintro e w1 ⟨hg1, -, hf1, ht1⟩; rw [if_pos h2, hN] at ht1; obtain ⟨rfl, hc1⟩ := ht1; have hB1 := grow hBl hg1; have tok2 : True := trivial; have hJ1 := hJg hJs hg1; have cBn1 : w1.cell? ⟨Bn, 0, none⟩ = some (.slice A0 l.length c0) := cBg cBn hg1; have hrr1 : Kd.C (Kd.int .u8) w1 A0 l.length l := Kd.C_below hr0 hB1) | (gi_at_call 34; refine (within_in F _ h34 hro _ _ _ _).mono ?_; rintro e w1' ⟨rfl, rfl⟩; rw [hin]) | (gi_at_call 23; refine (must_in F _ h23 hro true _).mono ?_; rintro e w1' ⟨he, rfl⟩; obtain rfl := (if_pos rfl).mp he) | (gi_at_call 37; clear tok2; refine (take_in F _ h37 h23 hro (by omega) 1 (p + 2) (by omega) W.heap.size Bn hne l hlen (by omega) hby A0 c0 _ hc1 hf1 cBn1 hAd hrr1).mono ?_; rintro e w2 ⟨hg2, -, hf2, ht2⟩; rw [if_pos (by omega)] at ht2; obtain ⟨rfl, hc2⟩ := ht2; have hB2 := grow hB1 hg2; have tok3 : True := trivial; have hJ2 := hJg hJ1 hg2; have cBn2 : w2.cell? ⟨Bn, 0, none⟩ = some (.slice A0 l.length c0) := cBg cBn1 hg2; have hrr2 : Kd.C (Kd.int .u8) w2 A0 l.length l := Kd.C_below hr0 hB2) | (gi_at_call 37; clear tok3; refine (take_in F _ h37 h23 hro (by omega) 1 (p + 3) (by omega) W.heap.size Bn hne l hlen (by omega) hby A0 c0 _ hc2 hf2 cBn2 hAd hrr2).mono ?_; rintro e w3 ⟨hg3, -, hf3, ht3⟩; rw [if_neg (by omega)] at ht3; subst ht3; have hJ3 := hJg hJ2 hg3))
              exact ⟨rfl, .inr ⟨failCh, rfl, hdie _ hJ3 hno⟩⟩
            · gi_wp2_with (first | (gi_at_call 37; clear tok1; refine (take_in F _ h37 h23 hro (by omega) 2 p (by omega) W.heap.size Bn hne l hlen (by omega) hby A0 c0 _ cAT fAT cBn hAd hrr).mono ?_; rintro e w1 ⟨hg1, -, hf1, ht1⟩; rw [if_pos h2, hN] at ht1; obtain ⟨rfl, hc1⟩ := ht1; have hB1 := grow hBl hg1; have tok2 : True := trivial; have hJ1 := hJg hJs hg1; have cBn1 : w1.cell? ⟨Bn, 0, none⟩ = some (.slice A0 l.length c0) := cBg cBn hg1; have hrr1 : Kd.C (Kd.int .u8) w1 A0 l.length l := Kd.C_below hr0 hB1) | (gi_at_call 34; refine (within_in F _ h34 hro _ _ _ _).mono ?_; rintro e w1' ⟨rfl, rfl⟩; rw [hin]) | (gi_at_call 23; refine (must_in F _ h23 hro true _).mono ?_; rintro e w1' ⟨he, rfl⟩; obtain rfl := (if_pos rfl).mp he) | (gi_at_call 37; clear tok2; refine (take_in F _ h37 h23 hro (by omega) 1 (p + 2) (by omega) W.heap.size Bn hne l hlen (by omega) hby A0 c0 _ hc1 hf1 cBn1 hAd hrr1).mono ?_; rintro e w2 ⟨hg2, -, hf2, ht2⟩; rw [if_neg (by omega)] at ht2; subst ht2; have hJ2 := hJg hJ1 hg2))
              exact ⟨rfl, .inr ⟨failCh, rfl, hdie _ hJ2 hno⟩⟩
        · have hno : oneAt l p = none := by simp only [oneAt, if_pos h2, hN, if_neg h3]
          have tok1 : True := trivial
          by_cases hm : Int.tmod N 4 = 0
          · have hmb : (Int.tmod N 4 == 0) = true := by rw [hm]; rfl
            have hin : inB (Int.tdiv N 4) 2 65 = false := by
              cases hq : inB (Int.tdiv N 4) 2 65 with
              | true => exact absurd ⟨hm, hq⟩ h3
              | false => rfl
            obtain ⟨D, hD⟩ : ∃ D, Int.tdiv N 4 = D := ⟨_, rfl⟩
            rw [hD] at hin
            have hwD : wrap64 D = D := IntWalk.wrap64_in _ (by rw [← hD, Int.tdiv_eq_ediv_of_nonneg hNb.1]; omega)
            clear h3 hNb
            gi_wp2_with (first | (gi_at_call 37; clear tok1; refine (take_in F _ h37 h23 hro (by omega) 2 p (by omega) W.heap.size Bn hne l hlen (by omega) hby A0 c0 _ cAT fAT cBn hAd hrr).mono ?_; rintro e w1 ⟨hg1, -, hf1, ht1⟩; rw [if_pos h2, hN] at ht1; obtain ⟨rfl, hc1⟩ := ht1; have hB1 := grow hBl hg1; have tok2 : True := trivial; have hJ1 := hJg hJs hg1; have cBn1 : w1.cell? ⟨Bn, 0, none⟩ = some (.slice A0 l.length c0) := cBg cBn hg1; have hrr1 : Kd.C (Kd.int .u8) w1 A0 l.length l := Kd.C_below hr0 hB1) | (gi_at_call 34; refine (within_in F _ h34 hro _ _ _ _).mono ?_; rintro e w1' ⟨rfl, rfl⟩; rw [hin]) | (gi_at_call 23; refine (must_in F _ h23 hro false _).mono ?_; rintro e w1' ⟨he, rfl⟩; obtain rfl := (if_neg Bool.false_ne_true).mp he))
            exact ⟨rfl, .inr ⟨failCh, rfl, hdie _ hJ1 hno⟩⟩
          · have hmb : (Int.tmod N 4 == 0) = false := by simpa using hm
            clear h3 hNb
            gi_wp2_with (first | (gi_at_call 37; clear tok1; refine (take_in F _ h37 h23 hro (by omega) 2 p (by omega) W.heap.size Bn hne l hlen (by omega) hby A0 c0 _ cAT fAT cBn hAd hrr).mono ?_; rintro e w1 ⟨hg1, -, hf1, ht1⟩; rw [if_pos h2, hN] at ht1; obtain ⟨rfl, hc1⟩ := ht1; have hB1 := grow hBl hg1; have tok2 : True := trivial; have hJ1 := hJg hJs hg1; have cBn1 : w1.cell? ⟨Bn, 0, none⟩ = some (.slice A0 l.length c0) := cBg cBn hg1; have hrr1 : Kd.C (Kd.int .u8) w1 A0 l.length l := Kd.C_below hr0 hB1) | (gi_at_call 23; refine (must_in F _ h23 hro false _).mono ?_; rintro e w1' ⟨he, rfl⟩; obtain rfl := (if_neg Bool.false_ne_true).mp he))
            exact ⟨rfl, .inr ⟨failCh, rfl, hdie _ hJ1 hno⟩⟩
      · have hno : oneAt l p = none := by simp only [oneAt, if_neg h2]
        gi_wp2_with (gi_at_call 37; refine (take_in F _ h37 h23 hro (by omega) 2 p (by omega) W.heap.size Bn hne l hlen (by omega) hby A0 c0 _ cAT fAT cBn hAd hrr).mono ?_; rintro e w1 ⟨hg1, -, hf1, ht1⟩; rw [if_neg h2] at ht1; subst ht1; have hJ1 := hJg hJs hg1)
        exact ⟨rfl, .inr ⟨failCh, rfl, hdie _ hJ1 hno⟩⟩
    · have hsc : scanAt l k p = ([], true) := by
        cases k with
        | zero => omega
        | succ k => simp [scanAt, hpl]
      have hlp : decide ((p : Int) < (l.length : Int)) = false := by simp; omega
      gi_wp2
      rw [Exit.noGoto_normal]
      go_end0
      exact .inl ⟨_, pre, rfl, ⟨by rw [hS1, hsc]; simp, by rw [hS2, hsc]⟩, hJs⟩

end Go.Proofs.Ytecghmlojllkdaa.P

import Derived.Test.YtecghmlojllkdaaB1
import Derived.Test.YtecghmlojllkdaaA1
import Derived.OwnWalkIn
import Derived.TacticsInMore
import Derived.LoopNIn
import Derived.LoopIn
namespace Go.Proofs.Ytecghmlojllkdaa.P
open Go.RowKit Go.Shelf Go.Proofs.Ytecghmlojllkdaa.RangePanic Go.Proofs.YtecghmlojllkdaaW.PrintWords Go.Proofs.YtecghmlojllkdaaW.PrintLast Go.Proofs.YtecghmlojllkdaaW.PrintMore
set_option linter.unusedVariables false
set_option linter.unusedSimpArgs false

attribute [local go_sem] Oper.semAt_some
def failCh : List PanicEntry := [{ v := .iface 51 (.agg #[]), recovered := false }]

set_option maxRecDepth 100000 in
set_option maxHeartbeats 2000000 in
theorem must_in (F : Fence) (n : Nat) (h23 : F.fn 23) (hro : F.round = none) (b : Bool) (w : World) :
    CallsIn F n Try.prog 23 #[.bool b] w fun e w' => (if b then e = .returned (.tuple #[]) else e = .panicked failCh) ∧ w' = w := by
  refine callsIn_of_wp Try.func23 rfl h23 ?_ hro
  simp only [Try.ntmps23, List.size_toArray, List.length_cons, List.length_nil, Nat.reduceAdd, Nat.reduceSub, Array.replicate_succ, Array.replicate_zero, List.push_toArray, List.append_toArray, List.nil_append, List.cons_append]
  cases b with
  | true =>
    gi_wp2
    go_end0
    exact ⟨rfl, rfl⟩
  | false =>
    gi_wp2
    exact ⟨rfl, rfl, rfl⟩

set_option maxRecDepth 100000 in
set_option maxHeartbeats 2000000 in
theorem within_in (F : Fence) (n : Nat) (h34 : F.fn 34) (hro : F.round = none) (x a b : Int) (w : World) :
    CallsIn F n Try.prog 34 #[.int .i64 x, .int .i64 a, .int .i64 b] w fun e w' => e = .returned (.bool (inB x a b)) ∧ w' = w := by
  refine callsIn_of_wp Try.func34 rfl h34 ?_ hro
  simp only [Try.ntmps34, List.size_toArray, List.length_cons, List.length_nil, Nat.reduceAdd, Nat.reduceSub, Array.replicate_succ, Array.replicate_zero, List.push_toArray, List.append_toArray, List.nil_append, List.cons_append]
  by_cases h : a ≤ x
  · gi_wp2
    exact bodyPost_ret (results_tmp rfl _ _ _) rfl ⟨by simp [inB, h], rfl⟩
  · gi_wp2
    exact bodyPost_ret (results_tmp rfl _ _ _) rfl ⟨by simp [inB]; omega, rfl⟩

theorem bits_or256 (a b : Int) (h0 : 0 ≤ a) (h1 : a * 256 + 255 ≤ 9223372036854775807) (h2 : 0 ≤ b) (h3 : b < 256) : bits BinOp.or IntKind.i64 (a * 256) b = a * 256 + b := by
  obtain ⟨A, rfl⟩ := Int.eq_ofNat_of_zero_le h0
  obtain ⟨B, rfl⟩ := Int.eq_ofNat_of_zero_le h2
  have e1 : ((A : Int) * 256) = ((A * 256 : Nat) : Int) := by omega
  rw [e1]
  unfold bits
  dsimp only
  rw [BitVec.toNat_or]
  simp only [IntKind.bits, BitVec.ofInt_natCast, BitVec.toNat_ofNat]
  rw [Nat.mod_eq_of_lt (by omega), Nat.mod_eq_of_lt (by omega), show A * 256 = A <<< 8 by rw [Nat.shiftLeft_eq], ← Nat.shiftLeft_add_eq_or_of_lt (by omega : B < 2 ^ 8), Nat.shiftLeft_eq]
  rw [IntWalk.i64_in _ (by omega)]
  omega
theorem grown_trans' {w w1 w2 : World} {b : Nat} (h : w.grownBy w1 (some b)) (k : w1.grownBy w2 (some b)) : w.grownBy w2 (some b) := by
  obtain ⟨a1, a2, a3, a4, a5⟩ := h
  obtain ⟨b1, b2, b3, b4, b5⟩ := k
  exact ⟨b1.trans a1, b2.trans a2, b3.trans a3, Nat.le_trans a4 b4, fun j hj hn => (b5 j (by omega) hn).trans (a5 j hj hn)⟩
theorem size_setCell' (w : World) (a : Addr) (v : Value) : (w.setCell a v).heap.size = w.heap.size := by simp [World.setCell]
/-- A number, most significant byte first. -/
def beNum (xs : List Int) : Int := xs.foldl (fun a b => a * 256 + b) 0
theorem beNum_snoc (xs : List Int) (b : Int) : beNum (xs ++ [b]) = beNum xs * 256 + b := by simp [beNum]
def Bytes (l : List Int) : Prop := ∀ x ∈ l, 0 ≤ x ∧ x < 256
theorem beNum_bound (xs : List Int) (h : Bytes xs) : 0 ≤ beNum xs ∧ beNum xs < 256 ^ xs.length := by
  have : ∀ (xs : List Int) (a : Int) (m : Nat), Bytes xs → 0 ≤ a → a < 256 ^ m → 0 ≤ xs.foldl (fun a b => a * 256 + b) a ∧ xs.foldl (fun a b => a * 256 + b) a < 256 ^ (m + xs.length) := by
    intro xs
    induction xs with
    | nil => intro a m _ h0 h1; simpa using ⟨h0, h1⟩
    | cons b xs ih =>
      intro a m hb h0 h1
      have hbb := hb b (by simp)
      have h2 : a * 256 + b < 256 ^ (m + 1) := by rw [Int.pow_succ]; omega
      have := ih (a * 256 + b) (m + 1) (fun x hx => hb x (by simp [hx])) (by omega) h2
      simp only [List.foldl_cons, List.length_cons]
      rw [show m + (xs.length + 1) = m + 1 + xs.length by omega]
      exact this
  have := this xs 0 0 h (by omega) (by simp)
  simpa [beNum] using this

set_option maxRecDepth 100000 in
set_option maxHeartbeats 4000000 in
theorem take_in (F : Fence) (n : Nat) (h37 : F.fn 37) (h23 : F.fn 23) (hro : F.round = none) (hn : 1 ≤ n) (m p : Nat) (hm : m ≤ 4) (AT Bn : Nat) (hne : AT ≠ Bn) (l : List Int) (hlen : l.length ≤ 65536) (hp : p ≤ l.length) (hby : Bytes l) (A0 : Option Addr) (c0 : Nat)
    (w : World) (hc : w.cell? ⟨AT, 0, none⟩ = some (.int .i64 p)) (hf : w.frozen? ⟨AT, 0, none⟩ = false) (hs : w.cell? ⟨Bn, 0, none⟩ = some (.slice A0 l.length c0)) (hA : ∀ ad, A0 = some ad → 0 < l.length → ad.block ≠ AT) (hr : Kd.C (Kd.int .u8) w A0 l.length l) :
    CallsIn F n Try.prog 37 #[.int .i64 m, .pointer (some ⟨AT, 0, none⟩), .pointer (some ⟨Bn, 0, none⟩)] w fun e w' => w.grownBy w' (some AT) ∧ w'.heap.size = w.heap.size ∧ w'.frozen? ⟨AT, 0, none⟩ = false ∧
      (if p + m ≤ l.length then e = .returned (.int .i64 (beNum ((l.drop p).take m))) ∧ w'.cell? ⟨AT, 0, none⟩ = some (.int .i64 ((p + m : Nat) : Int)) else e = .panicked failCh) := by
  refine callsIn_of_wp Try.func37 rfl h37 ?_ hro
  simp only [Try.ntmps37, List.size_toArray, List.length_cons, List.length_nil, Nat.reduceAdd, Nat.reduceSub, Array.replicate_succ, Array.replicate_zero, List.push_toArray, List.append_toArray, List.nil_append, List.cons_append]
  have hw1 : IntKind.i64.wrap ((p : Int) + (m : Int)) = (p : Int) + (m : Int) := IntWalk.i64_in _ (by omega)
  by_cases hpm : p + m ≤ l.length
  · have hd : decide ((p : Int) + (m : Int) ≤ (l.length : Int)) = true := by simp; omega
    gi_wp2_with (gi_at_call 23; refine (must_in F _ h23 hro true _).mono ?_; rintro e w' ⟨he, rfl⟩; obtain rfl := (if_pos rfl).mp he)
    gi_loopw [5, 14] (fun vx vi wr => ∃ k : Nat, k ≤ m ∧ vi = .int .i64 k ∧ vx = .int .i64 (beNum ((l.drop p).take k)) ∧ wr.cell? ⟨AT, 0, none⟩ = some (.int .i64 ((p + k : Nat) : Int)) ∧ wr.frozen? ⟨AT, 0, none⟩ = false ∧ w'.grownBy wr (some AT) ∧ wr.heap.size = w'.heap.size)
      (fun _ i _ => m - (intOf i).toNat)
    case atStart => exact ⟨0, Nat.zero_le _, rfl, by simp [beNum], by simpa using hc, hf, ⟨rfl, rfl, rfl, Nat.le_refl _, fun _ _ _ => rfl⟩, rfl⟩
    case round =>
      obtain ⟨k, hk, rfl, rfl, hcr, hfr, hg, hsz⟩ := hrel
      have hsr : wr.cell? ⟨Bn, 0, none⟩ = some (.slice A0 l.length c0) := (World.cell?_of_block (hg.block Bn (World.block_lt_of_cell? _ _ hs) (fun e => by injection e with e; exact hne e.symm))).trans hs
      by_cases hlt : k < m
      · obtain ⟨ad, rfl, hx⟩ := Kd.at_int hr ((p + k : Nat) : Int) (by omega) (by omega)
        have hblk : (ad.add (p + k)).block = ad.block := by unfold Addr.add; split <;> rfl
        have hx' : w'.cell? (ad.add (p + k)) = some (.int .u8 (rd l ((p + k : Nat) : Int))) := hx
        have hxr : wr.cell? (ad.add (p + k)) = some (.int .u8 (rd l ((p + k : Nat) : Int))) :=
          (World.cell?_of_block (hg.block _ (World.block_lt_of_cell? _ _ hx') (fun e => by injection e with e; exact hA _ rfl (by omega) (hblk ▸ e)))).trans hx'
        have hrb : 0 ≤ rd l ((p + k : Nat) : Int) ∧ rd l ((p + k : Nat) : Int) < 256 := by
          have h : p + k < l.length := by omega
          have : rd l ((p + k : Nat) : Int) = l[p + k] := by rw [rd, Int.toNat_natCast]; simp [h]
          rw [this]; exact hby _ (List.getElem_mem h)
        have hb0 := beNum_bound ((l.drop p).take k) (fun x hx => hby x (List.mem_of_mem_drop (List.mem_of_mem_take hx)))
        have hk3 : ((l.drop p).take k).length = k := by simp; omega
        rw [hk3] at hb0
        have hk4 : (256 : Int) ^ k ≤ 16777216 := by
          have : k = 0 ∨ k = 1 ∨ k = 2 ∨ k = 3 := by omega
          rcases this with rfl | rfl | rfl | rfl <;> simp
        have hw2 : wrap64 (beNum ((l.drop p).take k) * 256) = beNum ((l.drop p).take k) * 256 := IntWalk.wrap64_in _ (by omega)
        have hpk : (0 : Int) ≤ ((p + k : Nat) : Int) := by omega
        have hpl : ((p + k : Nat) : Int) < (l.length : Int) := by omega
        have hbn : 0 ≤ beNum ((l.drop p).take k) ∧ beNum ((l.drop p).take k) < 16777216 := ⟨hb0.1, by omega⟩
        clear hb0 hk3 hk4
        have hwr : wrap64 (rd l ((p : Int) + (k : Int))) = rd l ((p + k : Nat) : Int) := by rw [show (p : Int) + (k : Int) = ((p + k : Nat) : Int) by omega]; exact IntWalk.wrap64_in _ (by omega)
        have hor := bits_or256 (beNum ((l.drop p).take k)) (rd l ((p + k : Nat) : Int)) hbn.1 (by omega) hrb.1 hrb.2
        have hnx : beNum ((l.drop p).take (k + 1)) = beNum ((l.drop p).take k) * 256 + rd l ((p + k : Nat) : Int) := by
          rw [List.take_succ_eq_append_getElem (by simp; omega), beNum_snoc]
          congr 1
          rw [rd, Int.toNat_natCast]; simp [show p + k < l.length by omega]
        have HB := Lib.hid hbn
        clear hbn
        gi_wp2
        go_roundw
        case rel => exact ⟨k + 1, by omega, by simp, by rw [← Int.natCast_add, hor, hnx], by rw [World.cell?_setCell_same' _ _ _ (by rw [hcr]; rfl)]; congr 2, by rw [World.frozen?_setCell]; exact hfr, grown_trans' hg (grownBy_setCell' _ _ _), (size_setCell' _ _ _).trans hsz⟩
        case measure => simp [intOf]; omega
      · obtain rfl : k = m := by omega
        gi_wp2
        refine bodyPost_ret (results_tmp rfl _ _ _) rfl ⟨hg, hsz, hfr, ?_⟩
        exact ⟨rfl, hcr⟩
  · have hd : decide ((p : Int) + (m : Int) ≤ (l.length : Int)) = false := by simp; omega
    gi_wp2_with (gi_at_call 23; refine (must_in F _ h23 hro false _).mono ?_; rintro e w' ⟨he, rfl⟩; obtain rfl := (if_neg Bool.false_ne_true).mp he)
    refine ⟨rfl, ⟨rfl, rfl, rfl, Nat.le_refl _, fun _ _ _ => rfl⟩, rfl, hf, rfl⟩

end Go.Proofs.Ytecghmlojllkdaa.P

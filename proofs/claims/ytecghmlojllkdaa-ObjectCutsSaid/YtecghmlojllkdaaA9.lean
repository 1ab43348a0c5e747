import Derived.Test.YtecghmlojllkdaaP4
import Derived.Test.YtecghmlojllkdaaA8
namespace Go.Proofs.Ytecghmlojllkdaa.P
open Go.RowKit Go.Proofs.YtecghmlojllkdaaW.PrintWords Go.Proofs.YtecghmlojllkdaaW.PrintLast Go.Proofs.YtecghmlojllkdaaW.PrintMore
set_option linter.unusedVariables false
set_option linter.unusedSimpArgs false

def law_known.f : Option Bool := some true

def knownObj : S32 := ⟨5, 1, [30]⟩
theorem knownRaw : object_Raw.f 60 [knownObj] = some ([0, 8, 5, 1, 0, 0, 0, 30], 0) := by kernel_rfl
theorem knownSes : okSes 1 1 (wordsSes 2 5) = true := by kernel_rfl
theorem knownMay : maySes 2 5 = true := by kernel_rfl

theorem knownRd : rd (wordsSes 2 5) 1 = 285212677 := by kernel_rfl
theorem knownLen : (wordsSes 2 5).length = 2 := by kernel_rfl
theorem knownTh : th1Ses (wordsSes 2 5) = 5 := by kernel_rfl

theorem knownStr : (strOfNums [0, 8, 5, 1, 0, 0, 0, 30]).toList = [0, 8, 5, 1, 0, 0, 0, 30] := by kernel_rfl

theorem C_single {w : World} {g : Nat} {t : TypeId} {x : S32} {A : Option Addr} {c : Nat} (h : w.heap[g]? = some (.cells #[.int .i64 x.f0, .int .i64 x.f1, .slice A x.f2.length c] t (0, 0))) (hl : x.f2.length ≤ c) (hC : Kd.C (Kd.int .i64) w A x.f2.length x.f2) : Kd.C k32 w (some ⟨g, 0, none⟩) 1 [x] := by
  refine ⟨rfl, by omega, fun _ => ⟨_, rfl, fun j p hj => ?_⟩⟩
  obtain ⟨rfl, rfl⟩ : j = 0 ∧ x = p := by
    cases j with
    | zero => simpa using hj
    | succ j => simp at hj
  refine ⟨_, rfl, k32_mk w x hl hC, fun i u hu => ?_⟩
  have : ((⟨g, 0, none⟩ : Addr).add (0 * k32.sz + i)) = ⟨g, i, none⟩ := by unfold Addr.add; split <;> simp_all
  rw [this, blk_cell h i]
  simpa using hu

set_option maxHeartbeats 6400000 in
set_option maxRecDepth 100000 in
theorem law_known.calls (r : Bool) (w : World) (h : law_known.f = some r) : Calls Try.prog 7 #[] w fun e w' => e = .returned (.bool r) ∧ Below w.heap.size w w' := by
  injection h with h
  subst h
  go_enter Try.func7, Try.ntmps7
  go_wp2_with (first
    | (go_at_call 14; refine (period 30 _).mono ?_; rintro e w1 h1; obtain ⟨v, rfl, hr1, hb1⟩ := (show ObjR 5 1 [30] 0 w e w1 from h1); obtain ⟨A1, c1, rfl, hl1, hC1⟩ := Kd.R_reads hr1; clear h1 hr1)
    | (go_at_call 8; have hCx : Kd.C k32 ((w1.alloc (.cells #[.int .i64 5, .int .i64 1, .slice A1 1 c1] 32)).alloc (.cells #[.int .i64 5, .int .i64 1, .slice A1 1 c1] 32)) (some ⟨w1.heap.size + 1, 0, none⟩) 1 [knownObj] := C_single (x := knownObj) (by have := blk_new (w1.alloc (.cells #[.int .i64 5, .int .i64 1, .slice A1 1 c1] 32)) (.cells #[.int .i64 5, .int .i64 1, .slice A1 1 c1] 32); rwa [World.size_alloc] at this) hl1 (Kd.C_alloc (Kd.C_alloc hC1 _) _); refine (object_Raw.calls 60 _ 1 [knownObj] _ _ _ hCx (by simp) knownRaw).mono ?_; rintro e w3 ⟨v3, rfl, hr3, hb3⟩; obtain ⟨A3, c3, rfl, hl3, hC3⟩ := Kd.R_reads hr3; have hB3 := below_call (((Below.refl _ _).alloc (by simp) _).alloc (by simp) _) hb3)
    | (go_at_call 15; refine (wrapSes 2 5 _).mono ?_; rw [if_pos knownMay]; rintro e w4 ⟨v, rfl, hr4, hb4⟩; obtain ⟨A4, c4, rfl, hl4, hC4⟩ := Kd.R_reads hr4; clear hr4)
    | (go_at_call 16; have e5 := blk_new w4 (.cells #[.int .i64 1, .int .i64 1, .slice A4 (wordsSes 2 5).length c4] 32); refine (asSession 1 1 A4 c4 (wordsSes 2 5) _ (Kd.C_alloc hC4 _) hl4 knownSes).mono ?_; rintro e w6 ⟨rfl, hb6⟩; have b7 := blk_alloc (blk_below e5 hb6) (.cells #[.int .i64 (th0Ses (wordsSes 2 5)), .int .i64 5] 45); have c72 : (w6.alloc (.cells #[.int .i64 (th0Ses (wordsSes 2 5)), .int .i64 5] 45)).cell? ⟨w4.heap.size, 2, none⟩ = some (.slice A4 (wordsSes 2 5).length c4) := (blk_cell b7 2).trans rfl; have hz7 : w4.heap.size < w6.heap.size := blk_lt (blk_below e5 hb6); have hC47 := Kd.C_alloc (Kd.C_below (Kd.C_alloc hC4 (.cells #[.int .i64 1, .int .i64 1, .slice A4 (wordsSes 2 5).length c4] 32)) hb6) (.cells #[.int .i64 (th0Ses (wordsSes 2 5)), .int .i64 5] 45); have hC37 := Kd.C_alloc (Kd.C_below (Kd.C_alloc (Kd.C_below hC3 hb4) (.cells #[.int .i64 1, .int .i64 1, .slice A4 (wordsSes 2 5).length c4] 32)) hb6) (.cells #[.int .i64 (th0Ses (wordsSes 2 5)), .int .i64 5] 45); have hcv := Kd.C_string (P := Try.prog) (A := A3) (n := 8) (c := c3) Try.underlying25 Try.underlying5 Try.underlying9 hC37; obtain ⟨ad, rfl, hx7⟩ := Kd.at_int hC47 1 (by omega) (by simp [wordsSes]); rw [knownRd] at hx7; have hx7a := hx7; have hx7b := hx7; simp only [Int.reduceToNat] at hx7a; simp [Addr.add] at hx7b; clear hx7; have hw2 := knownLen; have hth := knownTh; have hst := knownStr; have HB6 := Lib.hid hb6; have HB3 := Lib.hid hB3; have HB1 := Lib.hid hb1; have HB4 := Lib.hid hb4; clear hC1 hC3 hC4 hb6 hb4 hb3 hb1 hB3 hl1 hl3 hl4 hC47 hC37 hCx hr3 e5 b7))
  go_ret
  refine ⟨rfl, ?_⟩
  have k4 := below_call (below_call HB1.out HB3.out) HB4.out
  exact (below_call (k4.alloc k4.size _) HB6.out).alloc (below_call (k4.alloc k4.size _) HB6.out).size _

end Go.Proofs.Ytecghmlojllkdaa.P

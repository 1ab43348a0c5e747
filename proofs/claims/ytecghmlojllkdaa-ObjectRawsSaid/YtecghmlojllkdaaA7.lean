import Derived.Test.YtecghmlojllkdaaA5
import Derived.Deep.RegionWith
namespace Go.Proofs.Ytecghmlojllkdaa.P
open Go.RowKit Go.Proofs.YtecghmlojllkdaaW.PrintWords Go.Proofs.YtecghmlojllkdaaW.PrintLast Go.Proofs.YtecghmlojllkdaaW.PrintMore
set_option linter.unusedVariables false
set_option linter.unusedSimpArgs false

def okSes (c t : Int) (ws : List Int) : Bool := c == 1 && t == 1 && (ws.length == 2 && (maySes (th0Ses ws) (th1Ses ws) && decide (wordsSes (th0Ses ws) (th1Ses ws) = ws)))

/-- What As.. hands back. -/
def SaidOf (v : Value) (n : Int) (w : World) (e : Ending) (w' : World) : Prop := e = .returned (.tuple #[v, .int .i64 n]) ∧ Below w.heap.size w w'

set_option maxHeartbeats 6400000 in
set_option maxRecDepth 100000 in
theorem asSes (c t : Int) (A0 : Option Addr) (c0 : Nat) (ws : List Int) (w : World) (hr : Kd.C (Kd.int .i64) w A0 ws.length ws) (hc0 : ws.length ≤ c0) :
    Calls Try.prog 30 #[.agg #[.int .i64 1, .int .i64 1, .int .i64 2, .func (.func 40) #[] #[], .func (.func 42) #[] #[], .func (.func 43) #[] #[]], .agg #[.int .i64 c, .int .i64 t, .slice A0 ws.length c0]] w
      (if okSes c t ws then SaidOf (.agg #[.int .i64 (th0Ses ws), .int .i64 (th1Ses ws)]) 0 w else SaidOf (.agg #[.int .i64 0, .int .i64 0]) 171 w) := by
  have HR := Lib.hid hr
  have HC := Lib.hid hc0
  clear hr hc0
  have hb4 : ∀ o1 o2 o3 o4, Below w.heap.size w ((((w.alloc o1).alloc o2).alloc o3).alloc o4) := fun _ _ _ _ => ((((Below.refl _ _).alloc (by simp) _).alloc (by simp) _).alloc (by simp; omega) _).alloc (by simp; omega) _
  have HB4 := Lib.hid hb4
  clear hb4
  by_cases e1 : c = 1
  · by_cases e2 : t = 1
    · by_cases e3 : ws.length = 2
      · have q1 : (c != 1) = false := by simp [e1]
        have q2 : (t != 1) = false := by simp [e2]
        have q3 : (((ws.length : Nat) : Int) != 2) = false := by simp; omega
        have HL := Lib.hid e3
        have HQ := Lib.hid (show okSes c t ws = (maySes (th0Ses ws) (th1Ses ws) && decide (wordsSes (th0Ses ws) (th1Ses ws) = ws)) by simp [okSes, e1, e2, e3])
        rw [HQ.out]
        clear e1 e2 e3
        cases hin : maySes (th0Ses ws) (th1Ses ws) with
        | false =>
          simp only [Bool.false_and, Bool.false_eq_true, if_false]
          go_enter Try.func30, Try.ntmps30
          go_wp2_with fail
          refine (sesThing _ _ ws _ HL.out (Kd.C_below HR.out (HB4.out _ _ _ _))).mono ?_
          rintro e w1 ⟨rfl, hb⟩
          obtain ⟨hc, hf⟩ := bcell hb
          have HB := below_call (HB4.out _ _ _ _) hb
          have hz : w.heap.size + 1 + 1 + 1 + 1 ≤ w1.heap.size := by simpa using hb.size
          have ce3 : w1.cell? ⟨w.heap.size, 3, none⟩ = some (.func (.func 40) #[] #[]) := by rw [hc _ _ (by simp; try omega)]; simp [go_sem]
          have ce5 : w1.cell? ⟨w.heap.size, 5, none⟩ = some (.func (.func 43) #[] #[]) := by rw [hc _ _ (by simp; try omega)]; simp [go_sem]
          have co2 : w1.cell? ⟨w.heap.size + 1, 2, none⟩ = some (.slice A0 ws.length c0) := by rw [hc _ _ (by simp; try omega)]; simp [go_sem]
          have cr0 : w1.cell? ⟨w.heap.size + 1 + 1, 0, none⟩ = some (.int .i64 0) := by rw [hc _ _ (by simp; try omega)]; simp [go_sem]
          have cr1 : w1.cell? ⟨w.heap.size + 1 + 1, 1, none⟩ = some (.int .i64 0) := by rw [hc _ _ (by simp; try omega)]; simp [go_sem]
          have cn0 : w1.cell? ⟨w.heap.size + 1 + 1 + 1, 0, none⟩ = some (.int .i64 0) := by rw [hc _ _ (by simp; try omega)]; simp [go_sem]
          have cn1 : w1.cell? ⟨w.heap.size + 1 + 1 + 1, 1, none⟩ = some (.int .i64 0) := by rw [hc _ _ (by simp; try omega)]; simp [go_sem]
          have fz0 : w1.frozen? ⟨w.heap.size + 1 + 1, 0, none⟩ = false := by rw [hf _ _ (by simp; try omega)]; simp [go_sem]
          have fz1 : w1.frozen? ⟨w.heap.size + 1 + 1, 1, none⟩ = false := by rw [hf _ _ (by simp; try omega)]; simp [go_sem]
          clear hc hf hb
          go_wp2_with fail
          obtain ⟨W, hW⟩ : ∃ W, w1.alloc (.cells #[.int .i64 (th0Ses ws), .int .i64 (th1Ses ws)] 45) = W := ⟨_, rfl⟩
          have HBW : Below w.heap.size w W := hW ▸ HB.alloc HB.size _
          have z0 : w.heap.size < W.heap.size := by rw [← hW]; simp; omega
          have z1 : w.heap.size + 1 < W.heap.size := by rw [← hW]; simp; omega
          have z2 : w.heap.size + 1 + 1 < W.heap.size := by rw [← hW]; simp; omega
          have z3 : w.heap.size + 1 + 1 + 1 < W.heap.size := by rw [← hW]; simp; omega
          have z7 : w1.heap.size < W.heap.size := by rw [← hW]; simp
          replace ce3 : W.cell? ⟨w.heap.size, 3, none⟩ = some (.func (.func 40) #[] #[]) := by rw [← hW]; exact (Below.cell ((Below.refl _ _).alloc (Nat.le_refl _) _) (World.block_lt_of_cell? _ _ ce3)).trans ce3
          replace ce5 : W.cell? ⟨w.heap.size, 5, none⟩ = some (.func (.func 43) #[] #[]) := by rw [← hW]; exact (Below.cell ((Below.refl _ _).alloc (Nat.le_refl _) _) (World.block_lt_of_cell? _ _ ce5)).trans ce5
          replace co2 : W.cell? ⟨w.heap.size + 1, 2, none⟩ = some (.slice A0 ws.length c0) := by rw [← hW]; exact (Below.cell ((Below.refl _ _).alloc (Nat.le_refl _) _) (World.block_lt_of_cell? _ _ co2)).trans co2
          replace cr0 : W.cell? ⟨w.heap.size + 1 + 1, 0, none⟩ = some (.int .i64 0) := by rw [← hW]; exact (Below.cell ((Below.refl _ _).alloc (Nat.le_refl _) _) (World.block_lt_of_cell? _ _ cr0)).trans cr0
          replace cr1 : W.cell? ⟨w.heap.size + 1 + 1, 1, none⟩ = some (.int .i64 0) := by rw [← hW]; exact (Below.cell ((Below.refl _ _).alloc (Nat.le_refl _) _) (World.block_lt_of_cell? _ _ cr1)).trans cr1
          replace cn0 : W.cell? ⟨w.heap.size + 1 + 1 + 1, 0, none⟩ = some (.int .i64 0) := by rw [← hW]; exact (Below.cell ((Below.refl _ _).alloc (Nat.le_refl _) _) (World.block_lt_of_cell? _ _ cn0)).trans cn0
          replace cn1 : W.cell? ⟨w.heap.size + 1 + 1 + 1, 1, none⟩ = some (.int .i64 0) := by rw [← hW]; exact (Below.cell ((Below.refl _ _).alloc (Nat.le_refl _) _) (World.block_lt_of_cell? _ _ cn1)).trans cn1
          replace fz0 : W.frozen? ⟨w.heap.size + 1 + 1, 0, none⟩ = false := by rw [← hW]; exact (Below.frozen (p := ⟨w.heap.size + 1 + 1, 0, none⟩) ((Below.refl _ w1).alloc (Nat.le_refl _) _) (by show w.heap.size + 1 + 1 < _; omega)).trans fz0
          replace fz1 : W.frozen? ⟨w.heap.size + 1 + 1, 1, none⟩ = false := by rw [← hW]; exact (Below.frozen (p := ⟨w.heap.size + 1 + 1, 1, none⟩) ((Below.refl _ w1).alloc (Nat.le_refl _) _) (by show w.heap.size + 1 + 1 < _; omega)).trans fz1
          have ct0 : W.cell? ⟨w1.heap.size, 0, none⟩ = some (.int .i64 (th0Ses ws)) := by rw [← hW]; simp [go_sem]
          have ct1 : W.cell? ⟨w1.heap.size, 1, none⟩ = some (.int .i64 (th1Ses ws)) := by rw [← hW]; simp [go_sem]
          rw [hW]
          generalize w1.heap.size = B7 at *
          clear hW
          first | (go_region_with (go_at_call 43; refine (sesMay _ _ _).mono ?_; rintro e w2 ⟨rfl, hb2⟩; obtain ⟨hc2, hf2⟩ := bcell hb2)) | fail "x"
          all_goals (
            have dr0 := (hc2 _ _ z2).trans cr0
            have dr1 := (hc2 _ _ z2).trans cr1
            have dn0 := (hc2 _ _ z3).trans cn0
            have dn1 := (hc2 _ _ z3).trans cn1
            have g0 := (hf2 _ _ z2).trans fz0
            have g1 := (hf2 _ _ z2).trans fz1
            go_wp2
            refine bodyPost_ret (v := .tuple #[.agg #[.int .i64 0, .int .i64 0], .int .i64 171]) (by simp [results, Try.results30, go_sem, dr0, dr1]) rfl ⟨rfl, ?_⟩
            iterate 2 (refine Below.setCell (p := ⟨w.heap.size + 1 + 1, _, none⟩) ?_ (by simp; try omega) _)
            exact below_call HBW.drew hb2)
        | true =>
          simp only [Bool.true_and]
          cases hq : decide (wordsSes (th0Ses ws) (th1Ses ws) = ws) with
          | false =>
            simp only [Bool.false_eq_true, if_false]
            go_enter Try.func30, Try.ntmps30
            go_wp2_with fail
            refine (sesThing _ _ ws _ HL.out (Kd.C_below HR.out (HB4.out _ _ _ _))).mono ?_
            rintro e w1 ⟨rfl, hb⟩
            obtain ⟨hc, hf⟩ := bcell hb
            have HB := below_call (HB4.out _ _ _ _) hb
            have hz : w.heap.size + 1 + 1 + 1 + 1 ≤ w1.heap.size := by simpa using hb.size
            have ce3 : w1.cell? ⟨w.heap.size, 3, none⟩ = some (.func (.func 40) #[] #[]) := by rw [hc _ _ (by simp; try omega)]; simp [go_sem]
            have ce5 : w1.cell? ⟨w.heap.size, 5, none⟩ = some (.func (.func 43) #[] #[]) := by rw [hc _ _ (by simp; try omega)]; simp [go_sem]
            have co2 : w1.cell? ⟨w.heap.size + 1, 2, none⟩ = some (.slice A0 ws.length c0) := by rw [hc _ _ (by simp; try omega)]; simp [go_sem]
            have cr0 : w1.cell? ⟨w.heap.size + 1 + 1, 0, none⟩ = some (.int .i64 0) := by rw [hc _ _ (by simp; try omega)]; simp [go_sem]
            have cr1 : w1.cell? ⟨w.heap.size + 1 + 1, 1, none⟩ = some (.int .i64 0) := by rw [hc _ _ (by simp; try omega)]; simp [go_sem]
            have cn0 : w1.cell? ⟨w.heap.size + 1 + 1 + 1, 0, none⟩ = some (.int .i64 0) := by rw [hc _ _ (by simp; try omega)]; simp [go_sem]
            have cn1 : w1.cell? ⟨w.heap.size + 1 + 1 + 1, 1, none⟩ = some (.int .i64 0) := by rw [hc _ _ (by simp; try omega)]; simp [go_sem]
            have fz0 : w1.frozen? ⟨w.heap.size + 1 + 1, 0, none⟩ = false := by rw [hf _ _ (by simp; try omega)]; simp [go_sem]
            have fz1 : w1.frozen? ⟨w.heap.size + 1 + 1, 1, none⟩ = false := by rw [hf _ _ (by simp; try omega)]; simp [go_sem]
            clear hc hf hb
            go_wp2_with fail
            obtain ⟨W, hW⟩ : ∃ W, w1.alloc (.cells #[.int .i64 (th0Ses ws), .int .i64 (th1Ses ws)] 45) = W := ⟨_, rfl⟩
            have HBW : Below w.heap.size w W := hW ▸ HB.alloc HB.size _
            have z0 : w.heap.size < W.heap.size := by rw [← hW]; simp; omega
            have z1 : w.heap.size + 1 < W.heap.size := by rw [← hW]; simp; omega
            have z2 : w.heap.size + 1 + 1 < W.heap.size := by rw [← hW]; simp; omega
            have z3 : w.heap.size + 1 + 1 + 1 < W.heap.size := by rw [← hW]; simp; omega
            have z7 : w1.heap.size < W.heap.size := by rw [← hW]; simp
            replace ce3 : W.cell? ⟨w.heap.size, 3, none⟩ = some (.func (.func 40) #[] #[]) := by rw [← hW]; exact (Below.cell ((Below.refl _ _).alloc (Nat.le_refl _) _) (World.block_lt_of_cell? _ _ ce3)).trans ce3
            replace ce5 : W.cell? ⟨w.heap.size, 5, none⟩ = some (.func (.func 43) #[] #[]) := by rw [← hW]; exact (Below.cell ((Below.refl _ _).alloc (Nat.le_refl _) _) (World.block_lt_of_cell? _ _ ce5)).trans ce5
            replace co2 : W.cell? ⟨w.heap.size + 1, 2, none⟩ = some (.slice A0 ws.length c0) := by rw [← hW]; exact (Below.cell ((Below.refl _ _).alloc (Nat.le_refl _) _) (World.block_lt_of_cell? _ _ co2)).trans co2
            replace cr0 : W.cell? ⟨w.heap.size + 1 + 1, 0, none⟩ = some (.int .i64 0) := by rw [← hW]; exact (Below.cell ((Below.refl _ _).alloc (Nat.le_refl _) _) (World.block_lt_of_cell? _ _ cr0)).trans cr0
            replace cr1 : W.cell? ⟨w.heap.size + 1 + 1, 1, none⟩ = some (.int .i64 0) := by rw [← hW]; exact (Below.cell ((Below.refl _ _).alloc (Nat.le_refl _) _) (World.block_lt_of_cell? _ _ cr1)).trans cr1
            replace cn0 : W.cell? ⟨w.heap.size + 1 + 1 + 1, 0, none⟩ = some (.int .i64 0) := by rw [← hW]; exact (Below.cell ((Below.refl _ _).alloc (Nat.le_refl _) _) (World.block_lt_of_cell? _ _ cn0)).trans cn0
            replace cn1 : W.cell? ⟨w.heap.size + 1 + 1 + 1, 1, none⟩ = some (.int .i64 0) := by rw [← hW]; exact (Below.cell ((Below.refl _ _).alloc (Nat.le_refl _) _) (World.block_lt_of_cell? _ _ cn1)).trans cn1
            replace fz0 : W.frozen? ⟨w.heap.size + 1 + 1, 0, none⟩ = false := by rw [← hW]; exact (Below.frozen (p := ⟨w.heap.size + 1 + 1, 0, none⟩) ((Below.refl _ w1).alloc (Nat.le_refl _) _) (by show w.heap.size + 1 + 1 < _; omega)).trans fz0
            replace fz1 : W.frozen? ⟨w.heap.size + 1 + 1, 1, none⟩ = false := by rw [← hW]; exact (Below.frozen (p := ⟨w.heap.size + 1 + 1, 1, none⟩) ((Below.refl _ w1).alloc (Nat.le_refl _) _) (by show w.heap.size + 1 + 1 < _; omega)).trans fz1
            have ct0 : W.cell? ⟨w1.heap.size, 0, none⟩ = some (.int .i64 (th0Ses ws)) := by rw [← hW]; simp [go_sem]
            have ct1 : W.cell? ⟨w1.heap.size, 1, none⟩ = some (.int .i64 (th1Ses ws)) := by rw [← hW]; simp [go_sem]
            rw [hW]
            generalize w1.heap.size = B7 at *
            clear hW
            go_region_held3 (fun w' => w'.cell? ⟨w.heap.size, 3, none⟩ = some (.func (.func 40) #[] #[]) ∧ w'.cell? ⟨w.heap.size, 5, none⟩ = some (.func (.func 43) #[] #[]) ∧ w'.cell? ⟨w.heap.size + 1, 2, none⟩ = some (.slice A0 ws.length c0) ∧ w'.cell? ⟨B7, 0, none⟩ = some (.int .i64 (th0Ses ws)) ∧ w'.cell? ⟨B7, 1, none⟩ = some (.int .i64 (th1Ses ws))) (first | exact ⟨(hc2 _ _ z0).trans ce3, (hc2 _ _ z0).trans ce5, (hc2 _ _ z1).trans co2, (hc2 _ _ z7).trans ct0, (hc2 _ _ z7).trans ct1⟩ | exact ⟨(hc3 _ _ y0).trans ((hc2 _ _ z0).trans ce3), (hc3 _ _ y0).trans ((hc2 _ _ z0).trans ce5), (hc3 _ _ y1).trans ((hc2 _ _ z1).trans co2), (hc3 _ _ y7).trans ((hc2 _ _ z7).trans ct0), (hc3 _ _ y7).trans ((hc2 _ _ z7).trans ct1)⟩ | go_keep)
              ((first | (go_at_call 43; refine (sesMay _ _ _).mono ?_; rintro e w2 ⟨rfl, hb2⟩; obtain ⟨hc2, hf2⟩ := bcell hb2) | (go_at_call 40; refine (sesWords _ _ _).mono ?_; rintro e w3 ⟨A1, c1, rfl, hr3, hb3⟩; have y0 := Nat.lt_of_lt_of_le z0 hb2.size; have y1 := Nat.lt_of_lt_of_le z1 hb2.size; have y7 := Nat.lt_of_lt_of_le z7 hb2.size; obtain ⟨hc3, hf3⟩ := bcell hb3; obtain ⟨A', c', he', hl3, hr3'⟩ := Kd.R_reads hr3; injection he' with he1 he2 he3; subst he1; subst he3; have HW3 := Lib.hid hr3'; have HC3 := Lib.hid hl3; clear hr3 hr3' hl3 he2) | (go_at_call 38; refine (equal_calls A1 A0 c1 c0 (wordsSes (th0Ses ws) (th1Ses ws)) ws _ HW3.out HC3.out (Kd.C_below HR.out (below_call (below_call HBW.drew hb2) hb3)) HC.out).mono ?_; rintro e w4 ⟨rfl, hd⟩; obtain ⟨n4, rfl⟩ := hd.out)))
            have dr0 := (hc3 _ _ (Nat.lt_of_lt_of_le z2 hb2.size)).trans ((hc2 _ _ z2).trans cr0)
            have dr1 := (hc3 _ _ (Nat.lt_of_lt_of_le z2 hb2.size)).trans ((hc2 _ _ z2).trans cr1)
            have dn0 := (hc3 _ _ (Nat.lt_of_lt_of_le z3 hb2.size)).trans ((hc2 _ _ z3).trans cn0)
            have dn1 := (hc3 _ _ (Nat.lt_of_lt_of_le z3 hb2.size)).trans ((hc2 _ _ z3).trans cn1)
            have g0 := (hf3 _ _ (Nat.lt_of_lt_of_le z2 hb2.size)).trans ((hf2 _ _ z2).trans fz0)
            have g1 := (hf3 _ _ (Nat.lt_of_lt_of_le z2 hb2.size)).trans ((hf2 _ _ z2).trans fz1)
            go_wp2
            refine bodyPost_ret (v := .tuple #[.agg #[.int .i64 0, .int .i64 0], .int .i64 171]) (by simp [results, Try.results30, go_sem, dr0, dr1]) rfl ⟨rfl, ?_⟩
            iterate 2 (refine Below.setCell (p := ⟨w.heap.size + 1 + 1, _, none⟩) ?_ (by simp; try omega) _)
            exact below_call (below_call (below_call HBW.drew hb2) hb3) (Drawn0.below ⟨⟨_, rfl⟩⟩)
          | true =>
            simp only [if_true]
            go_enter Try.func30, Try.ntmps30
            go_wp2_with fail
            refine (sesThing _ _ ws _ HL.out (Kd.C_below HR.out (HB4.out _ _ _ _))).mono ?_
            rintro e w1 ⟨rfl, hb⟩
            obtain ⟨hc, hf⟩ := bcell hb
            have HB := below_call (HB4.out _ _ _ _) hb
            have hz : w.heap.size + 1 + 1 + 1 + 1 ≤ w1.heap.size := by simpa using hb.size
            have ce3 : w1.cell? ⟨w.heap.size, 3, none⟩ = some (.func (.func 40) #[] #[]) := by rw [hc _ _ (by simp; try omega)]; simp [go_sem]
            have ce5 : w1.cell? ⟨w.heap.size, 5, none⟩ = some (.func (.func 43) #[] #[]) := by rw [hc _ _ (by simp; try omega)]; simp [go_sem]
            have co2 : w1.cell? ⟨w.heap.size + 1, 2, none⟩ = some (.slice A0 ws.length c0) := by rw [hc _ _ (by simp; try omega)]; simp [go_sem]
            have cr0 : w1.cell? ⟨w.heap.size + 1 + 1, 0, none⟩ = some (.int .i64 0) := by rw [hc _ _ (by simp; try omega)]; simp [go_sem]
            have cr1 : w1.cell? ⟨w.heap.size + 1 + 1, 1, none⟩ = some (.int .i64 0) := by rw [hc _ _ (by simp; try omega)]; simp [go_sem]
            have cn0 : w1.cell? ⟨w.heap.size + 1 + 1 + 1, 0, none⟩ = some (.int .i64 0) := by rw [hc _ _ (by simp; try omega)]; simp [go_sem]
            have cn1 : w1.cell? ⟨w.heap.size + 1 + 1 + 1, 1, none⟩ = some (.int .i64 0) := by rw [hc _ _ (by simp; try omega)]; simp [go_sem]
            have fz0 : w1.frozen? ⟨w.heap.size + 1 + 1, 0, none⟩ = false := by rw [hf _ _ (by simp; try omega)]; simp [go_sem]
            have fz1 : w1.frozen? ⟨w.heap.size + 1 + 1, 1, none⟩ = false := by rw [hf _ _ (by simp; try omega)]; simp [go_sem]
            clear hc hf hb
            go_wp2_with fail
            obtain ⟨W, hW⟩ : ∃ W, w1.alloc (.cells #[.int .i64 (th0Ses ws), .int .i64 (th1Ses ws)] 45) = W := ⟨_, rfl⟩
            have HBW : Below w.heap.size w W := hW ▸ HB.alloc HB.size _
            have z0 : w.heap.size < W.heap.size := by rw [← hW]; simp; omega
            have z1 : w.heap.size + 1 < W.heap.size := by rw [← hW]; simp; omega
            have z2 : w.heap.size + 1 + 1 < W.heap.size := by rw [← hW]; simp; omega
            have z3 : w.heap.size + 1 + 1 + 1 < W.heap.size := by rw [← hW]; simp; omega
            have z7 : w1.heap.size < W.heap.size := by rw [← hW]; simp
            replace ce3 : W.cell? ⟨w.heap.size, 3, none⟩ = some (.func (.func 40) #[] #[]) := by rw [← hW]; exact (Below.cell ((Below.refl _ _).alloc (Nat.le_refl _) _) (World.block_lt_of_cell? _ _ ce3)).trans ce3
            replace ce5 : W.cell? ⟨w.heap.size, 5, none⟩ = some (.func (.func 43) #[] #[]) := by rw [← hW]; exact (Below.cell ((Below.refl _ _).alloc (Nat.le_refl _) _) (World.block_lt_of_cell? _ _ ce5)).trans ce5
            replace co2 : W.cell? ⟨w.heap.size + 1, 2, none⟩ = some (.slice A0 ws.length c0) := by rw [← hW]; exact (Below.cell ((Below.refl _ _).alloc (Nat.le_refl _) _) (World.block_lt_of_cell? _ _ co2)).trans co2
            replace cr0 : W.cell? ⟨w.heap.size + 1 + 1, 0, none⟩ = some (.int .i64 0) := by rw [← hW]; exact (Below.cell ((Below.refl _ _).alloc (Nat.le_refl _) _) (World.block_lt_of_cell? _ _ cr0)).trans cr0
            replace cr1 : W.cell? ⟨w.heap.size + 1 + 1, 1, none⟩ = some (.int .i64 0) := by rw [← hW]; exact (Below.cell ((Below.refl _ _).alloc (Nat.le_refl _) _) (World.block_lt_of_cell? _ _ cr1)).trans cr1
            replace cn0 : W.cell? ⟨w.heap.size + 1 + 1 + 1, 0, none⟩ = some (.int .i64 0) := by rw [← hW]; exact (Below.cell ((Below.refl _ _).alloc (Nat.le_refl _) _) (World.block_lt_of_cell? _ _ cn0)).trans cn0
            replace cn1 : W.cell? ⟨w.heap.size + 1 + 1 + 1, 1, none⟩ = some (.int .i64 0) := by rw [← hW]; exact (Below.cell ((Below.refl _ _).alloc (Nat.le_refl _) _) (World.block_lt_of_cell? _ _ cn1)).trans cn1
            replace fz0 : W.frozen? ⟨w.heap.size + 1 + 1, 0, none⟩ = false := by rw [← hW]; exact (Below.frozen (p := ⟨w.heap.size + 1 + 1, 0, none⟩) ((Below.refl _ w1).alloc (Nat.le_refl _) _) (by show w.heap.size + 1 + 1 < _; omega)).trans fz0
            replace fz1 : W.frozen? ⟨w.heap.size + 1 + 1, 1, none⟩ = false := by rw [← hW]; exact (Below.frozen (p := ⟨w.heap.size + 1 + 1, 1, none⟩) ((Below.refl _ w1).alloc (Nat.le_refl _) _) (by show w.heap.size + 1 + 1 < _; omega)).trans fz1
            have ct0 : W.cell? ⟨w1.heap.size, 0, none⟩ = some (.int .i64 (th0Ses ws)) := by rw [← hW]; simp [go_sem]
            have ct1 : W.cell? ⟨w1.heap.size, 1, none⟩ = some (.int .i64 (th1Ses ws)) := by rw [← hW]; simp [go_sem]
            rw [hW]
            generalize w1.heap.size = B7 at *
            clear hW
            go_region_held3 (fun w' => w'.cell? ⟨w.heap.size, 3, none⟩ = some (.func (.func 40) #[] #[]) ∧ w'.cell? ⟨w.heap.size, 5, none⟩ = some (.func (.func 43) #[] #[]) ∧ w'.cell? ⟨w.heap.size + 1, 2, none⟩ = some (.slice A0 ws.length c0) ∧ w'.cell? ⟨B7, 0, none⟩ = some (.int .i64 (th0Ses ws)) ∧ w'.cell? ⟨B7, 1, none⟩ = some (.int .i64 (th1Ses ws))) (first | exact ⟨(hc2 _ _ z0).trans ce3, (hc2 _ _ z0).trans ce5, (hc2 _ _ z1).trans co2, (hc2 _ _ z7).trans ct0, (hc2 _ _ z7).trans ct1⟩ | exact ⟨(hc3 _ _ y0).trans ((hc2 _ _ z0).trans ce3), (hc3 _ _ y0).trans ((hc2 _ _ z0).trans ce5), (hc3 _ _ y1).trans ((hc2 _ _ z1).trans co2), (hc3 _ _ y7).trans ((hc2 _ _ z7).trans ct0), (hc3 _ _ y7).trans ((hc2 _ _ z7).trans ct1)⟩ | go_keep)
              ((first | (go_at_call 43; refine (sesMay _ _ _).mono ?_; rintro e w2 ⟨rfl, hb2⟩; obtain ⟨hc2, hf2⟩ := bcell hb2) | (go_at_call 40; refine (sesWords _ _ _).mono ?_; rintro e w3 ⟨A1, c1, rfl, hr3, hb3⟩; have y0 := Nat.lt_of_lt_of_le z0 hb2.size; have y1 := Nat.lt_of_lt_of_le z1 hb2.size; have y7 := Nat.lt_of_lt_of_le z7 hb2.size; obtain ⟨hc3, hf3⟩ := bcell hb3; obtain ⟨A', c', he', hl3, hr3'⟩ := Kd.R_reads hr3; injection he' with he1 he2 he3; subst he1; subst he3; have HW3 := Lib.hid hr3'; have HC3 := Lib.hid hl3; clear hr3 hr3' hl3 he2) | (go_at_call 38; refine (equal_calls A1 A0 c1 c0 (wordsSes (th0Ses ws) (th1Ses ws)) ws _ HW3.out HC3.out (Kd.C_below HR.out (below_call (below_call HBW.drew hb2) hb3)) HC.out).mono ?_; rintro e w4 ⟨rfl, hd⟩; obtain ⟨n4, rfl⟩ := hd.out)))
            have dr0 := (hc3 _ _ (Nat.lt_of_lt_of_le z2 hb2.size)).trans ((hc2 _ _ z2).trans cr0)
            have dr1 := (hc3 _ _ (Nat.lt_of_lt_of_le z2 hb2.size)).trans ((hc2 _ _ z2).trans cr1)
            have dn0 := (hc3 _ _ (Nat.lt_of_lt_of_le z3 hb2.size)).trans ((hc2 _ _ z3).trans cn0)
            have dn1 := (hc3 _ _ (Nat.lt_of_lt_of_le z3 hb2.size)).trans ((hc2 _ _ z3).trans cn1)
            have g0 := (hf3 _ _ (Nat.lt_of_lt_of_le z2 hb2.size)).trans ((hf2 _ _ z2).trans fz0)
            have g1 := (hf3 _ _ (Nat.lt_of_lt_of_le z2 hb2.size)).trans ((hf2 _ _ z2).trans fz1)
            have dt0 := (hc3 _ _ (Nat.lt_of_lt_of_le z7 hb2.size)).trans ((hc2 _ _ z7).trans ct0)
            have dt1 := (hc3 _ _ (Nat.lt_of_lt_of_le z7 hb2.size)).trans ((hc2 _ _ z7).trans ct1)
            go_wp2
            refine bodyPost_ret (v := .tuple #[.agg #[.int .i64 (th0Ses ws), .int .i64 (th1Ses ws)], .int .i64 0]) (by simp [results, Try.results30, go_sem, dr0, dr1]) rfl ⟨rfl, ?_⟩
            iterate 2 (refine Below.setCell (p := ⟨w.heap.size + 1 + 1, _, none⟩) ?_ (by simp; try omega) _)
            exact below_call (below_call (below_call HBW.drew hb2) hb3) (Drawn0.below ⟨⟨_, rfl⟩⟩)
      · have q1 : (c != 1) = false := by simp [e1]
        have q2 : (t != 1) = false := by simp [e2]
        have q3 : (((ws.length : Nat) : Int) != 2) = true := by simp; omega
        rw [if_neg (by simp [okSes, e3])]
        clear e1 e2 e3
        go_enter Try.func30, Try.ntmps30
        go_wp2
        exact bodyPost_ret (v := .tuple #[.agg #[.int .i64 0, .int .i64 0], .int .i64 171]) (by simp [results, Try.results30, go_sem]) rfl ⟨rfl, HB4.out _ _ _ _⟩
    · have q1 : (c != 1) = false := by simp [e1]
      have q2 : (t != 1) = true := by simp [e2]
      rw [if_neg (by simp [okSes, e2])]
      clear e1 e2
      go_enter Try.func30, Try.ntmps30
      go_wp2
      exact bodyPost_ret (v := .tuple #[.agg #[.int .i64 0, .int .i64 0], .int .i64 171]) (by simp [results, Try.results30, go_sem]) rfl ⟨rfl, HB4.out _ _ _ _⟩
  · have q1 : (c != 1) = true := by simp [e1]
    rw [if_neg (by simp [okSes, e1])]
    clear e1
    go_enter Try.func30, Try.ntmps30
    go_wp2
    exact bodyPost_ret (v := .tuple #[.agg #[.int .i64 0, .int .i64 0], .int .i64 171]) (by simp [results, Try.results30, go_sem]) rfl ⟨rfl, HB4.out _ _ _ _⟩

end Go.Proofs.Ytecghmlojllkdaa.P

import Derived.Test.YtecghmlojllkdaaP0
import Derived.WalkLawsBesides
import Derived.WalkSpells
import Derived.BigQuiet
import Derived.Lib.Hide
namespace Go.Proofs.Ytecghmlojllkdaa.P
open Go.RowKit Go.Proofs.YtecghmlojllkdaaW.PrintWords Go.Proofs.YtecghmlojllkdaaW.PrintLast Go.Proofs.YtecghmlojllkdaaW.PrintMore
set_option linter.unusedVariables false
set_option linter.unusedSimpArgs false

/-- is a number within two? -/
def inB (n least most : Int) : Bool := decide (least ≤ n) && decide (n ≤ most)

theorem within64 (n a b : Int) (w : World) :
    Calls Try.prog 33 #[.int .i64 n, .int .i64 a, .int .i64 b] w fun e w' => e = .returned (.bool (inB n a b)) ∧ w = w' := by
  by_cases h1 : a ≤ n
  · by_cases h2 : n ≤ b
    all_goals
      go_enter Try.func33, Try.ntmps33
      go_wp2
      go_ret
      exact ⟨by simp [inB, *], rfl⟩
  · go_enter Try.func33, Try.ntmps33
    go_wp2
    go_ret
    exact ⟨by simp [inB]; omega, rfl⟩

theorem withinInt (n a b : Int) (w : World) :
    Calls Try.prog 34 #[.int .i64 n, .int .i64 a, .int .i64 b] w fun e w' => e = .returned (.bool (inB n a b)) ∧ w = w' := by
  by_cases h1 : a ≤ n
  · by_cases h2 : n ≤ b
    all_goals
      go_enter Try.func34, Try.ntmps34
      go_wp2
      go_ret
      exact ⟨by simp [inB, *], rfl⟩
  · go_enter Try.func34, Try.ntmps34
    go_wp2
    go_ret
    exact ⟨by simp [inB]; omega, rfl⟩

/-- a word that may not be -/
theorem mayWord (n : Int) (w : World) : Calls Try.prog 32 #[.int .i64 n] w fun e w' => e = .returned (.bool (!inB n 0 4294967295)) ∧ w = w' := by
  go_enter Try.func32, Try.ntmps32
  go_wp2_with (go_at_call 33; refine (within64 _ _ _ _).mono ?_; rintro e w' ⟨rfl, rfl⟩)
  go_ret
  exact ⟨rfl, rfl⟩

theorem node (n : Int) (w : World) : Calls Try.prog 44 #[.int .i64 n] w fun e w' => e = .returned (.bool (inB n 0 15)) ∧ w = w' := by
  go_enter Try.func44, Try.ntmps44
  go_wp2_with (go_at_call 33; refine (within64 _ _ _ _).mono ?_; rintro e w' ⟨rfl, rfl⟩)
  go_ret
  exact ⟨rfl, rfl⟩

theorem port (n : Int) (w : World) : Calls Try.prog 45 #[.int .i64 n] w fun e w' => e = .returned (.bool (inB n 1 65535)) ∧ w = w' := by
  go_enter Try.func45, Try.ntmps45
  go_wp2_with (go_at_call 33; refine (within64 _ _ _ _).mono ?_; rintro e w' ⟨rfl, rfl⟩)
  go_ret
  exact ⟨rfl, rfl⟩

theorem list_ (v : Value) (w : World) : Calls Try.prog 41 #[v] w fun e w' => e = .returned v ∧ w = w' := by
  go_enter Try.func41, Try.ntmps41
  go_wp2
  go_ret
  exact ⟨rfl, rfl⟩

theorem any_at {xs : List Int} {p : Int → Bool} (k : Nat) (hk : k < xs.length) (h : p (rd xs k) = true) : xs.any p = true := by
  rw [List.any_eq_true]
  refine ⟨rd xs k, ?_, h⟩
  simp only [rd, Int.toNat_natCast, List.getD_eq_getElem?_getD, List.getElem?_eq_getElem hk, Option.getD_some]
  exact List.getElem_mem hk
theorem any_none {xs : List Int} {p : Int → Bool} (h : ∀ j, j < xs.length → p (rd xs (j : Nat)) = false) : xs.any p = false := by
  rw [List.any_eq_false]
  intro x hx
  obtain ⟨j, hj, rfl⟩ := List.getElem_of_mem hx
  have := h j hj
  simp only [rd, Int.toNat_natCast, List.getD_eq_getElem?_getD, List.getElem?_eq_getElem hj, Option.getD_some] at this
  simpa using this
/-- some word that may not be -/
def badWords (xs : List Int) : Bool := xs.any (fun n => !inB n 0 4294967295)

theorem ret_int {k : IntKind} {a b : Int} (h : a = b) : Ending.returned (.int k a) = .returned (.int k b) := by rw [h]
theorem ret_bool {a b : Bool} (h : a = b) : Ending.returned (.bool a) = .returned (.bool b) := by rw [h]

/-- an index, or -1 -/
def IdxOf (b : Bool) (w : World) (e : Ending) (w' : World) : Prop := (∃ i : Int, e = .returned (.int .i64 i) ∧ (0 ≤ i ↔ b = true)) ∧ w = w'

set_option maxHeartbeats 800000 in
theorem indexWords (A : Option Addr) (c : Nat) (xs : List Int) (w : World) (hr : Kd.C (Kd.int .i64) w A xs.length xs) :
    Calls Try.prog 46 #[.slice A xs.length c, .func (.func 32) #[] #[]] w (IdxOf (badWords xs) w) := by
  have hm : xs.length ≤ 9223372036854775807 := hr.2.1
  have HR := Lib.hid hr
  clear hr
  go_enter Try.func46, Try.ntmps46
  go_wp2
  go_loop [8] (fun i => ∃ k : Nat, k ≤ xs.length ∧ i = .int .i64 k ∧ ∀ j, j < k → inB (rd xs j) 0 4294967295 = true) (fun i => xs.length - (intOf i).toNat)
  case atStart => exact ⟨0, Nat.zero_le _, rfl, fun j hj => absurd hj (Nat.not_lt_zero j)⟩
  case round =>
    obtain ⟨k, hk, rfl, hall⟩ := hrel
    have HA := Lib.hid hall
    clear hall
    by_cases hlt : k < xs.length
    · obtain ⟨ad, hA, hc⟩ := Kd.at_int HR.out (k : Int) (by omega) (by omega)
      subst hA
      simp only [Int.toNat_natCast] at hc
      go_wp2_with (go_at_call 32; refine (mayWord _ _).mono ?_; rintro e w' ⟨rfl, rfl⟩)
      · have hx : (!inB (rd xs ↑k) 0 4294967295) = true := by assumption
        go_ret
        exact ⟨⟨_, rfl, by simp only [Int.natCast_nonneg, true_iff]; exact any_at k hlt hx⟩, rfl⟩
      · have hx : (!inB (rd xs ↑k) 0 4294967295) = false := by assumption
        refine ⟨⟨k + 1, by omega, by go_num, fun j hj => ?_⟩, by simp [intOf]; omega⟩
        by_cases hjk : j < k
        · exact HA.out j hjk
        · obtain rfl : j = k := by omega
          simpa using hx
    · go_wp2
      go_ret
      refine ⟨⟨_, rfl, ?_⟩, rfl⟩
      have : badWords xs = false := any_none fun j hj => by simp [HA.out j (by omega)]
      rw [this]
      simp

theorem containsWords (A : Option Addr) (c : Nat) (xs : List Int) (w : World) (hr : Kd.C (Kd.int .i64) w A xs.length xs) :
    Calls Try.prog 35 #[.slice A xs.length c, .func (.func 32) #[] #[]] w fun e w' => e = .returned (.bool (badWords xs)) ∧ w = w' := by
  go_enter Try.func35, Try.ntmps35
  go_wp2_with (go_at_call 46; refine (indexWords _ _ _ _ hr).mono ?_; rintro e w' ⟨⟨i, rfl, hi⟩, rfl⟩)
  go_ret
  refine ⟨ret_bool ?_, rfl⟩
  cases h : badWords xs with
  | true => simp
  | false =>
    simp

/-- may an object be? -/
def mayB (o : S32) : Bool := inB o.f0 0 255 && inB o.f1 0 255 && inB o.f2.length 1 64 && !badWords o.f2

set_option maxHeartbeats 1600000 in
theorem may_ (c t : Int) (A : Option Addr) (m : Nat) (ws : List Int) (w : World) (hr : Kd.C (Kd.int .i64) w A ws.length ws) :
    Calls Try.prog 19 #[.agg #[.int .i64 c, .int .i64 t, .slice A ws.length m]] w fun e w' => e = .returned (.bool (mayB ⟨c, t, ws⟩)) ∧ Below w.heap.size w w' := by
  have hm : ws.length ≤ 9223372036854775807 := hr.2.1
  have HR := Lib.hid hr
  clear hr
  cases h1 : inB c 0 255 with
  | false =>
    go_enter Try.func19, Try.ntmps19
    go_wp2_with (go_at_call 34; refine (withinInt _ _ _ _).mono ?_; rintro e w' ⟨rfl, rfl⟩)
    go_ret
    exact ⟨ret_bool (by simp [mayB, h1]), (Below.refl _ _).alloc (Nat.le_refl _) _⟩
  | true =>
    cases h2 : inB t 0 255 with
    | false =>
      go_enter Try.func19, Try.ntmps19
      go_wp2_with (go_at_call 34; refine (withinInt _ _ _ _).mono ?_; rintro e w' ⟨rfl, rfl⟩)
      go_ret
      exact ⟨ret_bool (by simp [mayB, h2]), (Below.refl _ _).alloc (Nat.le_refl _) _⟩
    | true =>
      cases h3 : inB (ws.length : Int) 1 64 with
      | false =>
        go_enter Try.func19, Try.ntmps19
        go_wp2_with (go_at_call 34; refine (withinInt _ _ _ _).mono ?_; rintro e w' ⟨rfl, rfl⟩)
        go_ret
        exact ⟨ret_bool (by simp [mayB, h3]), (Below.refl _ _).alloc (Nat.le_refl _) _⟩
      | true =>
        go_enter Try.func19, Try.ntmps19
        go_wp2_with (first
          | (go_at_call 34; refine (withinInt _ _ _ _).mono ?_; rintro e w' ⟨rfl, rfl⟩)
          | (go_at_call 35; refine (containsWords _ _ _ _ (Kd.C_alloc HR.out _)).mono ?_; rintro e w' ⟨rfl, rfl⟩))
        go_ret
        exact ⟨ret_bool (by simp [mayB, h1, h2, h3]), (Below.refl _ _).alloc (Nat.le_refl _) _⟩

set_option maxHeartbeats 1600000 in
/-- The closure that Raw hands on: an object that may not be. -/
theorem mayNot (c t : Int) (A : Option Addr) (m : Nat) (ws : List Int) (w : World) (hr : Kd.C (Kd.int .i64) w A ws.length ws) :
    Calls Try.prog 18 #[.agg #[.int .i64 c, .int .i64 t, .slice A ws.length m]] w fun e w' => e = .returned (.bool (!mayB ⟨c, t, ws⟩)) ∧ Below w.heap.size w w' := by
  have HR := Lib.hid hr
  clear hr
  go_enter Try.func18, Try.ntmps18
  go_wp2_with (go_at_call 19; refine (may_ _ _ _ _ _ _ (Kd.C_alloc HR.out _)).mono ?_; rintro e w' ⟨rfl, hb⟩)
  go_ret
  exact ⟨rfl, ((Below.refl _ _).alloc (Nat.le_refl _) _).trans (hb.mono (by simp))⟩

/-- An index behind calls that make memory. -/
def IdxB (b : Bool) (w : World) (e : Ending) (w' : World) : Prop := (∃ i : Int, e = .returned (.int .i64 i) ∧ (0 ≤ i ↔ b = true)) ∧ Below w.heap.size w w'

theorem any_atO {xs : List S32} {p : S32 → Bool} (k : Nat) (hk : k < xs.length) (h : p (rd_T32 xs k) = true) : xs.any p = true := by
  rw [List.any_eq_true]
  refine ⟨rd_T32 xs k, ?_, h⟩
  simp only [rd_T32, Int.toNat_natCast, List.getD_eq_getElem?_getD, List.getElem?_eq_getElem hk, Option.getD_some]
  exact List.getElem_mem hk
theorem any_noneO {xs : List S32} {p : S32 → Bool} (h : ∀ j, j < xs.length → p (rd_T32 xs (j : Nat)) = false) : xs.any p = false := by
  rw [List.any_eq_false]
  intro x hx
  obtain ⟨j, hj, rfl⟩ := List.getElem_of_mem hx
  have := h j hj
  simp only [rd_T32, Int.toNat_natCast, List.getD_eq_getElem?_getD, List.getElem?_eq_getElem hj, Option.getD_some] at this
  simpa using this
def badObjs (l : List S32) : Bool := l.any (fun o => !mayB o)

set_option maxHeartbeats 3200000 in
theorem indexObjs (A : Option Addr) (c : Nat) (xs : List S32) (w : World) (hr : Kd.C k32 w A xs.length xs) :
    Calls Try.prog 31 #[.slice A xs.length c, .func (.func 18) #[] #[]] w (IdxB (badObjs xs) w) := by
  have hm : xs.length ≤ 9223372036854775807 := hr.2.1
  have HR := Lib.hid hr
  clear hr
  have hu := Try.underlying32
  go_enter Try.func31, Try.ntmps31
  go_wp2
  go_loopw [8] (fun i wr => ∃ k : Nat, k ≤ xs.length ∧ i = .int .i64 k ∧ (∀ j, j < k → mayB (rd_T32 xs j) = true) ∧ Below w.heap.size w wr) (fun i _ => xs.length - (intOf i).toNat)
  case atStart => exact ⟨0, Nat.zero_le _, rfl, fun j hj => absurd hj (Nat.not_lt_zero j), Below.refl _ _⟩
  case round =>
    obtain ⟨k, hk, rfl, hall, hbel⟩ := hrel
    have HA := Lib.hid hall
    have HB := Lib.hid hbel
    clear hall hbel
    by_cases hlt : k < xs.length
    · obtain ⟨ad, A2, c2, hA, hc0, hc1, hc2, hl2, hi2⟩ := at_T32 (Kd.C_below HR.out HB.out) (k : Int) (by omega) (by omega)
      subst hA
      simp only [Int.toNat_natCast] at hc0 hc1 hc2
      have HI := Lib.hid hi2
      clear hi2
      go_wp2_with (go_at_call 18; refine (mayNot _ _ _ _ _ _ HI.out).mono ?_; rintro e w' ⟨rfl, hb⟩)
      · have hx : (!mayB (rd_T32 xs ↑k)) = true := by assumption
        go_ret
        exact ⟨⟨_, rfl, by simp only [Int.natCast_nonneg, true_iff]; exact any_atO k hlt hx⟩, HB.out.trans (hb.mono HB.out.size)⟩
      · have hx : (!mayB (rd_T32 xs ↑k)) = false := by assumption
        refine ⟨⟨k + 1, by omega, by go_num, fun j hj => ?_, HB.out.trans (hb.mono HB.out.size)⟩, by simp [intOf]; omega⟩
        by_cases hjk : j < k
        · exact HA.out j hjk
        · obtain rfl : j = k := by omega
          simpa using hx
    · go_wp2
      go_ret
      refine ⟨⟨_, rfl, ?_⟩, HB.out⟩
      have : badObjs xs = false := any_noneO fun j hj => by simp [HA.out j (by omega)]
      rw [this]
      simp

def ContainsBad.f (l : List S32) : Option Bool := some (badObjs l)
theorem ContainsBad.calls (A0 : Option Addr) (c0 : Nat) (l0 : List S32) (r : Bool) (w : World) (hr0 : Kd.C k32 w A0 l0.length l0) (_hc0 : l0.length ≤ c0) (h : ContainsBad.f l0 = some r) :
    Calls Try.prog 17 #[.slice A0 l0.length c0, .func (.func 18) #[] #[]] w fun e w' => e = .returned (.bool r) ∧ Below w.heap.size w w' := by
  obtain rfl : badObjs l0 = r := by simpa [ContainsBad.f] using h
  go_enter Try.func17, Try.ntmps17
  go_wp2_with (go_at_call 31; refine (indexObjs _ _ _ _ hr0).mono ?_; rintro e w' ⟨⟨i, rfl, hi⟩, hb⟩)
  go_ret
  refine ⟨ret_bool ?_, hb⟩
  cases h : badObjs l0 with
  | true => simp
  | false =>
    simp

end Go.Proofs.Ytecghmlojllkdaa.P

/- The contracts of retry.Late and of the reference's Wait and Again; the closed example 'waits'. -/
import Derived.Test.YtlpmbmilnoncdaaRetry
namespace Go.Proofs.Ytlpmbmilnoncdaa
open Go.RowKit
set_option maxRecDepth 100000
set_option maxHeartbeats 1000000

theorem wait_any (tries : Int) (w : World) (h1 : 1 ≤ tries) (h2 : tries ≤ 1000000) :
    Calls Try.prog 39 #[.int .i64 tries] w fun e w' => e = .returned (.int .i64 (waitN tries)) ∧ w = w' := by
  by_cases h : 8 < tries
  · go_enter Try.func39, Try.ntmps39
    go_wp2
    go_ret
    exact ⟨ret_int (by unfold waitN; rw [if_pos h]), rfl⟩
  · have : tries = 1 ∨ tries = 2 ∨ tries = 3 ∨ tries = 4 ∨ tries = 5 ∨ tries = 6 ∨ tries = 7 ∨ tries = 8 := by omega
    clear h h1 h2
    rcases this with rfl | rfl | rfl | rfl | rfl | rfl | rfl | rfl
    all_goals
      go_enter Try.func39, Try.ntmps39
      go_wp2
      go_ret
      exact ⟨rfl, rfl⟩

theorem times3_any (x y z : Int) (b : Nat) (w : World) (h0 : w.cell? ⟨b, 0, none⟩ = some (.int .i64 x)) (h1 : w.cell? ⟨b, 1, none⟩ = some (.int .i64 y)) (h2 : w.cell? ⟨b, 2, none⟩ = some (.int .i64 z)) :
    Calls Try.prog 36 #[.slice (some ⟨b, 0, none⟩) 3 3] w fun e w' => e = .returned (.bool (isIn x (-68719476736) 68719476736 && isIn y (-68719476736) 68719476736 && isIn z (-68719476736) 68719476736)) ∧ w = w' := by
  refine (times_any [x, y, z] b 3 w (by simp) ?_).mono ?_
  · intro i hi
    match i, hi with
    | 0, _ => simpa using h0
    | 1, _ => simpa using h1
    | 2, _ => simpa using h2
  · rintro e w' ⟨rfl, rfl⟩
    exact ⟨by simp [Bool.and_assoc], rfl⟩

/-- is a notice of delay due -/
def lateB (first before now : Int) : Bool := decide (before < first + 14400) && decide (first + 14400 ≤ now)

theorem late_range (first before now : Int) (w : World) (h : (isIn first (-68719476736) 68719476736 && isIn before (-68719476736) 68719476736 && isIn now (-68719476736) 68719476736) = false) :
    Calls Try.prog 17 #[.int .i64 first, .int .i64 before, .int .i64 now] w fun e w' => e = .returned (.tuple #[.bool false, .agg #[.int .i64 3, .int .i64 (-2)]]) ∧ Below w.heap.size w w' := by
  go_enter Try.func17, Try.ntmps17
  go_wp2_with fail
  (with_reducible refine (times3_any first before now (w.heap.size + 1) _ ?_ ?_ ?_).mono ?_)
  · simp [go_sem]
  · simp [go_sem]
  · simp [go_sem]
  rintro e w' ⟨rfl, rfl⟩
  rw [h]
  go_wp2
  go_returns
  exact ⟨rfl, by go_grown⟩

theorem late_order (first before now : Int) (w : World) (h : (isIn first (-68719476736) 68719476736 && isIn before (-68719476736) 68719476736 && isIn now (-68719476736) 68719476736) = true)
    (ho : before < first ∨ first ≤ before ∧ now < before) :
    Calls Try.prog 17 #[.int .i64 first, .int .i64 before, .int .i64 now] w fun e w' => e = .returned (.tuple #[.bool false, .agg #[.int .i64 19, .int .i64 (-4)]]) ∧ Below w.heap.size w w' := by
  rcases ho with ho | ⟨ho1, ho2⟩
  all_goals
    go_enter Try.func17, Try.ntmps17
    go_wp2_with fail
    (with_reducible refine (times3_any first before now (w.heap.size + 1) _ ?_ ?_ ?_).mono ?_)
    · simp [go_sem]
    · simp [go_sem]
    · simp [go_sem]
    rintro e w' ⟨rfl, rfl⟩
    rw [h]
    go_wp2
    go_returns
    exact ⟨rfl, by go_grown⟩

theorem tup2b {a b : Bool} {x : Value} (h : a = b) : Ending.returned (.tuple #[.bool a, x]) = .returned (.tuple #[.bool b, x]) := by rw [h]

theorem late_yes (first before now : Int) (w : World) (h : (isIn first (-68719476736) 68719476736 && isIn before (-68719476736) 68719476736 && isIn now (-68719476736) 68719476736) = true)
    (ho1 : first ≤ before) (ho2 : before ≤ now) :
    Calls Try.prog 17 #[.int .i64 first, .int .i64 before, .int .i64 now] w fun e w' => e = .returned (.tuple #[.bool (lateB first before now), .agg #[.int .i64 0, .int .i64 0]]) ∧ Below w.heap.size w w' := by
  have hb : -68719476736 ≤ first ∧ first ≤ 68719476736 ∧ -68719476736 ≤ now ∧ now ≤ 68719476736 := by simp [isIn] at h; omega
  obtain ⟨b1, b2, b3, b4⟩ := hb
  by_cases hc : before < first + 14400
  all_goals
    go_enter Try.func17, Try.ntmps17
    go_wp2_with fail
    (with_reducible refine (times3_any first before now (w.heap.size + 1) _ ?_ ?_ ?_).mono ?_)
    · simp [go_sem]
    · simp [go_sem]
    · simp [go_sem]
    rintro e w' ⟨rfl, rfl⟩
    rw [h]
    go_wp2
    go_returns
    refine ⟨tup2b ?_, by go_grown⟩
    unfold lateB
    first | (rw [decide_eq_true hc]; rfl) | (rw [decide_eq_false (p := before < first + 14400) (by omega)]; rfl)

/-- the fault's code and place, what Next returns -/
def nextC (first tries now : Int) : Int :=
  if (isIn first (-68719476736) 68719476736 && isIn now (-68719476736) 68719476736) = false then 3
  else if isIn tries 1 1000000 = false then 3 else if now < first then 19 else 0
def nextI (first tries now : Int) : Int :=
  if (isIn first (-68719476736) 68719476736 && isIn now (-68719476736) 68719476736) = false then -2
  else if isIn tries 1 1000000 = false then -3 else if now < first then -4 else 0
def nextOk (first tries now : Int) : Bool :=
  nextC first tries now == 0 && decide (now < first + 345600)
def nextAt (first tries now : Int) : Int := if nextOk first tries now then nextT first tries now else 0

theorem next_any (first tries now : Int) (w : World) :
    Calls Try.prog 14 #[.int .i64 first, .int .i64 tries, .int .i64 now] w fun e w' =>
      e = .returned (.tuple #[.int .i64 (nextAt first tries now), .bool (nextOk first tries now), .agg #[.int .i64 (nextC first tries now), .int .i64 (nextI first tries now)]]) ∧ Below w.heap.size w w' := by
  rcases h : isIn first (-68719476736) 68719476736 && isIn now (-68719476736) 68719476736 with _ | _
  · refine (next_range first tries now w h).mono ?_
    rintro e w' ⟨rfl, hb⟩
    exact ⟨by simp [nextAt, nextOk, nextC, nextI, h], hb⟩
  rcases ht : isIn tries 1 1000000 with _ | _
  · refine (next_tries first tries now w h (by simp [isIn] at ht; omega)).mono ?_
    rintro e w' ⟨rfl, hb⟩
    exact ⟨by simp [nextAt, nextOk, nextC, nextI, h, ht], hb⟩
  have ht' := isIn_iff.1 ht
  by_cases hn : now < first
  · refine (next_order first tries now w h ht'.1 ht'.2 hn).mono ?_
    rintro e w' ⟨rfl, hb⟩
    exact ⟨by simp [nextAt, nextOk, nextC, nextI, h, ht, hn], hb⟩
  by_cases ho : now < first + 345600
  · refine (next_yes first tries now w h ht'.1 ht'.2 (by omega) ho).mono ?_
    rintro e w' ⟨rfl, hb⟩
    exact ⟨by simp [nextAt, nextOk, nextC, nextI, h, ht, hn, ho], hb⟩
  · refine (next_over first tries now w h ht'.1 ht'.2 (by omega) (by omega)).mono ?_
    rintro e w' ⟨rfl, hb⟩
    exact ⟨by simp [nextAt, nextOk, nextC, nextI, h, ht, hn, ho], hb⟩

theorem again_range (first tries now : Int) (w : World) (h : (isIn first (-68719476736) 68719476736 && isIn now (-68719476736) 68719476736) = false) :
    Calls Try.prog 15 #[.int .i64 first, .int .i64 tries, .int .i64 now] w fun e w' => e = .returned (.tuple #[.int .i64 0, .bool false, .agg #[.int .i64 3, .int .i64 (-2)]]) ∧ Below w.heap.size w w' := by
  rcases h1 : isIn first (-68719476736) 68719476736 with _ | _
  · clear h
    go_enter Try.func15, Try.ntmps15
    go_wp2_with (first | (go_at_call 18; refine (in_any _ _ _ _).mono ?_; rintro e w' ⟨rfl, rfl⟩) | (go_at_call 19; go_in))
    go_returns
    exact ⟨rfl, by go_grown⟩
  · rw [h1, Bool.true_and] at h
    go_enter Try.func15, Try.ntmps15
    go_wp2_with (first | (go_at_call 18; refine (in_any _ _ _ _).mono ?_; rintro e w' ⟨rfl, rfl⟩) | (go_at_call 19; go_in))
    go_returns
    exact ⟨rfl, by go_grown⟩

theorem again_any (first tries now : Int) (w : World) :
    Calls Try.prog 15 #[.int .i64 first, .int .i64 tries, .int .i64 now] w fun e w' =>
      e = .returned (.tuple #[.int .i64 (nextAt first tries now), .bool (nextOk first tries now), .agg #[.int .i64 (nextC first tries now), .int .i64 (nextI first tries now)]]) ∧ Below w.heap.size w w' := by
  rcases h : isIn first (-68719476736) 68719476736 && isIn now (-68719476736) 68719476736 with _ | _
  · refine (again_range first tries now w h).mono ?_
    rintro e w' ⟨rfl, hb⟩
    exact ⟨by simp [nextAt, nextOk, nextC, nextI, h], hb⟩
  obtain ⟨h1, h2⟩ := Bool.and_eq_true_iff.1 h
  have hb : -68719476736 ≤ first ∧ first ≤ 68719476736 ∧ -68719476736 ≤ now ∧ now ≤ 68719476736 := by simp [isIn] at h; omega
  obtain ⟨b1, b2, b3, b4⟩ := hb
  rcases ht : isIn tries 1 1000000 with _ | _
  · have hv : nextAt first tries now = 0 ∧ nextOk first tries now = false ∧ nextC first tries now = 3 ∧ nextI first tries now = -3 := by simp [nextAt, nextOk, nextC, nextI, h, ht]
    obtain ⟨v1, v2, v3, v4⟩ := hv
    rw [v1, v2, v3, v4]
    clear h v1 v2 v3 v4
    go_enter Try.func15, Try.ntmps15
    go_wp2_with (first | (go_at_call 18; refine (in_any _ _ _ _).mono ?_; rintro e w' ⟨rfl, rfl⟩) | (go_at_call 19; go_in))
    go_returns
    exact ⟨rfl, by go_grown⟩
  have ht' := isIn_iff.1 ht
  obtain ⟨t1, t2⟩ := ht'
  by_cases hn : now < first
  · have hv : nextAt first tries now = 0 ∧ nextOk first tries now = false ∧ nextC first tries now = 19 ∧ nextI first tries now = -4 := by simp [nextAt, nextOk, nextC, nextI, h, ht, hn]
    obtain ⟨v1, v2, v3, v4⟩ := hv
    rw [v1, v2, v3, v4]
    clear h v1 v2 v3 v4
    go_enter Try.func15, Try.ntmps15
    go_wp2_with (first | (go_at_call 18; refine (in_any _ _ _ _).mono ?_; rintro e w' ⟨rfl, rfl⟩) | (go_at_call 19; go_in))
    go_returns
    exact ⟨rfl, by go_grown⟩
  by_cases ho : now < first + 345600
  · have hv : nextAt first tries now = nextT first tries now ∧ nextOk first tries now = true ∧ nextC first tries now = 0 ∧ nextI first tries now = 0 := by simp [nextAt, nextOk, nextC, nextI, h, ht, hn, ho]
    obtain ⟨v1, v2, v3, v4⟩ := hv
    rw [v1, v2, v3, v4]
    have hfin : Hid (min (min (now + waitN tries) (first + 345600)) 68719476736 = nextT first tries now) := rfl
    have hwt : 60 ≤ waitN tries ∧ waitN tries ≤ 14400 := by
      by_cases h9 : 8 < tries
      · unfold waitN; rw [if_pos h9]; omega
      · obtain ⟨k, rfl⟩ := Int.eq_ofNat_of_zero_le (show 0 ≤ tries by omega)
        have := waitN_vals k (by omega) (by omega)
        exact ⟨this.1, this.2.1⟩
    obtain ⟨w1, w2⟩ := hwt
    clear h v1 v2 v3 v4
    have hwa := fun W => wait_any tries W t1 t2
    generalize waitN tries = d at *
    have HW := Lib.hid hwa
    clear hwa
    go_enter Try.func15, Try.ntmps15
    go_wp2_with (first | (go_at_call 18; refine (in_any _ _ _ _).mono ?_; rintro e w' ⟨rfl, rfl⟩) | (go_at_call 19; go_in) | (go_at_call 39; refine (HW.out _).mono ?_; rintro e w' ⟨rfl, rfl⟩))
    all_goals
      go_returns
      refine ⟨?_, by go_grown⟩
      rw [← hfin.out]
      exact tup3 (by omega)
  · have hv : nextAt first tries now = 0 ∧ nextOk first tries now = false ∧ nextC first tries now = 0 ∧ nextI first tries now = 0 := by simp [nextAt, nextOk, nextC, nextI, h, ht, hn, ho]
    obtain ⟨v1, v2, v3, v4⟩ := hv
    rw [v1, v2, v3, v4]
    clear h v1 v2 v3 v4
    go_enter Try.func15, Try.ntmps15
    go_wp2_with (first | (go_at_call 18; refine (in_any _ _ _ _).mono ?_; rintro e w' ⟨rfl, rfl⟩) | (go_at_call 19; go_in))
    go_returns
    exact ⟨rfl, by go_grown⟩

end Go.Proofs.Ytlpmbmilnoncdaa

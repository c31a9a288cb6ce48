/- The closed example 'waits' and the law RetryMatchesSpec. -/
import Derived.Test.YtlpmbmilnoncdaaRetry2
namespace Go.Proofs.Ytlpmbmilnoncdaa
open Go.RowKit
set_option maxRecDepth 100000
set_option maxHeartbeats 1000000

theorem waits_any (w : World) : Calls Try.prog 16 #[] w fun e w' => e = .returned (.bool true) ∧ Below w.heap.size w w' := by
  have n1 : nextAt 0 1 10 = 70 ∧ nextOk 0 1 10 = true ∧ nextC 0 1 10 = 0 ∧ nextI 0 1 10 = 0 := by decide
  have n2 : nextAt 0 1 345600 = 0 ∧ nextOk 0 1 345600 = false ∧ nextC 0 1 345600 = 0 ∧ nextI 0 1 345600 = 0 := by decide
  have n3 : lateB 0 0 14400 = true := by decide
  obtain ⟨n11, n12, n13, n14⟩ := n1
  obtain ⟨n21, n22, n23, n24⟩ := n2
  have c1 := fun W => next_any 0 1 10 W
  have c2 := fun W => next_any 0 1 345600 W
  have c3 := fun W => late_yes 0 0 14400 W (by decide) (by decide) (by decide)
  rw [n11, n12, n13, n14] at c1
  rw [n21, n22, n23, n24] at c2
  rw [n3] at c3
  clear n11 n12 n13 n14 n21 n22 n23 n24 n3
  have C1 := Lib.hid c1
  have C2 := Lib.hid c2
  have C3 := Lib.hid c3
  clear c1 c2 c3
  go_enter Try.func16, Try.ntmps16
  go_wp2_with fail
  (with_reducible refine (C1.out _).mono ?_)
  rintro e w1 ⟨rfl, hb⟩
  go_wp2_with fail
  (with_reducible refine (C2.out _).mono ?_)
  rintro e w2 ⟨rfl, hb2⟩
  have B1 := Blk.step_new hb2
  replace hb := below_step hb hb2
  clear hb2
  have P1 := B1.two
  go_wp2_with fail
  (with_reducible refine (C3.out _).mono ?_)
  rintro e w3 ⟨rfl, hb3⟩
  have B2 := Blk.step_new hb3
  replace B1 := B1.step_old hb3
  replace hb := below_step hb hb3
  clear hb3 P1
  obtain ⟨p1, p2, p3, p4, p5⟩ := B1.two
  obtain ⟨q1, q2, q3, q4, q5⟩ := B2.two
  go_wp2_with fail
  go_returns
  exact ⟨rfl, hb.alloc hb.size _⟩

/-- what Late returns, in its three cases -/
def LateIs (first before now : Int) (b : Bool) (c i : Int) : Prop :=
  ((isIn first (-68719476736) 68719476736 && isIn before (-68719476736) 68719476736 && isIn now (-68719476736) 68719476736) = false → b = false ∧ c = 3 ∧ i = -2) ∧
  ((isIn first (-68719476736) 68719476736 && isIn before (-68719476736) 68719476736 && isIn now (-68719476736) 68719476736) = true → (before < first ∨ now < before) → b = false ∧ c = 19 ∧ i = -4) ∧
  ((isIn first (-68719476736) 68719476736 && isIn before (-68719476736) 68719476736 && isIn now (-68719476736) 68719476736) = true → first ≤ before → before ≤ now → b = lateB first before now ∧ c = 0 ∧ i = 0)

theorem late_some (first before now : Int) :
    ∃ b c i, (∀ W, Calls Try.prog 17 #[.int .i64 first, .int .i64 before, .int .i64 now] W fun e w' => e = .returned (.tuple #[.bool b, .agg #[.int .i64 c, .int .i64 i]]) ∧ Below W.heap.size W w') ∧
      LateIs first before now b c i := by
  rcases h : isIn first (-68719476736) 68719476736 && isIn before (-68719476736) 68719476736 && isIn now (-68719476736) 68719476736 with _ | _
  · exact ⟨false, 3, -2, fun W => late_range first before now W h, fun _ => ⟨rfl, rfl, rfl⟩, fun h' => (by rw [h] at h'; cases h'), fun h' => (by rw [h] at h'; cases h')⟩
  · by_cases ho : before < first ∨ now < before
    · exact ⟨false, 19, -4, fun W => late_order first before now W h (by omega), fun h' => (by rw [h] at h'; cases h'), fun _ _ => ⟨rfl, rfl, rfl⟩, fun _ _ _ => (by omega)⟩
    · exact ⟨lateB first before now, 0, 0, fun W => late_yes first before now W h (by omega) (by omega), fun h' => (by rw [h] at h'; cases h'), fun _ _ => (by omega), fun _ _ _ => ⟨rfl, rfl, rfl⟩⟩

theorem matches_walk (first before now tries : Int) (w : World) :
    Calls Try.prog 3 #[.int .i64 first, .int .i64 before, .int .i64 now, .int .i64 tries] w fun e w' => e = .returned (.bool true) ∧ Below w.heap.size w w' := by
  have c1 := fun W => next_any first tries now W
  have c2 := fun W => again_any first tries now W
  generalize nextAt first tries now = t at *
  generalize nextOk first tries now = ok at *
  generalize nextC first tries now = c at *
  generalize nextI first tries now = i at *
  obtain ⟨lb, lc, li, c3, hL⟩ := late_some first before now
  have C1 := Lib.hid c1
  have C2 := Lib.hid c2
  have C3 := Lib.hid c3
  have HL := Lib.hid hL
  clear c1 c2 c3 hL
  go_enter Try.func3, Try.ntmps3
  go_wp2_with fail
  (with_reducible refine (C1.out _).mono ?_)
  rintro e w1 ⟨rfl, hb⟩
  go_wp2_with fail
  (with_reducible refine (C2.out _).mono ?_)
  rintro e w2 ⟨rfl, hb2⟩
  have B1 := Blk.step_new hb2
  replace hb := below_step hb hb2
  clear hb2
  have P1 := B1.two
  go_wp2_with fail
  (with_reducible refine (waits_any _).mono ?_)
  rintro e w3 ⟨rfl, hb3⟩
  have B2 := Blk.step_new hb3
  replace B1 := B1.step_old hb3
  replace hb := below_step hb hb3
  clear hb3 P1
  obtain ⟨p1, p2, p3, p4, p5⟩ := B1.two
  obtain ⟨q1, q2, q3, q4, q5⟩ := B2.two
  go_wp2_with fail
  (with_reducible refine (C3.out _).mono ?_)
  rintro e w4 ⟨rfl, hb4⟩
  replace hb := below_trans hb hb4
  clear C1 C2 C3 hb4 p1 p2 p3 p4 p5 q1 q2 q3 q4 q5 B1 B2
  obtain ⟨r1, r2, r3, r4, r5⟩ := (Blk.new w4 23 #[.int .i64 lc, .int .i64 li]).two
  have hb5 := hb.alloc hb.size (.cells #[.int .i64 lc, .int .i64 li] 23)
  rcases h1 : isIn first (-68719476736) 68719476736 with _ | _
  · obtain ⟨e1, e2, e3⟩ := HL.out.1 (by rw [h1]; rfl)
    clear HL
    subst e1 e2 e3
    go_wp2_with (go_at_call 18; refine (in_any _ _ _ _).mono ?_; rintro e w' ⟨rfl, rfl⟩)
    generalize hW : w4.alloc (.cells #[.int .i64 3, .int .i64 (-2)] 23) = W at *
    clear hW
    go_region_held3 (fun w' => w'.cell? ⟨w4.heap.size, 0, none⟩ = some (.int .i64 3) ∧ w'.cell? ⟨w4.heap.size, 1, none⟩ = some (.int .i64 (-2)) ∧ Below W.heap.size W w') (first | exact ⟨r1, r2, Below.drew (Below.refl _ _)⟩ | assumption | exact keep2 (by assumption) r5 (by assumption))
      (first | (go_at_call 19; refine (at_any _ _ _).mono ?_; rintro e w' ⟨rfl, hbx⟩))
    go_wp2
    go_returns
    exact ⟨rfl, below_trans hb5 (by assumption : _ ∧ _ ∧ _).2.2⟩
  rcases h2 : isIn before (-68719476736) 68719476736 with _ | _
  · obtain ⟨e1, e2, e3⟩ := HL.out.1 (by rw [h1, h2]; rfl)
    clear HL
    subst e1 e2 e3
    go_wp2_with (go_at_call 18; refine (in_any _ _ _ _).mono ?_; rintro e w' ⟨rfl, rfl⟩)
    generalize hW : w4.alloc (.cells #[.int .i64 3, .int .i64 (-2)] 23) = W at *
    clear hW
    go_region_held3 (fun w' => w'.cell? ⟨w4.heap.size, 0, none⟩ = some (.int .i64 3) ∧ w'.cell? ⟨w4.heap.size, 1, none⟩ = some (.int .i64 (-2)) ∧ Below W.heap.size W w') (first | exact ⟨r1, r2, Below.drew (Below.refl _ _)⟩ | assumption | exact keep2 (by assumption) r5 (by assumption))
      (first | (go_at_call 19; refine (at_any _ _ _).mono ?_; rintro e w' ⟨rfl, hbx⟩))
    go_wp2
    go_returns
    exact ⟨rfl, below_trans hb5 (by assumption : _ ∧ _ ∧ _).2.2⟩
  rcases h3 : isIn now (-68719476736) 68719476736 with _ | _
  · obtain ⟨e1, e2, e3⟩ := HL.out.1 (by rw [h1, h2, h3]; rfl)
    clear HL
    subst e1 e2 e3
    go_wp2_with (go_at_call 18; refine (in_any _ _ _ _).mono ?_; rintro e w' ⟨rfl, rfl⟩)
    generalize hW : w4.alloc (.cells #[.int .i64 3, .int .i64 (-2)] 23) = W at *
    clear hW
    go_region_held3 (fun w' => w'.cell? ⟨w4.heap.size, 0, none⟩ = some (.int .i64 3) ∧ w'.cell? ⟨w4.heap.size, 1, none⟩ = some (.int .i64 (-2)) ∧ Below W.heap.size W w') (first | exact ⟨r1, r2, Below.drew (Below.refl _ _)⟩ | assumption | exact keep2 (by assumption) r5 (by assumption))
      (first | (go_at_call 19; refine (at_any _ _ _).mono ?_; rintro e w' ⟨rfl, hbx⟩))
    go_wp2
    go_returns
    exact ⟨rfl, below_trans hb5 (by assumption : _ ∧ _ ∧ _).2.2⟩
  have hr : (isIn first (-68719476736) 68719476736 && isIn before (-68719476736) 68719476736 && isIn now (-68719476736) 68719476736) = true := by rw [h1, h2, h3]; rfl
  by_cases ho : before < first ∨ now < before
  · obtain ⟨e1, e2, e3⟩ := HL.out.2.1 hr ho
    clear HL hr
    subst e1 e2 e3
    rcases ho with ho | ho
    · go_wp2_with (go_at_call 18; refine (in_any _ _ _ _).mono ?_; rintro e w' ⟨rfl, rfl⟩)
      generalize hW : w4.alloc (.cells #[.int .i64 19, .int .i64 (-4)] 23) = W at *
      clear hW
      go_region_held3 (fun w' => w'.cell? ⟨w4.heap.size, 0, none⟩ = some (.int .i64 19) ∧ w'.cell? ⟨w4.heap.size, 1, none⟩ = some (.int .i64 (-4)) ∧ Below W.heap.size W w') (first | exact ⟨r1, r2, Below.drew (Below.refl _ _)⟩ | assumption | exact keep2 (by assumption) r5 (by assumption))
        (first | (go_at_call 19; refine (at_any _ _ _).mono ?_; rintro e w' ⟨rfl, hbx⟩))
      go_wp2
      go_returns
      exact ⟨rfl, below_trans hb5 (by assumption : _ ∧ _ ∧ _).2.2⟩
    · by_cases ho2 : before < first
      all_goals
        go_wp2_with (go_at_call 18; refine (in_any _ _ _ _).mono ?_; rintro e w' ⟨rfl, rfl⟩)
        generalize hW : w4.alloc (.cells #[.int .i64 19, .int .i64 (-4)] 23) = W at *
        clear hW
        go_region_held3 (fun w' => w'.cell? ⟨w4.heap.size, 0, none⟩ = some (.int .i64 19) ∧ w'.cell? ⟨w4.heap.size, 1, none⟩ = some (.int .i64 (-4)) ∧ Below W.heap.size W w') (first | exact ⟨r1, r2, Below.drew (Below.refl _ _)⟩ | assumption | exact keep2 (by assumption) r5 (by assumption))
          (first | (go_at_call 19; refine (at_any _ _ _).mono ?_; rintro e w' ⟨rfl, hbx⟩))
        go_wp2
        go_returns
        exact ⟨rfl, below_trans hb5 (by assumption : _ ∧ _ ∧ _).2.2⟩
  · have ho1 : first ≤ before := by omega
    have ho2 : before ≤ now := by omega
    obtain ⟨e1, e2, e3⟩ := HL.out.2.2 hr ho1 ho2
    have hbd : -68719476736 ≤ first ∧ first ≤ 68719476736 ∧ -68719476736 ≤ now ∧ now ≤ 68719476736 := by simp [isIn] at hr; omega
    obtain ⟨b1, b2, b3, b4⟩ := hbd
    clear HL hr ho
    subst e1 e2 e3
    have hlb : Hid (lateB first before now = (decide (before - first < 14400) && decide (14400 ≤ now - first))) := by
      unfold lateB
      show _ = _
      congr 1 <;> (rw [decide_eq_decide]; omega)
    generalize lateB first before now = lb at *
    by_cases hc : before - first < 14400
    all_goals
      go_wp2_with (go_at_call 18; refine (in_any _ _ _ _).mono ?_; rintro e w' ⟨rfl, rfl⟩)
      go_returns
      refine ⟨ret_bool ?_, hb5⟩
      rw [hlb.out]
      first | (rw [decide_eq_true hc]; simp) | (rw [decide_eq_false (p := before - first < 14400) (by omega)]; rfl)

end Go.Proofs.Ytlpmbmilnoncdaa

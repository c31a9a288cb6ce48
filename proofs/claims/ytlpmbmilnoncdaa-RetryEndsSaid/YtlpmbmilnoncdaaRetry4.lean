/- The walks of the laws RetryEnds and RetryOneDelay. -/
import Derived.Test.YtlpmbmilnoncdaaRetry3
namespace Go.Proofs.Ytlpmbmilnoncdaa
open Go.RowKit
set_option maxRecDepth 100000
set_option maxHeartbeats 1000000

theorem waitN_lo (k : Nat) (h1 : 1 ≤ k) : 60 ≤ waitN k ∧ (9 ≤ k → waitN k = 14400) ∧ waitN k ≤ 14400 := by
  by_cases h : k ≤ 9
  · have := waitN_vals k h1 h
    exact ⟨this.1, fun h9 => this.2.2.2 (by omega), this.2.1⟩
  · have : waitN k = 14400 := by unfold waitN; rw [if_pos (by omega)]
    omega

/-- what Next says of try number k where all is in range -/
theorem next_in (first now : Int) (k : Nat) (h1 : -68719476736 ≤ first) (h2 : first ≤ 34359738368) (hn1 : first ≤ now) (hn2 : now ≤ first + 445600) (hk1 : 1 ≤ k) (hk2 : k ≤ 1000) :
    nextC first k now = 0 ∧ (first + 345600 ≤ now → nextOk first k now = false) ∧
      (now < first + 345600 → nextOk first k now = true ∧ now < nextAt first k now ∧ nextAt first k now ≤ first + 345600 ∧ (9 ≤ k → min (now + 14400) (first + 345600) ≤ nextAt first k now)) := by
  have e1 : isIn first (-68719476736) 68719476736 = true := isIn_true h1 (by omega)
  have e2 : isIn now (-68719476736) 68719476736 = true := isIn_true (by omega) (by omega)
  have e3 : isIn (k : Int) 1 1000000 = true := isIn_true (by omega) (by omega)
  have e4 : ¬ now < first := by omega
  have hc : nextC first k now = 0 := by simp [nextC, e1, e2, e3, e4]
  refine ⟨hc, fun h => ?_, fun h => ?_⟩
  · simp [nextOk, hc]; omega
  · have hok : nextOk first k now = true := by simp [nextOk, hc, h]
    have hat : nextAt first k now = nextT first k now := by simp [nextAt, hok]
    have hw := waitN_lo k hk1
    rw [hok, hat]
    unfold nextT
    refine ⟨rfl, by omega, by omega, fun h9 => ?_⟩
    have := hw.2.1 h9
    omega

theorem ends_walk (first pause : Int) (w : World) :
    Calls Try.prog 4 #[.int .i64 first, .int .i64 pause] w fun e w' => e = .returned (.bool true) ∧ Below w.heap.size w w' := by
  have hin := in_any
  have HI := Lib.hid hin
  clear hin
  rcases h1 : isIn first (-68719476736) 34359738368 with _ | _
  · go_enter Try.func4, Try.ntmps4
    go_wp2_with fail
    (with_reducible refine (waits_any _).mono ?_)
    rintro e w1 ⟨rfl, hb⟩
    go_wp2_with (go_at_call 18; refine (HI.out _ _ _ _).mono ?_; rintro e w' ⟨rfl, rfl⟩)
    (with_reducible refine (waits_any _).mono ?_)
    rintro e w2 ⟨rfl, hb2⟩
    go_wp2
    go_returns
    exact ⟨rfl, below_trans hb hb2⟩
  rcases h2 : isIn pause 0 100000 with _ | _
  · go_enter Try.func4, Try.ntmps4
    go_wp2_with fail
    (with_reducible refine (waits_any _).mono ?_)
    rintro e w1 ⟨rfl, hb⟩
    go_wp2_with (go_at_call 18; refine (HI.out _ _ _ _).mono ?_; rintro e w' ⟨rfl, rfl⟩)
    (with_reducible refine (waits_any _).mono ?_)
    rintro e w2 ⟨rfl, hb2⟩
    go_wp2
    go_returns
    exact ⟨rfl, below_trans hb hb2⟩
  obtain ⟨b1, b2⟩ := isIn_iff.1 h1
  obtain ⟨b3, b4⟩ := isIn_iff.1 h2
  go_enter Try.func4, Try.ntmps4
  go_wp2_with fail
  (with_reducible refine (waits_any _).mono ?_)
  rintro e w1 ⟨rfl, hb⟩
  go_wp2_with (go_at_call 18; refine (HI.out _ _ _ _).mono ?_; rintro e w' ⟨rfl, rfl⟩)
  clear h1 h2 HI
  go_loopw [5, 6] (fun n i wr => ∃ (k : Nat) (now : Int), 1 ≤ k ∧ k ≤ 33 ∧ first ≤ now ∧ now ≤ first + 445600 ∧ (9 ≤ k → 14400 * ((k : Int) - 9) ≤ now - first ∨ 345600 ≤ now - first) ∧ n = .int .i64 now ∧ i = .int .i64 k ∧ Below w.heap.size w wr) (fun _ i _ => 101 - (intOf i).toNat)
  case atStart => exact ⟨1, first, by omega, by omega, by omega, by omega, by omega, rfl, rfl, hb⟩
  case round =>
    obtain ⟨k, now, k1, k2, n1, n2, n3, rfl, rfl, hbr⟩ := hrel
    obtain ⟨x1, x2, x3⟩ := next_in first now k b1 b2 n1 n2 k1 (by omega)
    have c1 := fun W => next_any first k now W
    rw [x1] at c1
    by_cases hlt : now < first + 345600
    · obtain ⟨y1, y2, y3, y4⟩ := x3 hlt
      rw [y1] at c1
      generalize nextAt first k now = t at *
      generalize nextI first k now = ni at *
      have C1 := Lib.hid c1
      clear c1 x1 x2 x3 y1
      go_wp2_with fail
      (with_reducible refine (C1.out _).mono ?_)
      rintro e w2 ⟨rfl, hb2⟩
      have hkk : (k : Int) ≤ 100 := by omega
      go_wp2
      go_roundw
      case rel => exact ⟨k + 1, t + pause, by omega, by omega, by omega, by omega, by omega, rfl, by go_num, (below_trans hbr hb2).alloc (below_trans hbr hb2).size _⟩
      case measure => simp [intOf]; omega
    · have y1 := x2 (by omega)
      rw [y1] at c1
      generalize nextAt first k now = t at *
      generalize nextI first k now = ni at *
      have C1 := Lib.hid c1
      clear c1 x1 x2 x3 y1
      have hkk : (k : Int) ≤ 100 := by omega
      have hge : 345600 ≤ now - first := by omega
      go_wp2_with fail
      (with_reducible refine (C1.out _).mono ?_)
      rintro e w2 ⟨rfl, hb2⟩
      go_wp2
      go_returns
      exact ⟨ret_bool (by simp), (below_trans hbr hb2).alloc (below_trans hbr hb2).size _⟩

/-- the sum of the first k -/
def sumTo (zs : List Int) (k : Nat) : Int := (zs.take k).sum
theorem sumTo_succ (zs : List Int) (k : Nat) (h : k < zs.length) : sumTo zs (k + 1) = sumTo zs k + zs[k] := by
  unfold sumTo; rw [List.take_succ_eq_append_getElem h, List.sum_append]; simp

theorem delay_walk (first : Int) (a : Option Addr) (len cap : Nat) (zs : List Int) (w : World) (hlen : len ≤ maxLen) (hr : Row w a len (zs.map (Value.int .i64))) :
    Calls Try.prog 5 #[.int .i64 first, .slice a len cap] w fun e w' => e = .returned (.bool true) ∧ Below w.heap.size w w' := by
  unfold maxLen at hlen
  have hin := in_any
  have HI := Lib.hid hin
  clear hin
  have HR := Lib.hid hr
  clear hr
  rcases h1 : isIn first (-34359738368) 34359738368 with _ | _
  · go_enter Try.func5, Try.ntmps5
    go_wp2_with fail
    (with_reducible refine (waits_any _).mono ?_)
    rintro e w1 ⟨rfl, hb⟩
    go_wp2_with (go_at_call 18; refine (HI.out _ _ _ _).mono ?_; rintro e w' ⟨rfl, rfl⟩)
    (with_reducible refine (waits_any _).mono ?_)
    rintro e w2 ⟨rfl, hb2⟩
    go_wp2
    go_returns
    exact ⟨rfl, below_trans hb hb2⟩
  by_cases h2 : 100 < len
  · go_enter Try.func5, Try.ntmps5
    go_wp2_with fail
    (with_reducible refine (waits_any _).mono ?_)
    rintro e w1 ⟨rfl, hb⟩
    go_wp2_with (go_at_call 18; refine (HI.out _ _ _ _).mono ?_; rintro e w' ⟨rfl, rfl⟩)
    (with_reducible refine (waits_any _).mono ?_)
    rintro e w2 ⟨rfl, hb2⟩
    go_wp2
    go_returns
    exact ⟨rfl, below_trans hb hb2⟩
  obtain ⟨b1, b2⟩ := isIn_iff.1 h1
  go_enter Try.func5, Try.ntmps5
  go_wp2_with fail
  (with_reducible refine (waits_any _).mono ?_)
  rintro e w1 ⟨rfl, hb⟩
  go_wp2_with (go_at_call 18; refine (HI.out _ _ _ _).mono ?_; rintro e w' ⟨rfl, rfl⟩)
  clear h1
  go_loopw [5, 6, 7] (fun m n i wr => ∃ (k : Nat) (many before : Int), k ≤ len ∧ first ≤ before ∧ before ≤ first + 1000000 * k ∧ (many = 0 ∧ before < first + 14400 ∨ many = 1 ∧ first + 14400 ≤ before) ∧ m = .int .i64 many ∧ n = .int .i64 before ∧ i = .int .i64 k ∧ Below w.heap.size w wr) (fun _ _ i _ => len - (intOf i).toNat)
  case atStart => exact ⟨0, 0, first, by omega, by omega, by omega, by omega, rfl, rfl, rfl, hb⟩
  case round =>
    obtain ⟨k, many, before, k1, n1, n2, n3, rfl, rfl, rfl, hbr⟩ := hrel
    by_cases hlt : k < len
    · have hzl : zs.length = len := by simpa using HR.out.1
      obtain ⟨b, off, rfl, hcells⟩ := HR.out.2.resolve_left (by omega)
      have hk : k < zs.length := by omega
      have hc0 := hcells k (.int .i64 zs[k]) (by simp [hk])
      have hlt0 : b < w.heap.size := by
        rcases Nat.lt_or_ge b w.heap.size with h | h
        · exact h
        · simp [World.cell?, Array.getElem?_eq_none h] at hc0
      have hc1 : wr.cell? ⟨b, off + k, none⟩ = some (.int .i64 zs[k]) := (hbr.cell (p := ⟨b, off + k, none⟩) hlt0).trans hc0
      clear hcells hc0 hzl HR
      generalize zs[k] = z at *
      rcases h3 : isIn z 0 1000000 with _ | _
      · go_wp2_with (go_at_call 18; refine (HI.out _ _ _ _).mono ?_; rintro e w' ⟨rfl, rfl⟩)
        go_returns
        exact ⟨rfl, hbr⟩
      · obtain ⟨z1, z2⟩ := isIn_iff.1 h3
        go_wp2_with (go_at_call 18; refine (HI.out _ _ _ _).mono ?_; rintro e w' ⟨rfl, rfl⟩)
        have hra : (isIn first (-68719476736) 68719476736 && isIn before (-68719476736) 68719476736 && isIn (before + z) (-68719476736) 68719476736) = true := by simp [isIn]; omega
        (with_reducible refine (late_yes first before (before + z) _ hra n1 (by omega)).mono ?_)
        rintro e w2 ⟨rfl, hb2⟩
        have hb3 := below_trans hbr hb2
        have hc2 : w2.cell? ⟨b, off + k, none⟩ = some (.int .i64 z) := (hb2.cell (p := ⟨b, off + k, none⟩) (Nat.lt_of_lt_of_le hlt0 hbr.size)).trans hc1
        have hlt2 : b < w2.heap.size := Nat.lt_of_lt_of_le hlt0 hb3.size
        clear hra h3 hc1
        by_cases hl : before < first + 14400 ∧ first + 14400 ≤ before + z
        · have hl2 : lateB first before (before + z) = true := by simp [lateB, hl]
          rw [hl2]
          clear hl2
          go_wp2
          go_roundw
          case rel => exact ⟨k + 1, many + 1, before + z, by omega, by omega, by omega, by omega, rfl, rfl, by go_num, hb3.alloc hb3.size _⟩
          case measure => simp [intOf]; omega
        · have hl2 : lateB first before (before + z) = false := by simp [lateB]; omega
          rw [hl2]
          clear hl2
          go_wp2
          go_roundw
          case rel => exact ⟨k + 1, many, before + z, by omega, by omega, by omega, by omega, rfl, rfl, by go_num, hb3.alloc hb3.size _⟩
          case measure => simp [intOf]; omega
    · rcases n3 with ⟨rfl, n4⟩ | ⟨rfl, n4⟩
      all_goals
        go_wp2
        go_returns
        refine ⟨ret_bool ?_, hbr⟩
        simp
        omega

end Go.Proofs.Ytlpmbmilnoncdaa

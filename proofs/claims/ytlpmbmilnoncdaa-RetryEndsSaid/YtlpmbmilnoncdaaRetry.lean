/- The contracts of package retry and of its reference: Next, Late, times, Time, Fault, None; Again, Wait, In, At. -/
import Derived.Test.YtlpmbmilnoncdaaProg
import Derived.Test.YtlpmbmilnoncdaaBase
namespace Go.Proofs.Ytlpmbmilnoncdaa
open Go.RowKit
set_option maxRecDepth 100000
set_option maxHeartbeats 1000000

/-- a number lies between two others -/
def isIn (n lo hi : Int) : Bool := decide (lo ≤ n) && decide (n ≤ hi)
theorem isIn_true {n lo hi : Int} (h1 : lo ≤ n) (h2 : n ≤ hi) : isIn n lo hi = true := by simp [isIn, h1, h2]
theorem isIn_false {n lo hi : Int} (h : n < lo ∨ hi < n) : isIn n lo hi = false := by
  simp [isIn]; omega
theorem isIn_iff {n lo hi : Int} : isIn n lo hi = true ↔ lo ≤ n ∧ n ≤ hi := by simp [isIn]

theorem in_any (n lo hi : Int) (w : World) :
    Calls Try.prog 18 #[.int .i64 n, .int .i64 lo, .int .i64 hi] w fun e w' => e = .returned (.bool (isIn n lo hi)) ∧ w = w' := by
  by_cases h1 : lo ≤ n
  · go_enter Try.func18, Try.ntmps18
    go_wp2
    go_ret
    exact ⟨ret_bool (by simp [isIn, h1]), rfl⟩
  · go_enter Try.func18, Try.ntmps18
    go_wp2
    go_ret
    exact ⟨ret_bool (isIn_false (.inl (by omega))).symm, rfl⟩

theorem time_any (n : Int) (w : World) :
    Calls Try.prog 56 #[.int .i64 n] w fun e w' => e = .returned (.bool (isIn n (-68719476736) 68719476736)) ∧ w = w' := by
  by_cases h1 : -68719476736 ≤ n
  · go_enter Try.func56, Try.ntmps56
    go_wp2
    go_ret
    exact ⟨ret_bool (by simp [isIn, h1]), rfl⟩
  · go_enter Try.func56, Try.ntmps56
    go_wp2
    go_ret
    exact ⟨ret_bool (isIn_false (.inl (by omega))).symm, rfl⟩

theorem at_any (c i : Int) (w : World) :
    Calls Try.prog 19 #[.int .i64 c, .int .i64 i] w fun e w' => e = .returned (.agg #[.int .i64 c, .int .i64 i]) ∧ Below w.heap.size w w' := by
  go_enter Try.func19, Try.ntmps19
  go_wp2
  exact bodyPost_ret (v := .agg #[.int .i64 c, .int .i64 i]) (by simp [results, Try.results19, go_sem]) rfl ⟨rfl, (Below.refl _ _).alloc (Nat.le_refl _) _⟩

theorem fault_any (c i : Int) (w : World) :
    Calls Try.prog 37 #[.int .i64 c, .int .i64 i] w fun e w' => e = .returned (.agg #[.int .i64 c, .int .i64 i]) ∧ Below w.heap.size w w' := by
  go_enter Try.func37, Try.ntmps37
  go_wp2
  exact bodyPost_ret (v := .agg #[.int .i64 c, .int .i64 i]) (by simp [results, Try.results37, go_sem]) rfl ⟨rfl, (Below.refl _ _).alloc (Nat.le_refl _) _⟩

theorem none_any (w : World) :
    Calls Try.prog 38 #[] w fun e w' => e = .returned (.agg #[.int .i64 0, .int .i64 0]) ∧ Below w.heap.size w w' := by
  go_enter Try.func38, Try.ntmps38
  go_wp2
  exact bodyPost_ret (v := .agg #[.int .i64 0, .int .i64 0]) (by simp [results, Try.results38, go_sem]) rfl ⟨rfl, (Below.refl _ _).alloc (Nat.le_refl _) _⟩

/-- 'times' of the two numbers of a new array -/
theorem times_any (zs : List Int) (b cap : Nat) (w : World) (hz : zs.length < 1000) (hc : ∀ i, i < zs.length → w.cell? ⟨b, i, none⟩ = some (.int .i64 (zs[i]?.getD 0))) :
    Calls Try.prog 36 #[.slice (some ⟨b, 0, none⟩) zs.length cap] w fun e w' => e = .returned (.bool (zs.all fun z => isIn z (-68719476736) 68719476736)) ∧ w = w' := by
  go_enter Try.func36, Try.ntmps36
  go_wp2
  go_loop [4, 7] (fun _ i => ∃ k : Nat, k ≤ zs.length ∧ i = .int .i64 k ∧ (zs.take k).all (fun z => isIn z (-68719476736) 68719476736) = true) (fun _ i => zs.length - (intOf i).toNat)
  case atStart => exact ⟨0, Nat.zero_le _, rfl, rfl⟩
  case round =>
    obtain ⟨k, hk, rfl, hall⟩ := hrel
    have HA := Lib.hid hall
    clear hall
    by_cases hlt : k < zs.length
    · have hcell := hc k hlt
      have hs := take_all (fun z => isIn z (-68719476736) 68719476736) zs k hlt
      rw [HA.out, Bool.true_and] at hs
      have HS := Lib.hid hs
      clear hs hc
      go_wp2_with (go_at_call 56; refine (time_any _ _).mono ?_; rintro e w' ⟨rfl, rfl⟩)
      · rename_i hno
        go_ret
        exact ⟨ret_bool (all_false (fun z => isIn z (-68719476736) 68719476736) zs k hlt (by simpa using hno)).symm, rfl⟩
      · rename_i hyes
        go_round
        case rel => exact ⟨k + 1, by omega, by go_num, by rw [HS.out]; simpa using hyes⟩
        case measure => simp [intOf]; omega
    · go_wp2
      go_ret
      exact ⟨ret_bool (by rw [List.take_of_length_le (by omega)] at HA; exact HA.out.symm), rfl⟩

theorem times2_any (x y : Int) (b : Nat) (w : World) (h0 : w.cell? ⟨b, 0, none⟩ = some (.int .i64 x)) (h1 : w.cell? ⟨b, 1, none⟩ = some (.int .i64 y)) :
    Calls Try.prog 36 #[.slice (some ⟨b, 0, none⟩) 2 2] w fun e w' => e = .returned (.bool (isIn x (-68719476736) 68719476736 && isIn y (-68719476736) 68719476736)) ∧ w = w' := by
  refine (times_any [x, y] b 2 w (by simp) ?_).mono ?_
  · intro i hi
    match i, hi with
    | 0, _ => simpa using h0
    | 1, _ => simpa using h1
  · rintro e w' ⟨rfl, rfl⟩
    exact ⟨by simp, rfl⟩

/-- the delay after an attempt -/
def waitN (tries : Int) : Int := if 8 < tries then 14400 else 60 * 2 ^ (tries - 1).toNat

def FaultV (c i : Int) : Value := .agg #[.int .i64 c, .int .i64 i]

/-- what Next and Again return -/
def nextT (first tries now : Int) : Int := min (min (now + waitN tries) (first + 345600)) 68719476736

theorem next_range (first tries now : Int) (w : World) (h : (isIn first (-68719476736) 68719476736 && isIn now (-68719476736) 68719476736) = false) :
    Calls Try.prog 14 #[.int .i64 first, .int .i64 tries, .int .i64 now] w fun e w' => e = .returned (.tuple #[.int .i64 0, .bool false, .agg #[.int .i64 3, .int .i64 (-2)]]) ∧ Below w.heap.size w w' := by
  go_enter Try.func14, Try.ntmps14
  go_wp2_with fail
  (with_reducible refine (times2_any first now (w.heap.size + 1) _ ?_ ?_).mono ?_)
  · simp [go_sem]
  · simp [go_sem]
  rintro e w' ⟨rfl, rfl⟩
  rw [h]
  go_wp2
  go_returns
  exact ⟨rfl, by go_grown⟩

theorem next_tries (first tries now : Int) (w : World) (h : (isIn first (-68719476736) 68719476736 && isIn now (-68719476736) 68719476736) = true) (ht : tries < 1 ∨ 1000000 < tries) :
    Calls Try.prog 14 #[.int .i64 first, .int .i64 tries, .int .i64 now] w fun e w' => e = .returned (.tuple #[.int .i64 0, .bool false, .agg #[.int .i64 3, .int .i64 (-3)]]) ∧ Below w.heap.size w w' := by
  rcases ht with ht | ht
  all_goals
    go_enter Try.func14, Try.ntmps14
    go_wp2_with fail
    (with_reducible refine (times2_any first now (w.heap.size + 1) _ ?_ ?_).mono ?_)
    · simp [go_sem]
    · simp [go_sem]
    rintro e w' ⟨rfl, rfl⟩
    rw [h]
    go_wp2
    go_returns
    exact ⟨rfl, by go_grown⟩

theorem next_order (first tries now : Int) (w : World) (h : (isIn first (-68719476736) 68719476736 && isIn now (-68719476736) 68719476736) = true) (ht : 1 ≤ tries) (ht2 : tries ≤ 1000000) (hn : now < first) :
    Calls Try.prog 14 #[.int .i64 first, .int .i64 tries, .int .i64 now] w fun e w' => e = .returned (.tuple #[.int .i64 0, .bool false, .agg #[.int .i64 19, .int .i64 (-4)]]) ∧ Below w.heap.size w w' := by
  go_enter Try.func14, Try.ntmps14
  go_wp2_with fail
  (with_reducible refine (times2_any first now (w.heap.size + 1) _ ?_ ?_).mono ?_)
  · simp [go_sem]
  · simp [go_sem]
  rintro e w' ⟨rfl, rfl⟩
  rw [h]
  go_wp2
  go_returns
  exact ⟨rfl, by go_grown⟩

theorem next_over (first tries now : Int) (w : World) (h : (isIn first (-68719476736) 68719476736 && isIn now (-68719476736) 68719476736) = true) (ht : 1 ≤ tries) (ht2 : tries ≤ 1000000) (hn : first ≤ now) (ho : first + 345600 ≤ now) :
    Calls Try.prog 14 #[.int .i64 first, .int .i64 tries, .int .i64 now] w fun e w' => e = .returned (.tuple #[.int .i64 0, .bool false, .agg #[.int .i64 0, .int .i64 0]]) ∧ Below w.heap.size w w' := by
  have hb : -68719476736 ≤ first ∧ first ≤ 68719476736 ∧ -68719476736 ≤ now ∧ now ≤ 68719476736 := by simp [isIn] at h; omega
  obtain ⟨b1, b2, b3, b4⟩ := hb
  go_enter Try.func14, Try.ntmps14
  go_wp2_with fail
  (with_reducible refine (times2_any first now (w.heap.size + 1) _ ?_ ?_).mono ?_)
  · simp [go_sem]
  · simp [go_sem]
  rintro e w' ⟨rfl, rfl⟩
  rw [h]
  go_wp2
  go_returns
  exact ⟨rfl, by go_grown⟩

theorem waitN_vals (k : Nat) (h1 : 1 ≤ k) (h2 : k ≤ 9) : 60 ≤ waitN k ∧ waitN k ≤ 14400 ∧ (k ≤ 8 → waitN k < 14400 ∧ min (2 * waitN k) 14400 = waitN (k + 1 : Nat)) ∧ (k = 9 → waitN k = 14400) := by
  have : k = 1 ∨ k = 2 ∨ k = 3 ∨ k = 4 ∨ k = 5 ∨ k = 6 ∨ k = 7 ∨ k = 8 ∨ k = 9 := by omega
  rcases this with rfl | rfl | rfl | rfl | rfl | rfl | rfl | rfl | rfl <;> decide

theorem next_yes (first tries now : Int) (w : World) (h : (isIn first (-68719476736) 68719476736 && isIn now (-68719476736) 68719476736) = true) (ht : 1 ≤ tries) (ht2 : tries ≤ 1000000) (hn : first ≤ now) (ho : now < first + 345600) :
    Calls Try.prog 14 #[.int .i64 first, .int .i64 tries, .int .i64 now] w fun e w' => e = .returned (.tuple #[.int .i64 (nextT first tries now), .bool true, .agg #[.int .i64 0, .int .i64 0]]) ∧ Below w.heap.size w w' := by
  have hb : -68719476736 ≤ first ∧ first ≤ 68719476736 ∧ -68719476736 ≤ now ∧ now ≤ 68719476736 := by simp [isIn] at h; omega
  obtain ⟨b1, b2, b3, b4⟩ := hb
  go_enter Try.func14, Try.ntmps14
  go_wp2_with fail
  (with_reducible refine (times2_any first now (w.heap.size + 1) _ ?_ ?_).mono ?_)
  · simp [go_sem]
  · simp [go_sem]
  rintro e w' ⟨rfl, rfl⟩
  rw [h]
  go_wp2
  go_loop [9, 10] (fun d i => ∃ k : Nat, 1 ≤ k ∧ k ≤ 9 ∧ (k : Int) ≤ tries ∧ i = .int .i64 k ∧ d = .int .i64 (waitN k)) (fun _ i => 10 - (intOf i).toNat)
  case atStart => exact ⟨1, by omega, by omega, by omega, rfl, rfl⟩
  case round =>
    obtain ⟨k, hk1, hk2, hkt, rfl, rfl⟩ := hrel
    obtain ⟨v1, v2, v3, v4⟩ := waitN_vals k hk1 hk2
    by_cases hlt : (k : Int) < tries ∧ k ≤ 8
    · obtain ⟨hlt1, hlt2⟩ := hlt
      obtain ⟨v5, v6⟩ := v3 hlt2
      have V6 := Lib.hid v6
      clear v3 v4 v6
      generalize waitN k = d at *
      go_wp2
      go_round
      case rel => exact ⟨k + 1, by omega, by omega, by omega, by go_num, by rw [← V6.out]; exact val_int (by omega)⟩
      case measure => simp [intOf]; omega
    · have hw : waitN k = waitN tries := by
        by_cases e : tries = k
        · rw [e]
        · have : k = 9 := by omega
          rw [v4 this]; unfold waitN; rw [if_pos (by omega)]
      have hst : (k : Int) < tries → 14400 ≤ waitN k := fun hx => by rw [v4 (by omega)]; omega
      have hfin : Hid (min (min (now + waitN k) (first + 345600)) 68719476736 = nextT first tries now) := by rw [hw]; rfl
      clear v3 v4 hw hlt
      generalize waitN k = d at *
      by_cases hlt : (k : Int) < tries
      all_goals
        have := hst
        go_wp2
        all_goals
          go_returns
          refine ⟨?_, by go_grown⟩
          rw [← hfin.out]
          exact tup3 (by omega)

end Go.Proofs.Ytlpmbmilnoncdaa

/- Part 4 of the proof of the law NoticeSurvivesTheWay: what it needs. -/
import Derived.Test.YtpclhpncmlbccaaGreatDoorKNoticeSurvivesTheWay3
import Derived.Lib.ItoaMem
import Derived.Lib.SplitLaws
import Derived.Laws.RangeAny
import Derived.Shelf.Strings.SlTrimAscii
set_option linter.unusedVariables false
set_option linter.unusedSimpArgs false
/- Days and years: what the typed functions of package dates compute. -/
namespace Go.Proofs.YtpclhpncmlbccaaGreatDoor
open Go.RowKit
set_option linter.unusedVariables false
set_option maxHeartbeats 1000000

theorem iRem_zero (y k : Int) : (iRem y k == 0) = (y % k == 0) := by
  unfold iRem
  rw [Bool.eq_iff_iff, beq_iff_eq, beq_iff_eq]
  constructor
  · intro h; exact Int.emod_eq_zero_of_dvd (Int.dvd_of_tmod_eq_zero h)
  · intro h; exact Int.tmod_eq_zero_of_dvd (Int.dvd_of_emod_eq_zero h)
theorem dates_leap_eq (y : Int) : dates_leap y = some (leapI y) := by
  unfold dates_leap leapI bne
  rw [iRem_zero, iRem_zero, iRem_zero]
  cases y % 4 == 0 <;> cases y % 100 == 0 <;> cases y % 400 == 0 <;> rfl
theorem R_leap_eq (y : Int) : R_leap y = some (leapI y) := by
  unfold R_leap leapI bne
  rw [iRem_zero, iRem_zero, iRem_zero]
  have h : (y % 4 == 0) = false → (y % 400 == 0) = false := by
    intro h
    rw [beq_eq_false_iff_ne] at h ⊢
    omega
  revert h
  cases y % 4 == 0 <;> cases y % 100 == 0 <;> cases y % 400 == 0 <;> simp
theorem iQuo_nn {a b : Int} (ha : 0 ≤ a) (hb : 0 < b) (h : a ≤ 9223372036854775807) : iQuo a b = a / b := by
  unfold iQuo
  rw [Int.tdiv_eq_ediv_of_nonneg ha]
  have h1 : 0 ≤ a / b := Int.ediv_nonneg ha (by omega)
  have h2 : a / b ≤ a := Int.ediv_le_self b ha
  exact w64_id (by omega) (by omega)
theorem dates_before_eq {y : Int} (h1 : 1 ≤ y) (h2 : y ≤ 100000) : dates_before y = some (befI y) := by
  unfold dates_before befI
  have e0 : w64 (y - 1) = y - 1 := w64_id (by omega) (by omega)
  have e1 : w64 (365 * (y - 1)) = 365 * (y - 1) := w64_id (by omega) (by omega)
  rw [e0, e1, iQuo_nn (by omega) (by omega) (by omega), iQuo_nn (by omega) (by omega) (by omega), iQuo_nn (by omega) (by omega) (by omega)]
  have e2 : w64 (365 * (y - 1) + (y - 1) / 4) = 365 * (y - 1) + (y - 1) / 4 := w64_id (by omega) (by omega)
  have e3 : w64 (365 * (y - 1) + (y - 1) / 4 - (y - 1) / 100) = 365 * (y - 1) + (y - 1) / 4 - (y - 1) / 100 := w64_id (by omega) (by omega)
  rw [e2, e3, w64_id (by omega) (by omega)]
theorem dates_length_eq {y m : Int} (h1 : 1 ≤ m) (h2 : m ≤ 12) : dates_length y m = some (dimI y m) := by
  unfold dates_length
  have e0 : w64 (m - 1) = m - 1 := w64_id (by omega) (by omega)
  rw [e0, dates_leap_eq]
  obtain rfl | rfl | rfl | rfl | rfl | rfl | rfl | rfl | rfl | rfl | rfl | rfl : m = 1 ∨ m = 2 ∨ m = 3 ∨ m = 4 ∨ m = 5 ∨ m = 6 ∨ m = 7 ∨ m = 8 ∨ m = 9 ∨ m = 10 ∨ m = 11 ∨ m = 12 := by omega
  all_goals (cases h : leapI y <;> simp [dimI, h, idx] <;> rfl)
theorem domI_nn (y : Int) (n : Nat) : 0 ≤ domI y n ∧ domI y n ≤ 31 * n := by
  induction n with
  | zero => simp [domI]
  | succ n ih => have := dimI_pos y ((n + 1 : Nat) : Int); rw [domI]; omega
theorem day_loop (y : Int) : ∀ (r j : Nat) (n : Int), j + r ≤ 12 → -100000000 ≤ n → n + 31 * r ≤ 100000000 → iter (dates_day_l1 y ((j + r + 1 : Nat) : Int)) (n, ((j + 1 : Nat) : Int)) = some (n + (domI y (j + r) - domI y j))
  | 0, j, n, h1, h2, h3 => by
    refine iter_out ?_
    unfold dates_day_l1
    dsimp only
    rw [decide_eq_false (by omega)]
    simp
  | r + 1, j, n, h1, h2, h3 => by
    have hd := dimI_pos y ((j + 1 : Nat) : Int)
    have hc : dates_day_l1 y ((j + (r + 1) + 1 : Nat) : Int) (n, ((j + 1 : Nat) : Int)) = some (.cont (n + dimI y ((j + 1 : Nat) : Int), ((j + 1 + 1 : Nat) : Int))) := by
      unfold dates_day_l1
      dsimp only
      rw [decide_eq_true (by omega), dates_length_eq (by omega) (by omega)]
      simp only [cond_true, Option.bind_some]
      rw [w64_id (by omega) (by omega), w64_id (by omega) (by omega)]
      rfl
    rw [iter_cont hc]
    have := day_loop y r (j + 1) (n + dimI y ((j + 1 : Nat) : Int)) (by omega) (by omega) (by omega)
    rw [show j + 1 + r + 1 = j + (r + 1) + 1 by omega] at this
    rw [this, show j + 1 + r = j + (r + 1) by omega, domI]
    congr 1
    omega
/-- the number of a day -/
def dayN (y : Int) (m : Nat) (d : Int) : Int := befI y - befI 1970 + d - 1 + domI y (m - 1)
theorem befI_1970 : befI 1970 = 719162 := by decide
theorem befI_bound {y : Int} (h1 : 1 ≤ y) (h2 : y ≤ 5000) : 0 ≤ befI y ∧ befI y ≤ 2000000 := by unfold befI; omega
theorem dates_day_eq {y d : Int} {m : Nat} (h1 : 1 ≤ y) (h2 : y ≤ 5000) (hm1 : 1 ≤ m) (hm2 : m ≤ 12) (hd1 : 0 ≤ d) (hd2 : d ≤ 1000) : dates_day y m d = some (dayN y m d) := by
  have hb := befI_bound h1 h2
  unfold dates_day
  rw [dates_before_eq h1 (by omega), dates_before_eq (by omega : (1 : Int) ≤ 1970) (by omega), befI_1970]
  simp only [Option.bind_some]
  have e1 : w64 (befI y - 719162) = befI y - 719162 := w64_id (by omega) (by omega)
  have e2 : w64 (befI y - 719162 + d) = befI y - 719162 + d := w64_id (by omega) (by omega)
  have e3 : w64 (befI y - 719162 + d - 1) = befI y - 719162 + d - 1 := w64_id (by omega) (by omega)
  rw [e1, e2, e3]
  have := day_loop y (m - 1) 0 (befI y - 719162 + d - 1) (by omega) (by omega) (by omega)
  rw [show 0 + (m - 1) + 1 = m by omega, Nat.zero_add] at this
  rw [show ((0 + 1 : Nat) : Int) = 1 from rfl] at this
  rw [this]
  unfold dayN
  rw [befI_1970]
  simp [domI]
theorem dayN_11 (y : Int) : dayN y 1 1 = befI y - 719162 := by unfold dayN; rw [befI_1970]; simp [domI]
/-- the year of a day -/
theorem civil_year {v : Int × Int} {Y : Int} (h1 : 1 ≤ Y) (h2 : Y ≤ 4000) (hY : befI Y ≤ v.1 + 719162 ∧ v.1 + 719162 < befI (Y + 1)) : ∀ (k : Nat) (y : Int), k ≤ 11 → 1 ≤ y → y ≤ Y → Y < y + 2 * ((2 ^ k : Nat) : Int) → iter (dates_Civil_l1 v) (y, ((2 ^ k : Nat) : Int)) = some Y := by
  have step : ∀ (s : Nat) (y : Int), 1 ≤ s → s ≤ 2048 → 1 ≤ y → y ≤ Y → dates_Civil_l1 v (y, (s : Int)) = some (.cont (if y + s ≤ Y then y + s else y, ((s / 2 : Nat) : Int))) := by
    intro s y hs1 hs2 hy1 hy2
    unfold dates_Civil_l1
    dsimp only
    rw [decide_eq_true (by omega : (0 : Int) < (s : Int))]
    have e1 : w64 (y + (s : Int)) = y + s := w64_id (by omega) (by omega)
    have e2 : iQuo (s : Int) 2 = ((s / 2 : Nat) : Int) := by rw [iQuo_nn (by omega) (by omega) (by omega)]; omega
    rw [e1, e2]
    simp only [cond_true]
    by_cases h4 : y + s ≤ 4000
    · rw [decide_eq_true h4]
      have hd := dates_day_eq (y := y + s) (d := 1) (m := 1) (by omega) (by omega) (by omega) (by omega) (by omega) (by omega)
      rw [show ((1 : Nat) : Int) = 1 from rfl] at hd
      rw [hd, dayN_11]
      simp only [cond_true, Option.bind_some]
      by_cases hc : y + s ≤ Y
      · have := befI_mono hc
        rw [if_pos hc, decide_eq_true (by omega)]; rfl
      · have := befI_mono (show Y + 1 ≤ y + s by omega)
        rw [if_neg hc, decide_eq_false (by omega)]; rfl
    · rw [decide_eq_false h4, if_neg (by omega)]; rfl
  intro k
  induction k with
  | zero =>
    intro y _ hy1 hy2 hy3
    have hs := step 1 y (by omega) (by omega) hy1 hy2
    rw [show ((2 ^ 0 : Nat) : Int) = ((1 : Nat) : Int) from rfl, iter_cont hs]
    have e : (if y + ((1 : Nat) : Int) ≤ Y then y + ((1 : Nat) : Int) else y) = Y := by
      simp only [Nat.pow_zero] at hy3
      split <;> omega
    rw [e]
    exact iter_out (by unfold dates_Civil_l1; rfl)
  | succ k ih =>
    intro y hk hy1 hy2 hy3
    have hp : (2 ^ k : Nat) ≤ 2 ^ 10 := Nat.pow_le_pow_right (by omega) (by omega)
    have hp1 : 1 ≤ (2 ^ k : Nat) := Nat.one_le_pow _ _ (by omega)
    rw [Nat.pow_succ] at hy3 ⊢
    generalize hq : (2 ^ k : Nat) = q at *
    have hs := step (q * 2) y (by omega) (by omega) hy1 hy2
    rw [iter_cont hs, show q * 2 / 2 = q by omega]
    refine ih _ (by omega) (by split <;> omega) (by split <;> omega) (by split <;> omega)
theorem domI_mono (y : Int) {a b : Nat} (h : a ≤ b) : domI y a ≤ domI y b := by
  rcases Nat.lt_or_ge a b with h2 | h2
  · have := domI_lt y h2; omega
  · rw [show a = b by omega]; omega
/-- the month of a day -/
theorem civil_month {v : Int × Int} {Y : Int} {M : Nat} (h1 : 1 ≤ Y) (h2 : Y ≤ 4000) (hM : M ≤ 11) (hD : domI Y M ≤ v.1 + 719162 - befI Y ∧ v.1 + 719162 - befI Y < domI Y (M + 1)) : ∀ (r : Nat), M + r ≤ 11 → iter (dates_Civil_l2 v Y) ((M + r + 1 : Nat) : Int) = some ((M + 1 : Nat) : Int) := by
  have val : ∀ m : Nat, m ≤ 11 → dates_day Y ((m + 1 : Nat) : Int) 1 = some (befI Y - 719162 + domI Y m) := by
    intro m hm
    rw [dates_day_eq h1 (by omega) (by omega) (by omega) (by omega) (by omega)]
    unfold dayN
    rw [befI_1970, Nat.add_sub_cancel]
    congr 1; omega
  intro r
  induction r with
  | zero =>
    intro _
    refine iter_out ?_
    unfold dates_Civil_l2
    rw [Nat.add_zero, val M hM]
    simp only [Option.bind_some]
    rw [decide_eq_false (by omega)]; rfl
  | succ r ih =>
    intro hr
    have hc : dates_Civil_l2 v Y ((M + (r + 1) + 1 : Nat) : Int) = some (.cont ((M + r + 1 : Nat) : Int)) := by
      unfold dates_Civil_l2
      rw [val (M + (r + 1)) hr]
      have := domI_mono Y (show M + 1 ≤ M + (r + 1) by omega)
      simp only [Option.bind_some]
      rw [decide_eq_true (by omega), w64_id (by omega) (by omega)]
      simp only [cond_true]
      congr 2; omega
    rw [iter_cont hc]
    exact ih (by omega)
end Go.Proofs.YtpclhpncmlbccaaGreatDoor

/- Days and years: dates_split, dates.Civil. -/
namespace Go.Proofs.YtpclhpncmlbccaaGreatDoor
open Go.RowKit
set_option linter.unusedVariables false
set_option maxHeartbeats 1000000
theorem dates_split_eq {n k : Int} (hk1 : 1 ≤ k) (hk2 : k ≤ 1000000) (h1 : -1000000000000 ≤ n) (h2 : n ≤ 1000000000000) : dates_split n k = some (n / k, n % k) := by
  have hb1 := Int.emod_nonneg n (show k ≠ 0 by omega)
  have hb2 := Int.emod_lt_of_pos n (show 0 < k by omega)
  have ht : (iRem n k + k) = n % k + (if 0 ≤ n ∨ n % k = 0 then k else 0) := by
    unfold iRem
    rw [Int.tmod_eq_emod]
    by_cases h0 : 0 ≤ n
    · simp [h0]
    · by_cases hd : k ∣ n
      · have := Int.emod_eq_zero_of_dvd hd
        simp [hd, this]
      · have hne : n % k ≠ 0 := fun h => hd (Int.dvd_of_emod_eq_zero h)
        have hnat : (k.natAbs : Int) = k := by omega
        simp [h0, hd, hne, hnat]
  have hr : iRem (iRem n k + k) k = n % k := by
    rw [ht]
    unfold iRem
    split
    · rw [Int.tmod_eq_emod_of_nonneg (by omega)]
      simp
    · rw [Int.add_zero, Int.tmod_eq_emod_of_nonneg hb1]
      simp
  unfold dates_split nz
  have hz : (k == 0) = false := by rw [beq_eq_false_iff_ne]; omega
  have e1 : w64 (iRem n k + k) = iRem n k + k := by
    refine w64_id ?_ ?_ <;> (rw [ht]; split <;> omega)
  simp only [hz, Bool.false_eq_true, if_false, Option.bind_some, e1, hr]
  have hq : n = k * (n / k) + n % k := (Int.mul_ediv_add_emod n k).symm
  have e2 : w64 (n - n % k) = n - n % k := w64_id (by omega) (by omega)
  rw [e2]
  have e3 : iQuo (n - n % k) k = n / k := by
    unfold iQuo
    have e4 : n - n % k = k * (n / k) := by omega
    rw [e4, Int.mul_tdiv_cancel_left _ (by omega)]
    have h3 : -1000000000000 ≤ n / k := Int.le_ediv_of_mul_le (by omega) (by omega)
    have h4 : n / k ≤ 1000000000000 := Int.ediv_le_of_le_mul (by omega) (by omega)
    exact w64_id (by omega) (by omega)
  rw [e3]
end Go.Proofs.YtpclhpncmlbccaaGreatDoor

/- Numerals: strconv.Itoa, the reference's Digits and Fill, dates.pad. -/
namespace Go.Proofs.YtpclhpncmlbccaaGreatDoor
open Go.RowKit
set_option linter.unusedVariables false
set_option maxHeartbeats 1000000
theorem decD_small {u : Nat} (h : u < 10) : Lib.decDigits u = [UInt8.ofNat (48 + u)] := by rw [Lib.decDigits, dif_pos h]
theorem decD_big {u : Nat} (h : ¬ u < 10) : Lib.decDigits u = Lib.decDigits (u / 10) ++ Lib.decDigits (u % 10) := by
  rw [Lib.decDigits, dif_neg h, decD_small (show u % 10 < 10 by omega)]
theorem decD_len : ∀ (k u : Nat), u < 10 ^ (k + 1) → (Lib.decDigits u).length ≤ k + 1
  | 0, u, h => by rw [decD_small (by simpa using h)]; simp
  | k + 1, u, h => by
    by_cases h10 : u < 10
    · rw [decD_small h10]; simp
    · have := decD_len k (u / 10) (by rw [Nat.pow_succ] at h; omega)
      rw [decD_big h10, decD_small (show u % 10 < 10 by omega)]
      simp; omega
theorem iQuo10 {u : Nat} (h : u ≤ 9223372036854775807) : iQuo (u : Int) 10 = ((u / 10 : Nat) : Int) := by
  unfold iQuo
  rw [Int.tdiv_eq_ediv_of_nonneg (by omega), w64_id (by omega) (by omega)]
  omega
theorem iRem10 (u : Nat) : iRem (u : Int) 10 = ((u % 10 : Nat) : Int) := by
  unfold iRem
  rw [Int.tmod_eq_emod_of_nonneg (by omega)]
  omega
theorem cut_digit : ∀ u : Fin 10, cut ([48, 49, 50, 51, 52, 53, 54, 55, 56, 57] : Str) (u.val : Int) (w64 ((u.val : Int) + 1)) = some [UInt8.ofNat (48 + u.val)] := by decide
theorem digits_step {f g : Int → Option Str} (hf : ∀ n : Int, f n = bif decide (n < 10) then (cut ([48, 49, 50, 51, 52, 53, 54, 55, 56, 57] : Str) n (w64 (n + 1))).bind fun v2 => some v2 else (g (iQuo n 10)).bind fun v4 => (g (iRem n 10)).bind fun v6 => (cat v4 v6).bind fun v8 => some v8)
    (k : Nat) (hk : k ≤ 17) (hg : ∀ u : Nat, u < 10 ^ k → 1 ≤ k → g (u : Int) = some (Lib.decDigits u)) (u : Nat) (hu : u < 10 ^ (k + 1)) : f (u : Int) = some (Lib.decDigits u) := by
  have hp : 10 ^ (k + 1) ≤ 10 ^ 18 := Nat.pow_le_pow_right (by omega) (by omega)
  rw [hf]
  by_cases h10 : u < 10
  · rw [decide_eq_true (by omega : (u : Int) < 10), cond_true, cut_digit ⟨u, h10⟩, decD_small h10]
    rfl
  · have hk1 : 1 ≤ k := by
      rcases Nat.eq_zero_or_pos k with rfl | h
      · simp at hu; omega
      · exact h
    have h9 : 10 ^ 1 ≤ 10 ^ k := Nat.pow_le_pow_right (by omega) hk1
    rw [decide_eq_false (by omega : ¬ (u : Int) < 10), cond_false, iQuo10 (by omega), iRem10, hg _ (by rw [Nat.pow_succ] at hu; omega) hk1, hg _ (by omega) hk1, decD_big h10]
    have h1 := decD_len 17 (u / 10) (by omega)
    have h2 := decD_len 17 (u % 10) (by omega)
    simp only [Option.bind_some]
    rw [cat_ok (by omega)]
    rfl
theorem R_Digits_eq (u : Nat) (h : u < 10 ^ 12) : R_Digits (u : Int) = some (Lib.decDigits u) := by
  have h1 := digits_step (f := R_Digits_r1) (g := R_Digits_r0) (fun _ => rfl) 0 (by omega) (fun _ _ h => by omega)
  have h2 := digits_step (f := R_Digits_r2) (fun _ => rfl) 1 (by omega) (fun u hu _ => h1 u hu)
  have h3 := digits_step (f := R_Digits_r3) (fun _ => rfl) 2 (by omega) (fun u hu _ => h2 u hu)
  have h4 := digits_step (f := R_Digits_r4) (fun _ => rfl) 3 (by omega) (fun u hu _ => h3 u hu)
  have h5 := digits_step (f := R_Digits_r5) (fun _ => rfl) 4 (by omega) (fun u hu _ => h4 u hu)
  have h6 := digits_step (f := R_Digits_r6) (fun _ => rfl) 5 (by omega) (fun u hu _ => h5 u hu)
  have h7 := digits_step (f := R_Digits_r7) (fun _ => rfl) 6 (by omega) (fun u hu _ => h6 u hu)
  have h8 := digits_step (f := R_Digits_r8) (fun _ => rfl) 7 (by omega) (fun u hu _ => h7 u hu)
  have h9 := digits_step (f := R_Digits_r9) (fun _ => rfl) 8 (by omega) (fun u hu _ => h8 u hu)
  have h10 := digits_step (f := R_Digits_r10) (fun _ => rfl) 9 (by omega) (fun u hu _ => h9 u hu)
  have h11 := digits_step (f := R_Digits_r11) (fun _ => rfl) 10 (by omega) (fun u hu _ => h10 u hu)
  exact digits_step (f := R_Digits) (fun _ => rfl) 11 (by omega) (fun u hu _ => h11 u hu) u h
theorem strconv_Itoa_eq (u : Nat) (h : u ≤ 9223372036854775807) : strconv_Itoa (u : Int) = some (Lib.decDigits u) := by
  unfold strconv_Itoa
  rw [if_pos (by omega), Lib.itoa_nonneg]
/-- a numeral with at least so many digits -/
def padD (u k : Nat) : Str := List.replicate (k - (Lib.decDigits u).length) 48 ++ Lib.decDigits u
theorem padD_len {u k : Nat} (hk : 1 ≤ k) (h : u < 10 ^ k) : (padD u k).length = k := by
  unfold padD
  have := decD_len (k - 1) u (by rw [show k - 1 + 1 = k by omega]; exact h)
  simp; omega
theorem fill_loop (k : Nat) (hk : k ≤ 1000) : ∀ (n : Nat) (s : Str), k - s.length = n → iter (R_Fill_l1 (k : Int)) s = some (List.replicate n 48 ++ s)
  | 0, s, h => by
    refine iter_out ?_
    unfold R_Fill_l1
    rw [decide_eq_false (by omega)]; rfl
  | n + 1, s, h => by
    have hc : R_Fill_l1 (k : Int) s = some (.cont (48 :: s)) := by
      unfold R_Fill_l1
      rw [decide_eq_true (by omega), cat_ok (by simp; omega)]; rfl
    rw [iter_cont hc, fill_loop k hk n (48 :: s) (by simp; omega), List.replicate_succ', List.append_assoc]
    rfl
theorem R_Fill_eq (u k : Nat) (hk : k ≤ 1000) (h : u < 10 ^ 12) : R_Fill (u : Int) (k : Int) = some (padD u k) := by
  unfold R_Fill padD
  rw [R_Digits_eq u h]
  simp only [Option.bind_some]
  rw [fill_loop k hk _ _ rfl]
  rfl
theorem repeat_one (c : UInt8) (n : Nat) : Lib.repeatL [c] n = List.replicate n c := by
  induction n with
  | zero => rfl
  | succ n ih => rw [Lib.repeatL, ih]; rfl
theorem dates_pad_eq (u k : Nat) (hk : k ≤ 1000) (h : u < 10 ^ 12) : dates_pad (u : Int) (k : Int) = some (padD u k) := by
  have hl := decD_len 11 u (by omega)
  unfold dates_pad padD
  rw [strconv_Itoa_eq u (by omega)]
  simp only [Option.bind_some]
  have e : max 0 (w64 ((k : Int) - ((Lib.decDigits u).length : Int))) = ((k - (Lib.decDigits u).length : Nat) : Int) := by
    rw [w64_id (by omega) (by omega)]; omega
  unfold strings_Repeat
  rw [e, if_pos ⟨by omega, by omega, by simp; omega⟩, Int.toNat_natCast, repeat_one]
  simp only [Option.bind_some]
  rw [cat_ok (by simp; omega)]
  rfl
end Go.Proofs.YtpclhpncmlbccaaGreatDoor

/- Domains and addresses: the plain functions, and what the typed functions compute. -/
namespace Go.Proofs.YtpclhpncmlbccaaGreatDoor
open Go.RowKit
set_option linter.unusedVariables false
set_option maxHeartbeats 1000000

def lettC (c : UInt8) : Bool := (decide (97 ≤ c) && decide (c ≤ 122)) || (decide (65 ≤ c) && decide (c ≤ 90)) || (decide (48 ≤ c) && decide (c ≤ 57))
def smallC (c : UInt8) : Bool := (decide (97 ≤ c) && decide (c ≤ 122)) || (decide (48 ≤ c) && decide (c ≤ 57)) || c == 45 || c == 46
def goodC (c : UInt8) : Bool := lettC c || c == 45 || c == 95 || c == 46 || c == 43 || c == 61
/-- no dot at the front or behind a dot (p: there is one, or the front), none at the end -/
def dotsOk : Bool → Str → Bool
  | p, [] => !p
  | p, c :: r => if c = 46 then !p && dotsOk true r else dotsOk false r
def domP (s : Str) : Bool := decide (s.length ≤ 60) && s.all smallC && dotsOk true s
def atP (s : Str) : Nat := s.findIdx (· == 64)
def addrP (s : Str) : Bool := decide (atP s < s.length) && decide (1 ≤ atP s) && decide (atP s ≤ 60) && (s.take (atP s)).all goodC && domP (s.drop (atP s + 1))

theorem u8_le1 (k : Nat) (c : UInt8) (hk : OfNat.ofNat k < 256) : decide ((no_index (OfNat.ofNat k : Int)) ≤ (c.toNat : Int)) = decide ((OfNat.ofNat k : UInt8) ≤ c) := by
  have e : (OfNat.ofNat k : Int) = ((OfNat.ofNat k : Nat) : Int) := rfl
  have h2 : (OfNat.ofNat k : UInt8).toNat = (OfNat.ofNat k : Nat) := by
    show (UInt8.ofNat k).toNat = k
    rw [UInt8.toNat_ofNat']; exact Nat.mod_eq_of_lt hk
  rw [Bool.eq_iff_iff, decide_eq_true_eq, decide_eq_true_eq, UInt8.le_iff_toNat_le, h2, e]; omega
theorem u8_le2 (k : Nat) (c : UInt8) (hk : OfNat.ofNat k < 256) : decide ((c.toNat : Int) ≤ (no_index (OfNat.ofNat k : Int))) = decide (c ≤ (OfNat.ofNat k : UInt8)) := by
  have e : (OfNat.ofNat k : Int) = ((OfNat.ofNat k : Nat) : Int) := rfl
  have h2 : (OfNat.ofNat k : UInt8).toNat = (OfNat.ofNat k : Nat) := by
    show (UInt8.ofNat k).toNat = k
    rw [UInt8.toNat_ofNat']; exact Nat.mod_eq_of_lt hk
  rw [Bool.eq_iff_iff, decide_eq_true_eq, decide_eq_true_eq, UInt8.le_iff_toNat_le, h2, e]; omega

theorem R_In_eq (a b c : Int) : R_In a b c = some (decide (b ≤ a) && decide (a ≤ c)) := by
  unfold R_In; cases decide (b ≤ a) <;> rfl
theorem basic_Letter_eq (c : UInt8) : basic_Letter c = some (lettC c) := by
  unfold basic_Letter lettC
  simp only [u8_le1 97 c (by decide), u8_le2 122 c (by decide), u8_le1 65 c (by decide), u8_le2 90 c (by decide), u8_le1 48 c (by decide), u8_le2 57 c (by decide)]
  cases decide ((97 : UInt8) ≤ c) <;> cases decide (c ≤ 122) <;> cases decide ((65 : UInt8) ≤ c) <;> cases decide (c ≤ 90) <;> cases decide ((48 : UInt8) ≤ c) <;> cases decide (c ≤ 57) <;> rfl


/-! ### the reference's domains -/
/-! ### the reference's addresses -/
/-! ### the program's domains and addresses -/
theorem dots_contains (s : Str) : ∀ p, dotsOk p s = (!(p && (s.isEmpty || s.head? == some 46)) && !(s.getLast? == some 46) && !Lib.contains s [46, 46]) := by
  induction s with
  | nil => intro p; cases p <;> simp [dotsOk, Lib.contains, Lib.index]
  | cons c r ih =>
    intro p
    have hcont : Lib.contains (c :: r) [46, 46] = ((c == 46 && r.head? == some 46) || Lib.contains r [46, 46]) := by
      unfold Lib.contains
      rw [Lib.index]
      have hpre : ([46, 46] : List UInt8).isPrefixOf (c :: r) = (c == 46 && r.head? == some 46) := by
        cases r with
        | nil => simp [List.isPrefixOf]
        | cons d r => simp only [List.isPrefixOf, List.head?_cons, Bool.and_true]; rw [Bool.eq_iff_iff]; simp; constructor <;> rintro ⟨rfl, rfl⟩ <;> exact ⟨rfl, rfl⟩
      rw [hpre]
      have hg := Lib.index_ge r [46, 46]
      cases c == 46 && r.head? == some 46 with
      | true => simp
      | false =>
        simp only [Bool.false_eq_true, if_false, Bool.false_or]
        by_cases h : Lib.index r [46, 46] = -1
        · simp [h]
        · have : (Lib.index r [46, 46] == -1) = false := by simpa using h
          rw [this]
          simp only [Bool.false_eq_true, if_false]
          rw [Bool.eq_iff_iff]; simp; omega
    rw [hcont, dotsOk]
    have hlast : (c :: r).getLast? = if r.isEmpty then some c else r.getLast? := by cases r <;> simp
    rw [hlast]
    by_cases hc : c = 46
    · subst hc
      rw [if_pos rfl, ih true]
      cases r with
      | nil => simp
      | cons d r => cases p <;> cases hd : (d == 46) <;> simp_all [Bool.and_comm, Bool.and_assoc, Bool.and_left_comm]
    · have h1 : (c == 46) = false := by simpa using hc
      have h2 : (some c == some (46 : UInt8)) = false := by simpa using hc
      rw [if_neg hc, ih false]
      cases r with
      | nil => simp [h1, h2, Lib.contains, Lib.index, hc]
      | cons d r => simp [h1, h2, hc]
theorem strings_HasPrefix_eq (s t : Str) : strings_HasPrefix s t = some (t.isPrefixOf s) := by
  unfold strings_HasPrefix internal_stringslite_HasPrefix
  by_cases h : t.length ≤ s.length
  · have : decide ((t.length : Int) ≤ (s.length : Int)) = true := by simp; omega
    rw [this, cut_0n h]
    simp only [cond_true, Option.bind_some, Option.some.injEq]
    rw [Bool.eq_iff_iff, beq_iff_eq, List.isPrefixOf_iff_prefix, List.prefix_iff_eq_take]
    constructor <;> exact fun h => h.symm
  · have : decide ((t.length : Int) ≤ (s.length : Int)) = false := by simp; omega
    rw [this]
    simp only [cond_false, Option.bind_some, Option.some.injEq]
    symm
    rw [Bool.eq_false_iff]
    intro hp
    exact h (List.isPrefixOf_iff_prefix.1 hp).length_le
theorem strings_HasSuffix_eq (s t : Str) (hs : s.length ≤ 9223372036854775806) : strings_HasSuffix s t = some (t.isSuffixOf s) := by
  unfold strings_HasSuffix internal_stringslite_HasSuffix
  by_cases h : t.length ≤ s.length
  · have : decide ((t.length : Int) ≤ (s.length : Int)) = true := by simp; omega
    rw [this, w64_ns _ _ h (by omega), cut_nl (by omega)]
    simp only [cond_true, Option.bind_some, Option.some.injEq]
    rw [Bool.eq_iff_iff, beq_iff_eq, List.isSuffixOf_iff_suffix, List.suffix_iff_eq_drop]
    constructor <;> exact fun h => h.symm
  · have : decide ((t.length : Int) ≤ (s.length : Int)) = false := by simp; omega
    rw [this]
    simp only [cond_false, Option.bind_some, Option.some.injEq]
    symm
    rw [Bool.eq_false_iff]
    intro hp
    exact h (List.isSuffixOf_iff_suffix.1 hp).length_le
theorem dom_char (c : UInt8) : ((bif decide ((97 : UInt8) ≤ c) then (bif decide (c ≤ 122) then some true else (bif decide ((48 : UInt8) ≤ c) then (bif decide (c ≤ 57) then some true else (bif (c == 45) then some true else some (c == 46))) else (bif (c == 45) then some true else some (c == 46)))) else (bif decide ((48 : UInt8) ≤ c) then (bif decide (c ≤ 57) then some true else (bif (c == 45) then some true else some (c == 46))) else (bif (c == 45) then some true else some (c == 46)))) : Option Bool) = some (smallC c) := by
  unfold smallC
  cases decide ((97 : UInt8) ≤ c) <;> cases decide (c ≤ 122) <;> cases decide ((48 : UInt8) ≤ c) <;> cases decide (c ≤ 57) <;> cases (c == 45) <;> rfl
theorem envelope_Domain_eq (s : Str) (hs : s.length < 4294967281) : envelope_Domain s = some (domP s) := by
  have hloop : iter (envelope_Domain_l1 s) 0 = some ((firstI (fun _ c => if !smallC c then some () else none) 0 s).elim (.inl ()) .inr) := by
    refine iter_first s _ (Sum.inl ()) Sum.inr ?_ ?_
    · unfold envelope_Domain_l1; rw [dec_len]; rfl
    · intro i c hc
      have hi := lt_get hc
      unfold envelope_Domain_l1
      rw [dec_lt hc, idx_get hc]
      simp only [cond_true, Option.bind_some, u8_eq c 45 (by decide), u8_eq c 46 (by decide), u8_le1 97 c (by decide), u8_le2 122 c (by decide), u8_le1 48 c (by decide), u8_le2 57 c (by decide), dom_char]
      rw [show ((i : Int) + 1) = ((i + 1 : Nat) : Int) by omega, w64_n _ (by omega)]
      cases smallC c <;> rfl
  unfold envelope_Domain domP
  rw [hloop, firstI_any, dots_contains]
  by_cases hn : s = []
  · subst hn; simp
  · have h1 : (s != ([] : Str)) = true := by simpa using hn
    rw [h1]
    simp only [cond_true]
    by_cases hl : s.length ≤ 60
    · have h2 : decide ((s.length : Int) ≤ 60) = true := by simp; omega
      rw [h2]
      have hall : s.any (fun c => !smallC c) = !(s.all smallC) := by simp [List.not_all_eq_any_not]
      rw [hall]
      cases hg : s.all smallC with
      | false => simp [hl]
      | true =>
        simp only [Bool.not_true, Bool.false_eq_true, if_false, Option.elim, Option.bind_some, cond_true, strings_HasPrefix_eq, strings_HasSuffix_eq s [46] (by omega), strings_Contains, if_pos hs]
        have hp : ([46] : Str).isPrefixOf s = (s.head? == some 46) := by
          cases s with
          | nil => rfl
          | cons d r => simp only [List.isPrefixOf, List.head?_cons, Bool.and_true]; rw [Bool.eq_iff_iff]; simp; exact ⟨fun h => h.symm, fun h => h.symm⟩
        have hsf : ([46] : Str).isSuffixOf s = (s.getLast? == some 46) := by
          rw [Bool.eq_iff_iff, List.isSuffixOf_iff_suffix, beq_iff_eq]
          constructor
          · rintro ⟨t, rfl⟩; simp
          · intro h
            obtain ⟨ys, rfl⟩ := List.getLast?_eq_some_iff.1 h
            exact ⟨ys, rfl⟩
        have he : s.isEmpty = false := by simpa using hn
        rw [hp, hsf, he]
        cases s.head? == some 46 <;> cases s.getLast? == some 46 <;> cases Lib.contains s [46, 46] <;> simp [hl]
    · have h2 : decide ((s.length : Int) ≤ 60) = false := by simp; omega
      rw [h2]; simp [hl]
theorem indexByte_atP (s : Str) : Lib.index s [64] = if atP s < s.length then (atP s : Int) else -1 := by
  rw [Lib.index_one]
  unfold atP
  induction s with
  | nil => rfl
  | cons c r ih =>
    rw [Lib.indexByte, List.findIdx_cons]
    cases hc : (c == 64) with
    | true => simp
    | false =>
      simp only [Bool.false_eq_true, if_false, cond_false, List.length_cons]
      rw [ih]
      by_cases h : r.findIdx (· == 64) < r.length
      · simp only [if_pos h, if_pos (show r.findIdx (· == 64) + 1 < r.length + 1 by omega)]
        have : (((r.findIdx (· == 64) : Nat) : Int) == -1) = false := by rw [beq_eq_false_iff_ne]; omega
        rw [this]; simp
      · simp only [if_neg h, if_neg (show ¬ (r.findIdx (· == 64) + 1 < r.length + 1) by omega)]; simp
theorem cut_at (s : Str) : Lib.cut s [64] = if atP s < s.length then (s.take (atP s), s.drop (atP s + 1), true) else (s, [], false) := by
  unfold Lib.cut
  rw [indexByte_atP]
  by_cases h : atP s < s.length
  · rw [if_pos h, if_pos h, if_pos (by omega)]; simp
  · rw [if_neg h, if_neg h, if_neg (by omega)]
def splitP (s : Str) : Str × Str × Bool := if atP s < s.length then (s.take (atP s), s.drop (atP s + 1), addrP s) else (s, [], false)
theorem good_char (c : UInt8) : (lettC c || decide (0 ≤ Lib.indexByte [45, 95, 46, 43, 61] c)) = goodC c := by
  unfold goodC
  by_cases h1 : c = 45
  · subst h1; decide
  by_cases h2 : c = 95
  · subst h2; decide
  by_cases h3 : c = 46
  · subst h3; decide
  by_cases h4 : c = 43
  · subst h4; decide
  by_cases h5 : c = 61
  · subst h5; decide
  rw [beq_eq_false_iff_ne.2 h1, beq_eq_false_iff_ne.2 h2, beq_eq_false_iff_ne.2 h3, beq_eq_false_iff_ne.2 h4, beq_eq_false_iff_ne.2 h5]
  simp [Lib.indexByte, Ne.symm h1, Ne.symm h2, Ne.symm h3, Ne.symm h4, Ne.symm h5]
theorem envelope_Split_eq (s : Str) (hs : s.length < 4294967281) : envelope_Split s = some (splitP s) := by
  have hloop : ∀ v : Str × Str × Bool, v.1.length < 4294967281 → iter (envelope_Split_l1 v) 0 = some ((firstI (fun _ c => if !goodC c then some () else none) 0 v.1).elim (.inl ()) .inr) := by
    intro v hv
    refine iter_first v.1 _ (Sum.inl ()) Sum.inr ?_ ?_
    · unfold envelope_Split_l1; rw [dec_len]; rfl
    · intro i c hc
      have hi := lt_get hc
      unfold envelope_Split_l1
      rw [dec_lt hc, idx_get hc]
      simp only [cond_true, Option.bind_some, basic_Letter_eq, strings_IndexByte]
      rw [show ((i : Int) + 1) = ((i + 1 : Nat) : Int) by omega, w64_n _ (by omega)]
      have hg := good_char c
      cases hl : lettC c with
      | true => rw [hl] at hg; simp only [Bool.true_or] at hg; rw [← hg]; rfl
      | false => rw [hl] at hg; simp only [Bool.false_or] at hg; rw [← hg]; cases decide (0 ≤ Lib.indexByte [45, 95, 46, 43, 61] c) <;> rfl
  unfold envelope_Split strings_Cut
  rw [if_pos hs, cut_at]
  simp only [Option.bind_some]
  unfold splitP
  by_cases h : atP s < s.length
  · simp only [if_pos h, cond_true]
    rw [hloop _ (by simp; omega), firstI_any]
    have hall : (s.take (atP s)).any (fun c => !goodC c) = !((s.take (atP s)).all goodC) := by simp [List.not_all_eq_any_not]
    simp only [hall]
    have hlen : (s.take (atP s)).length = atP s := by simp; omega
    rw [hlen, envelope_Domain_eq _ (by simp; omega)]
    unfold addrP
    by_cases h0 : atP s = 0
    · simp [h0]
    · have hne : (s.take (atP s) != ([] : Str)) = true := by
        simp only [bne_iff_ne, ne_eq]
        intro hx
        have := congrArg List.length hx
        rw [hlen] at this; simp at this; omega
      rw [hne]
      by_cases h60 : atP s ≤ 60
      · have e : decide ((atP s : Int) ≤ 60) = true := by simp; omega
        rw [e]
        cases (s.take (atP s)).all goodC <;> simp [h, h60] <;> omega
      · have e : decide ((atP s : Int) ≤ 60) = false := by simp; omega
        rw [e]; simp [h60]
  · simp [if_neg h]
theorem addrP_split (s : Str) : (splitP s).2.2 = addrP s := by
  unfold splitP
  by_cases h : atP s < s.length
  · rw [if_pos h]
  · rw [if_neg h]; unfold addrP; simp [h]
theorem envelope_Address_eq (s : Str) (hs : s.length < 4294967281) : envelope_Address s = some (addrP s) := by
  unfold envelope_Address; rw [envelope_Split_eq s hs]; simp [addrP_split]

/-! ### small things -/
end Go.Proofs.YtpclhpncmlbccaaGreatDoor

/- Small laws on faults and first hits. -/
namespace Go.Proofs.YtpclhpncmlbccaaGreatDoor
open Go.RowKit
set_option linter.unusedVariables false
theorem elim_unit_bool (o : Option Unit) (a b : Bool) : Sum.elim (fun _ => some a) (fun _ => some b) (o.elim (Sum.inl ()) Sum.inr : Unit ⊕ Unit) = some (bif o.isSome then b else a) := by cases o <;> rfl
theorem firstI_isSome {α R : Type} (c : α → Bool) (r : R) (l : List α) (n : Nat) : (firstI (fun _ x => if c x then some r else none) n l).isSome = l.any c := by
  rw [firstI_any]; cases l.any c <;> rfl
theorem not_all {α : Type} (l : List α) (p : α → Bool) : l.any (fun x => !p x) = !l.all p := by simp [List.not_all_eq_any_not]
theorem basic_Fault_eq (a b : Int) : basic_Fault a b = some ⟨a, b⟩ := rfl
theorem basic_None_eq : basic_None = some ⟨0, 0⟩ := rfl
theorem basic_Failed_eq (f : TFault) : basic_Failed f = some (f.Code != 0) := rfl
theorem elim_fault (o : Option TFault) (f : TFault) : Sum.elim (fun _ => some f) (fun b => some b) (o.elim (Sum.inl ()) Sum.inr : Unit ⊕ TFault) = some (o.getD f) := by cases o <;> rfl
end Go.Proofs.YtpclhpncmlbccaaGreatDoor

/- Envelopes: the plain functions, and what the typed functions compute. -/
namespace Go.Proofs.YtpclhpncmlbccaaGreatDoor
open Go.RowKit
set_option linter.unusedVariables false
set_option maxHeartbeats 1000000

def nameC (c : UInt8) : Bool := lettC c || c == 45 || c == 95 || c == 46
def nameP (s : Str) : Bool := decide (1 ≤ s.length) && decide (s.length ≤ 60) && s.all nameC
theorem nameP_len {s : Str} (h : nameP s = true) : 1 ≤ s.length ∧ s.length ≤ 60 := by
  unfold nameP at h
  simp only [Bool.and_eq_true, decide_eq_true_eq] at h
  exact ⟨h.1.1, h.1.2⟩
theorem basic_Name_eq (s : Str) (hs : s.length ≤ 1048576) : basic_Name s = some (nameP s) := by
  have hloop : iter (basic_Name_l1 s) 0 = some ((firstI (fun _ c => if !nameC c then some () else none) 0 s).elim (.inl ()) .inr) := by
    refine iter_first s _ (Sum.inl ()) Sum.inr ?_ ?_
    · unfold basic_Name_l1; rw [dec_len]; rfl
    · intro i c hc
      have hi := lt_get hc
      unfold basic_Name_l1
      rw [dec_lt hc, idx_get hc]
      simp only [cond_true, Option.bind_some, basic_Letter_eq, u8_eq c 45 (by decide), u8_eq c 95 (by decide), u8_eq c 46 (by decide), sc i (by omega)]
      unfold nameC
      cases lettC c <;> cases (c == 45) <;> cases (c == 95) <;> cases (c == 46) <;> rfl
  unfold basic_Name nameP
  rw [hloop]
  simp only [Option.bind_some, elim_unit_bool, firstI_isSome, not_all]
  by_cases hn : s = []
  · subst hn; rfl
  · have h1 : (s != ([] : Str)) = true := by simpa using hn
    have h2 : decide (1 ≤ s.length) = true := by have := List.length_pos_iff.2 hn; simp; omega
    have e2 : decide ((s.length : Int) ≤ 60) = decide (s.length ≤ 60) := by rw [Bool.eq_iff_iff]; simp; omega
    rw [h1, h2, e2]
    cases decide (s.length ≤ 60) <;> cases s.all nameC <;> rfl

/-! ### recipients, envelopes -/
def noteP (n : Int) : Bool := decide (0 ≤ n) && decide (n ≤ 7)
def recQ (l : List TRecipient) (i : Nat) (r : TRecipient) : Option TFault :=
  if !addrP r.Address then some ⟨10, i⟩ else if !noteP r.Notify then some ⟨3, i⟩ else if (l.take i).any (fun x => x.Address == r.Address) then some ⟨7, i⟩ else none
def recF (l : List TRecipient) : TFault := (firstI (recQ l) 0 l).getD ⟨0, 0⟩
def fromB (s : Str) : Bool := s != ([] : Str) && !addrP s
def envF (e : TEnvelope) : TFault := if fromB e.From then ⟨10, -10⟩ else if decide (e.To.length < 1) || decide (60 < e.To.length) then ⟨2, -11⟩ else if e.Id != ([] : Str) && !nameP e.Id then ⟨10, -12⟩ else recF e.To
def smallR (l : List TRecipient) : Prop := l.length ≤ 1048576 ∧ ∀ a ∈ l, a.Address.length ≤ 1048576
def smallE (e : TEnvelope) : Prop := e.From.length ≤ 1048576 ∧ e.Id.length ≤ 1048576 ∧ smallR e.To
theorem envelope_Notify_eq (n : Int) : envelope_Notify n = some (noteP n) := by unfold envelope_Notify noteP; cases decide (0 ≤ n) <;> rfl
theorem any_take (l : List TRecipient) (i : Nat) (s : Str) (hl : l.length ≤ 1048576) : decide ((0 : Int) ≤ (firstI (fun i x => if x.Address == s then some ((i : Nat) : Int) else none) 0 (l.take i)).getD (-1)) = (l.take i).any (fun x => x.Address == s) := first_idx (fun x => x.Address == s) (l.take i) 0
theorem envelope_Recipients_eq (l : List TRecipient) (h : smallR l) : envelope_Recipients l = some (recF l) := by
  obtain ⟨h3, h4⟩ := h
  unfold envelope_Recipients recF
  rw [iter_first l (recQ l) (.inl ()) .inr]
  · simp only [Option.bind_some, basic_None_eq, elim_fault]
  · unfold envelope_Recipients_l1; rw [dec_len]; rfl
  · intro i r hr
    have hi := lt_get hr
    have ha := h4 r (List.mem_of_getElem? hr)
    have hl2 : iter (envelope_Recipients_l2 r (l.take i)) 0 = some ((firstI (fun i x => if x.Address == r.Address then some ((i : Nat) : Int) else none) 0 (l.take i)).elim (.inl ()) .inr) := by
      refine iter_first (l.take i) _ (Sum.inl ()) Sum.inr ?_ ?_
      · unfold envelope_Recipients_l2; rw [dec_len]; rfl
      · intro k x hx
        have hk := lt_get hx
        simp at hk
        unfold envelope_Recipients_l2
        rw [dec_lt hx, idx_get hx]
        simp only [cond_true, Option.bind_some, sc k (by omega)]
        cases x.Address == r.Address <;> rfl
    unfold envelope_Recipients_l1 recQ
    rw [dec_lt hr, idx_get hr]
    simp only [cond_true, Option.bind_some, envelope_Address_eq _ (show r.Address.length < 4294967281 by omega), basic_Fault_eq, envelope_Notify_eq, cut_0n (Nat.le_of_lt hi), hl2, elim_idx, any_take _ _ _ h3, sc i (by omega)]
    cases addrP r.Address <;> cases noteP r.Notify <;> cases (l.take i).any (fun x => x.Address == r.Address) <;> rfl
theorem envelope_Validate_eq (e : TEnvelope) (h : smallE e) : envelope_Validate e = some (envF e) := by
  obtain ⟨h1, h2, h3⟩ := h
  unfold envelope_Validate envF
  rw [envelope_Address_eq _ (by omega), basic_Name_eq _ h2, envelope_Recipients_eq _ h3]
  have e1 : decide ((e.To.length : Int) < 1) = decide (e.To.length < 1) := by generalize e.To.length = n; rw [Bool.eq_iff_iff]; simp; omega
  have e2 : decide ((60 : Int) < (e.To.length : Int)) = decide (60 < e.To.length) := by rw [Bool.eq_iff_iff]; simp; omega
  simp only [Option.bind_some, basic_Fault_eq, e1, e2]
  unfold fromB
  cases e.From != ([] : Str) <;> cases addrP e.From <;> cases decide (e.To.length < 1) <;> cases decide (60 < e.To.length) <;> cases e.Id != ([] : Str) <;> cases nameP e.Id <;> rfl
theorem smallE_of {e : TEnvelope} (h : TEnvelope.bk e ≤ 1048576) : smallE e := by
  unfold TEnvelope.bk at h
  dsimp only at h
  refine ⟨by omega, by omega, ?_, fun a ha => ?_⟩
  · have := bkL_len (bk := TRecipient.bk) (fun x => by unfold TRecipient.bk; omega) e.To; omega
  · have h5 := bkL_mem (bk := TRecipient.bk) ha; have h6 : TRecipient.bk a = a.Address.length + 1 + 1 + 1 := rfl; omega
end Go.Proofs.YtpclhpncmlbccaaGreatDoor

/- Days and years: dates.Civil and dates.Print, the reference's When: both give the same text. -/
namespace Go.Proofs.YtpclhpncmlbccaaGreatDoor
open Go.RowKit
set_option linter.unusedVariables false
set_option maxHeartbeats 1000000
theorem befI_one : befI 1 = 0 := by decide
theorem befI_4001 : befI 4001 = 1460970 := by decide
theorem befI_4000 : befI 4000 = 1460604 := by decide
theorem month_exists (y n : Int) (h0 : 0 ≤ n) : ∀ k : Nat, n < domI y k → ∃ M : Nat, M < k ∧ domI y M ≤ n ∧ n < domI y (M + 1)
  | 0, h => by simp only [domI] at h; omega
  | k + 1, h => by
    by_cases h2 : n < domI y k
    · obtain ⟨M, h3, h4⟩ := month_exists y n h0 k h2
      exact ⟨M, by omega, h4⟩
    · exact ⟨k, by omega, by omega, h⟩
theorem iRem_nn {a b : Int} (h : 0 ≤ a) : iRem a b = a % b := Int.tmod_eq_emod_of_nonneg h
/-- the loops of When -/
theorem when_l1 (t : Int) (h1 : -68719476736 ≤ t) (h2 : t ≤ 68719476736) : ∃ r : Int × Int, iter R_When_l1 (t, 0) = some r ∧ 0 ≤ r.1 ∧ r.1 + 86400 * r.2 = t ∧ r.1 ≤ 68719476736 := by
  have key := iter_rec (body := R_When_l1) (fun s => s.1 + 86400 * s.2 = t ∧ -68719476736 ≤ s.1 ∧ s.1 ≤ 68719476736 ∧ s.2 ≤ 0 ∧ -1000000 ≤ s.2 ∧ t ≤ s.1) (fun s => (-s.1).toNat) (fun s r => 0 ≤ r.1 ∧ r.1 + 86400 * r.2 = t ∧ r.1 ≤ 68719476736) (fun s hs => by
    obtain ⟨i1, i2, i3, i4, i5, i6⟩ := hs
    by_cases hc : s.1 < 0
    · right
      refine ⟨(s.1 + 34560000, s.2 - 400), ?_, ⟨?_, ?_, ?_, ?_, ?_, ?_⟩, ?_, fun r h => h⟩
      · unfold R_When_l1
        rw [decide_eq_true hc, w64_id (by omega) (by omega), w64_id (by omega) (by omega)]; rfl
      all_goals (dsimp only; omega)
    · left
      refine ⟨s, ?_, ⟨by omega, i1, i3⟩⟩
      unfold R_When_l1
      rw [decide_eq_false hc]; rfl)
  exact key (t, 0) ⟨by simp, h1, h2, by simp, by simp, by simp⟩
theorem when_l2 (D : Int) (h1 : -800000 ≤ D) (h2 : D ≤ 800000) : ∃ r : Int × Int, iter R_When_l2 (D, 1970) = some r ∧ 0 ≤ r.1 ∧ befI r.2 + r.1 = 719162 + D ∧ r.1 ≤ 800000 ∧ -10000 ≤ r.2 ∧ r.2 ≤ 1970 := by
  have key := iter_rec (body := R_When_l2) (fun s => befI s.2 + s.1 = 719162 + D ∧ s.1 ≤ 800000 ∧ -800000 ≤ s.1 ∧ s.2 ≤ 1970 ∧ -800000 + 365 * (1970 - s.2) ≤ s.1) (fun s => (-s.1).toNat) (fun s r => 0 ≤ r.1 ∧ befI r.2 + r.1 = 719162 + D ∧ r.1 ≤ 800000 ∧ -10000 ≤ r.2 ∧ r.2 ≤ 1970) (fun s hs => by
    obtain ⟨i1, i2, i3, i4, i5⟩ := hs
    by_cases hc : s.1 < 0
    · right
      have hy := befI_succ (s.2 - 1)
      rw [show s.2 - 1 + 1 = s.2 by omega] at hy
      have hb := ylen_pos (s.2 - 1)
      have hb2 : ylen (s.2 - 1) = if leapI (s.2 - 1) then 366 else 365 := rfl
      have e1 : w64 (s.2 - 1) = s.2 - 1 := w64_id (by omega) (by omega)
      refine ⟨(s.1 + ylen (s.2 - 1), s.2 - 1), ?_, ⟨?_, ?_, ?_, ?_, ?_⟩, ?_, fun r h => h⟩
      · unfold R_When_l2
        rw [decide_eq_true hc, e1, R_leap_eq]
        simp only [cond_true, Option.bind_some]
        have e2 : w64 (s.1 + 365) = s.1 + 365 := w64_id (by omega) (by omega)
        have e3 : w64 (s.1 + 365 + 1) = s.1 + 365 + 1 := w64_id (by omega) (by omega)
        rw [e2, e3, hb2]
        cases leapI (s.2 - 1)
        · rfl
        · simp only [cond_true, if_true]
          rw [show s.1 + 365 + 1 = s.1 + 366 by omega]
      all_goals (dsimp only; omega)
    · left
      refine ⟨s, ?_, ⟨by omega, i1, i2, by omega, i4⟩⟩
      unfold R_When_l2
      rw [decide_eq_false hc]; rfl)
  exact key (D, 1970) ⟨by rw [befI_1970], by omega, by omega, by simp, by simp; omega⟩
theorem when_l3 (N : Int) (s0 : Int × Int) (h0 : 0 ≤ s0.1) (h1 : s0.1 ≤ 800000) (h2 : -10000 ≤ s0.2) (h3 : s0.2 ≤ 1970) (hN : befI s0.2 + s0.1 = N) : ∃ r : Int × Int, iter R_When_l3 s0 = some r ∧ 0 ≤ r.1 ∧ r.1 < ylen r.2 ∧ befI r.2 + r.1 = N ∧ -10000 ≤ r.2 ∧ r.2 ≤ 10000 := by
  have key := iter_rec (body := R_When_l3) (fun s => befI s.2 + s.1 = N ∧ 0 ≤ s.1 ∧ s.1 ≤ 800000 ∧ -10000 ≤ s.2 ∧ s.1 + 365 * (s.2 - s0.2) ≤ 800000) (fun s => s.1.toNat) (fun s r => 0 ≤ r.1 ∧ r.1 < ylen r.2 ∧ befI r.2 + r.1 = N ∧ -10000 ≤ r.2 ∧ r.2 ≤ 10000) (fun s hs => by
    obtain ⟨i1, i2, i3, i4, i5⟩ := hs
    have hy := befI_succ s.2
    have hb := ylen_pos s.2
    have hb2 : ylen s.2 = if leapI s.2 then 366 else 365 := rfl
    have hj : ((R_leap s.2).bind fun v19 => (bif v19 then some 366 else some 365) : Option Int) = some (ylen s.2) := by
      rw [R_leap_eq, hb2]; cases leapI s.2 <;> rfl
    by_cases hc : s.1 < ylen s.2
    · left
      refine ⟨s, ?_, ⟨i2, hc, i1, i4, by omega⟩⟩
      unfold R_When_l3
      rw [hj]
      simp only [Option.bind_some]
      rw [decide_eq_true hc]; rfl
    · right
      refine ⟨(s.1 - ylen s.2, s.2 + 1), ?_, ⟨?_, ?_, ?_, ?_, ?_⟩, ?_, fun r h => h⟩
      · unfold R_When_l3
        rw [hj]
        simp only [Option.bind_some]
        rw [decide_eq_false hc, w64_id (by omega) (by omega), w64_id (by omega) (by omega)]; rfl
      all_goals (dsimp only; omega))
  exact key s0 ⟨hN, h0, h1, h2, by omega⟩
theorem R_days_eq {y m : Int} (h1 : 1 ≤ m) (h2 : m ≤ 12) : R_days y m = some (dimI y m) := by
  unfold R_days
  have e0 : w64 (m - 1) = m - 1 := w64_id (by omega) (by omega)
  rw [e0, R_leap_eq]
  obtain rfl | rfl | rfl | rfl | rfl | rfl | rfl | rfl | rfl | rfl | rfl | rfl : m = 1 ∨ m = 2 ∨ m = 3 ∨ m = 4 ∨ m = 5 ∨ m = 6 ∨ m = 7 ∨ m = 8 ∨ m = 9 ∨ m = 10 ∨ m = 11 ∨ m = 12 := by omega
  all_goals (cases h : leapI y <;> simp [dimI, h, idx])
theorem when_l4 (b : Int × Int) (M : Nat) (hM : M ≤ 11) (hd : domI b.2 M ≤ b.1 ∧ b.1 < domI b.2 (M + 1)) (hb : b.1 ≤ 400) : ∀ (n k : Nat), k + n = M → iter (R_When_l4 b) (((k + 1 : Nat) : Int), b.1 - domI b.2 k) = some (((M + 1 : Nat) : Int), b.1 - domI b.2 M)
  | 0, k, h => by
    obtain rfl : k = M := by omega
    refine iter_out ?_
    unfold R_When_l4
    dsimp only
    rw [R_days_eq (by omega) (by omega)]
    simp only [Option.bind_some]
    have := domI_nn b.2 k
    rw [decide_eq_false (by simp only [domI] at hd; omega)]; rfl
  | n + 1, k, h => by
    have hk := domI_mono b.2 (show k + 1 ≤ M by omega)
    have hn := domI_nn b.2 k
    have hp := dimI_pos b.2 ((k + 1 : Nat) : Int)
    have e : domI b.2 (k + 1) = domI b.2 k + dimI b.2 ((k + 1 : Nat) : Int) := rfl
    have hc : R_When_l4 b (((k + 1 : Nat) : Int), b.1 - domI b.2 k) = some (.cont (((k + 1 + 1 : Nat) : Int), b.1 - domI b.2 (k + 1))) := by
      unfold R_When_l4
      dsimp only
      rw [R_days_eq (by omega) (by omega)]
      simp only [Option.bind_some]
      rw [decide_eq_true (by omega), w64_id (by omega) (by omega), w64_id (by omega) (by omega)]
      simp only [cond_true]
      congr 3
      omega
    rw [iter_cont hc]
    exact when_l4 b M hM hd hb n (k + 1) (by omega)
theorem when_l5 (b : Int × Int) (hy : 1 ≤ b.2) (hy2 : b.2 ≤ 4000) : ∀ (n : Nat) (k : Int), 1 ≤ k → k + n = b.2 → iter (R_When_l5 b) (befI k - 364 * (k - 1) + 1, k) = some (befI b.2 - 364 * (b.2 - 1) + 1)
  | 0, k, h1, h => by
    obtain rfl : b.2 = k := by omega
    refine iter_out ?_
    unfold R_When_l5
    dsimp only
    rw [decide_eq_false (by omega)]; rfl
  | n + 1, k, h1, h => by
    have hs := befI_succ k
    have hb2 : ylen k = if leapI k then 366 else 365 := rfl
    have hb0 := befI_bound h1 (by omega)
    have hc : R_When_l5 b (befI k - 364 * (k - 1) + 1, k) = some (.cont (befI (k + 1) - 364 * (k + 1 - 1) + 1, k + 1)) := by
      unfold R_When_l5
      dsimp only
      rw [decide_eq_true (by omega), R_leap_eq]
      have e1 : w64 (befI k - 364 * (k - 1) + 1 + 1) = befI k - 364 * (k - 1) + 1 + 1 := w64_id (by omega) (by omega)
      have e2 : w64 (befI k - 364 * (k - 1) + 1 + 1 + 1) = befI k - 364 * (k - 1) + 1 + 1 + 1 := w64_id (by omega) (by omega)
      have e3 : w64 (k + 1) = k + 1 := w64_id (by omega) (by omega)
      simp only [cond_true, Option.bind_some]
      rw [e1, e2, e3]
      cases hl : leapI k
      · rw [hl] at hb2
        simp only [cond_false, Option.bind_some]
        congr 3
        simp at hb2; omega
      · rw [hl] at hb2
        simp only [cond_true, Option.bind_some]
        congr 3
        simp at hb2; omega
    rw [iter_cont hc]
    exact when_l5 b hy hy2 n (k + 1) (by omega) (by omega)

def wdT (w : Nat) : Str := (([83, 117, 110, 77, 111, 110, 84, 117, 101, 87, 101, 100, 84, 104, 117, 70, 114, 105, 83, 97, 116] : Str).drop (3 * w)).take 3
def moT (m : Nat) : Str := (([74, 97, 110, 70, 101, 98, 77, 97, 114, 65, 112, 114, 77, 97, 121, 74, 117, 110, 74, 117, 108, 65, 117, 103, 83, 101, 112, 79, 99, 116, 78, 111, 118, 68, 101, 99] : Str).drop (3 * m)).take 3
theorem wd_cut : ∀ w : Fin 7, cut (([83, 117, 110, 77, 111, 110, 84, 117, 101, 87, 101, 100, 84, 104, 117, 70, 114, 105, 83, 97, 116] : Str)) ((w64 (3 * (w.val : Int)))) ((w64 ((w64 (3 * (w.val : Int))) + 3))) = some (wdT w.val) := by decide
theorem mo_cut : ∀ m : Fin 12, cut (([74, 97, 110, 70, 101, 98, 77, 97, 114, 65, 112, 114, 77, 97, 121, 74, 117, 110, 74, 117, 108, 65, 117, 103, 83, 101, 112, 79, 99, 116, 78, 111, 118, 68, 101, 99] : Str)) ((w64 ((w64 (3 * ((m.val + 1 : Nat) : Int))) - 3))) ((w64 (3 * ((m.val + 1 : Nat) : Int)))) = some (moT m.val) := by decide
theorem wd_idx : ∀ w : Fin 7, dates_weekdays.bind (fun v30 => (idx ([v30.1, v30.2.1, v30.2.2.1, v30.2.2.2.1, v30.2.2.2.2.1, v30.2.2.2.2.2.1, v30.2.2.2.2.2.2] : List Str) (w.val : Int))) = some (wdT w.val) := by decide
theorem mo_idx : ∀ m : Fin 12, dates_months.bind (fun v38 => (idx ([v38.1, v38.2.1, v38.2.2.1, v38.2.2.2.1, v38.2.2.2.2.1, v38.2.2.2.2.2.1, v38.2.2.2.2.2.2.1, v38.2.2.2.2.2.2.2.1, v38.2.2.2.2.2.2.2.2.1, v38.2.2.2.2.2.2.2.2.2.1, v38.2.2.2.2.2.2.2.2.2.2.1, v38.2.2.2.2.2.2.2.2.2.2.2] : List Str) (m.val : Int))) = some (moT m.val) := by decide
theorem wdT_len : ∀ w : Fin 7, (wdT w.val).length = 3 := by decide
theorem moT_len : ∀ m : Fin 12, (moT m.val).length = 3 := by decide
/-- the text of a date -/
def dateT (w D m y h mi s : Nat) : Str := wdT w ++ [44, 32] ++ padD D 2 ++ [32] ++ moT m ++ [32] ++ padD y 4 ++ [32] ++ padD h 2 ++ [58] ++ padD mi 2 ++ [58] ++ padD s 2 ++ [32, 43, 48, 48, 48, 48]
end Go.Proofs.YtpclhpncmlbccaaGreatDoor

/- dates.Civil and dates.Print and the reference's When give the same text. -/
namespace Go.Proofs.YtpclhpncmlbccaaGreatDoor
open Go.RowKit
set_option linter.unusedVariables false
set_option maxHeartbeats 1000000
theorem dates_within_eq (a b c : Int) : dates_within a b c = some (decide (b ≤ a) && decide (a ≤ c)) := by
  unfold dates_within
  by_cases h : b ≤ a <;> simp [h]
theorem basic_Time_eq (t : Int) : basic_Time t = some (decide (-68719476736 ≤ t) && decide (t ≤ 68719476736)) := by
  unfold basic_Time
  by_cases h : (-68719476736 : Int) ≤ t <;> simp [h]
theorem pad2 {u : Nat} (h : u < 1000000) : dates_pad (u : Int) 2 = some (padD u 2) := dates_pad_eq u 2 (by omega) (by omega)
theorem pad4 {u : Nat} (h : u < 1000000) : dates_pad (u : Int) 4 = some (padD u 4) := dates_pad_eq u 4 (by omega) (by omega)
theorem fill2 {u : Nat} (h : u < 1000000) : R_Fill (u : Int) 2 = some (padD u 2) := R_Fill_eq u 2 (by omega) (by omega)
theorem fill4 {u : Nat} (h : u < 1000000) : R_Fill (u : Int) 4 = some (padD u 4) := R_Fill_eq u 4 (by omega) (by omega)
theorem domI_11_4000 : domI 4000 11 = 335 := by decide
theorem civil_out (t : Int) (h1 : -68719476736 ≤ t) (h2 : t ≤ 68719476736) (hN : t / 86400 + 719162 < 0 ∨ 1460970 ≤ t / 86400 + 719162) : ∃ d, dates_Civil t 0 = some (d, ⟨3, -3⟩) := by
  unfold dates_Civil
  rw [basic_Time_eq, decide_eq_true h1, decide_eq_true h2]
  simp only [Option.bind_some, Bool.and_true, Bool.not_true, cond_false, dates_within_eq]
  have e1 : w64 (60 * (0 : Int)) = 0 := by decide
  have e2 : w64 (t + 0) = t := by rw [Int.add_zero]; exact w64_id (by omega) (by omega)
  have d1 := dates_day_eq (y := 1) (m := 1) (d := 1) (by omega) (by omega) (by omega) (by omega) (by omega) (by omega)
  have d2 := dates_day_eq (y := 4000) (m := 12) (d := 31) (by omega) (by omega) (by omega) (by omega) (by omega) (by omega)
  rw [show ((1 : Nat) : Int) = 1 from rfl, dayN_11, befI_one] at d1
  have e3 : dayN 4000 12 31 = 741807 := by unfold dayN; rw [befI_1970, befI_4000]; show (1460604 : Int) - 719162 + 31 - 1 + domI 4000 11 = _; rw [domI_11_4000]; rfl
  rw [show ((12 : Nat) : Int) = 12 from rfl, e3] at d2
  rw [e1, e2, dates_split_eq (by omega) (by omega) (by omega) (by omega), d1]
  rw [show (decide ((-900 : Int) ≤ 0) && decide ((0 : Int) ≤ 900)) = true by decide]
  simp only [Option.bind_some, Bool.not_true, cond_false]
  rcases hN with hN | hN
  · rw [decide_eq_true (by omega : t / 86400 < 0 - 719162)]
    exact ⟨_, rfl⟩
  · rw [decide_eq_false (by omega : ¬ t / 86400 < 0 - 719162), d2]
    simp only [Option.bind_some, cond_false]
    rw [decide_eq_true (by omega : 741807 < t / 86400)]
    exact ⟨_, rfl⟩
theorem civil_in (t : Int) (h1 : -68719476736 ≤ t) (h2 : t ≤ 68719476736) (Y : Int) (M : Nat) (g : Int) (hY1 : 1 ≤ Y) (hY2 : Y ≤ 4000) (hM : M ≤ 11) (hN : befI Y + g = t / 86400 + 719162) (hd : domI Y M ≤ g ∧ g < domI Y (M + 1)) :
    dates_Civil t 0 = some (⟨Y, ((M + 1 : Nat) : Int), g - domI Y M + 1, t % 86400 / 3600, t % 86400 / 60 % 60, t % 86400 % 60, 0⟩, ⟨0, 0⟩) := by
  have hb0 := befI_bound hY1 (by omega)
  have hn := domI_nn Y M
  have hm12 := domI_mono Y (show M + 1 ≤ 12 by omega)
  have hyl := ylen_pos Y
  have hys := befI_succ Y
  have h40 := befI_mono (show Y + 1 ≤ 4001 by omega)
  rw [domI_12] at hm12
  rw [befI_4001] at h40
  have hr1 := Int.emod_nonneg t (show (86400 : Int) ≠ 0 by omega)
  have hr2 := Int.emod_lt_of_pos t (show (0 : Int) < 86400 by omega)
  unfold dates_Civil
  rw [basic_Time_eq, decide_eq_true h1, decide_eq_true h2]
  simp only [Option.bind_some, Bool.and_true, Bool.not_true, cond_false, dates_within_eq]
  have e1 : w64 (60 * (0 : Int)) = 0 := by decide
  have e2 : w64 (t + 0) = t := by rw [Int.add_zero]; exact w64_id (by omega) (by omega)
  have d1 := dates_day_eq (y := 1) (m := 1) (d := 1) (by omega) (by omega) (by omega) (by omega) (by omega) (by omega)
  have d2 := dates_day_eq (y := 4000) (m := 12) (d := 31) (by omega) (by omega) (by omega) (by omega) (by omega) (by omega)
  rw [show ((1 : Nat) : Int) = 1 from rfl, dayN_11, befI_one] at d1
  have e3 : dayN 4000 12 31 = 741807 := by unfold dayN; rw [befI_1970, befI_4000]; show (1460604 : Int) - 719162 + 31 - 1 + domI 4000 11 = _; rw [domI_11_4000]; rfl
  rw [show ((12 : Nat) : Int) = 12 from rfl, e3] at d2
  rw [e1, e2, dates_split_eq (by omega) (by omega) (by omega) (by omega), d1]
  rw [show (decide ((-900 : Int) ≤ 0) && decide ((0 : Int) ≤ 900)) = true by decide]
  simp only [Option.bind_some, Bool.not_true, cond_false]
  rw [decide_eq_false (by omega : ¬ t / 86400 < 0 - 719162), d2]
  simp only [Option.bind_some, cond_false]
  rw [decide_eq_false (by omega : ¬ 741807 < t / 86400)]
  simp only [cond_false]
  have hy := civil_year (v := (t / 86400, t % 86400)) hY1 hY2 (by dsimp only; omega) 11 1 (by omega) (by omega) (by omega) (by rw [show ((2 ^ 11 : Nat) : Int) = 2048 from rfl]; omega)
  rw [show ((2 ^ 11 : Nat) : Int) = 2048 from rfl] at hy
  rw [hy]
  simp only [Option.bind_some]
  have hm := civil_month (v := (t / 86400, t % 86400)) hY1 hY2 hM (by dsimp only; omega) (11 - M) (by omega)
  rw [show M + (11 - M) + 1 = 12 by omega, show ((12 : Nat) : Int) = 12 from rfl] at hm
  rw [hm]
  simp only [Option.bind_some]
  rw [dates_day_eq hY1 (by omega) (by omega) (by omega) (by omega) (by omega)]
  simp only [Option.bind_some, basic_None_eq]
  have e4 : dayN Y (M + 1) 1 = befI Y - 719162 + domI Y M := by unfold dayN; rw [befI_1970, Nat.add_sub_cancel]; omega
  have e5 : w64 (t / 86400 - dayN Y (M + 1) 1) = g - domI Y M := by rw [e4, w64_id (by omega) (by omega)]; omega
  have e6 : w64 (g - domI Y M + 1) = g - domI Y M + 1 := w64_id (by omega) (by omega)
  rw [e5, e6, iQuo_nn hr1 (by omega) (by omega), iQuo_nn hr1 (by omega) (by omega), iRem_nn (by omega), iRem_nn (by omega)]
theorem print_in (t : Int) (Y : Int) (M : Nat) (g : Int) (hY1 : 1 ≤ Y) (hY2 : Y ≤ 4000) (hM : M ≤ 11) (hN : befI Y + g = t / 86400 + 719162) (hd : domI Y M ≤ g ∧ g < domI Y (M + 1)) :
    dates_Print ⟨Y, ((M + 1 : Nat) : Int), g - domI Y M + 1, t % 86400 / 3600, t % 86400 / 60 % 60, t % 86400 % 60, 0⟩ = some (dateT ((t / 86400 + 4) % 7).toNat (g - domI Y M + 1).toNat M Y.toNat (t % 86400 / 3600).toNat (t % 86400 / 60 % 60).toNat (t % 86400 % 60).toNat, ⟨0, 0⟩) := by
  have hb0 := befI_bound hY1 (by omega)
  have hn := domI_nn Y M
  have hm12 := domI_mono Y (show M + 1 ≤ 12 by omega)
  have hyl := ylen_pos Y
  rw [domI_12] at hm12
  have hr1 := Int.emod_nonneg t (show (86400 : Int) ≠ 0 by omega)
  have hr2 := Int.emod_lt_of_pos t (show (0 : Int) < 86400 by omega)
  have hds : domI Y (M + 1) = domI Y M + dimI Y ((M + 1 : Nat) : Int) := rfl
  have hdp := dimI_pos Y ((M + 1 : Nat) : Int)
  have hmm : min (max ((M + 1 : Nat) : Int) 1) 12 = ((M + 1 : Nat) : Int) := by omega
  have hval : dates_Validate ⟨Y, ((M + 1 : Nat) : Int), g - domI Y M + 1, t % 86400 / 3600, t % 86400 / 60 % 60, t % 86400 % 60, 0⟩ = some ⟨0, 0⟩ := by
    unfold dates_Validate
    simp only [dates_within_eq, hmm, Option.bind_some]
    rw [dates_length_eq (by omega) (by omega)]
    rw [decide_eq_true hY1, decide_eq_true hY2, decide_eq_true (by omega : (1 : Int) ≤ ((M + 1 : Nat) : Int)), decide_eq_true (by omega : ((M + 1 : Nat) : Int) ≤ 12)]
    simp only [Option.bind_some, Bool.and_true, cond_true]
    rw [decide_eq_true (by omega : (1 : Int) ≤ g - domI Y M + 1), decide_eq_true (by omega : g - domI Y M + 1 ≤ dimI Y ((M + 1 : Nat) : Int)),
      decide_eq_true (by omega : (0 : Int) ≤ t % 86400 / 3600), decide_eq_true (by omega : t % 86400 / 3600 ≤ 23),
      decide_eq_true (by omega : (0 : Int) ≤ t % 86400 / 60 % 60), decide_eq_true (by omega : t % 86400 / 60 % 60 ≤ 59),
      decide_eq_true (by omega : (0 : Int) ≤ t % 86400 % 60), decide_eq_true (by omega : t % 86400 % 60 ≤ 59)]
    rfl
  have hwk : dates_Weekday ⟨Y, ((M + 1 : Nat) : Int), g - domI Y M + 1, t % 86400 / 3600, t % 86400 / 60 % 60, t % 86400 % 60, 0⟩ = some ((t / 86400 + 4) % 7, ⟨0, 0⟩) := by
    unfold dates_Weekday
    rw [hval]
    simp only [Option.bind_some, basic_Failed_eq, basic_None_eq]
    rw [dates_day_eq hY1 (by omega) (by omega) (by omega) (by omega) (by omega)]
    have e4 : dayN Y (M + 1) (g - domI Y M + 1) = t / 86400 := by unfold dayN; rw [befI_1970, Nat.add_sub_cancel]; omega
    simp only [Option.bind_some, e4]
    rw [w64_id (by omega) (by omega), dates_split_eq (by omega) (by omega) (by omega) (by omega)]
    rfl
  unfold dates_Print
  rw [hwk]
  simp only [Option.bind_some, basic_Failed_eq, basic_None_eq]
  have hw7 := Int.emod_nonneg (t / 86400 + 4) (show (7 : Int) ≠ 0 by omega)
  have hw8 := Int.emod_lt_of_pos (t / 86400 + 4) (show (0 : Int) < 7 by omega)
  have hwi := wd_idx ⟨((t / 86400 + 4) % 7).toNat, by omega⟩
  have hmi := mo_idx ⟨M, by omega⟩
  dsimp only at hwi hmi
  rw [show ((((t / 86400 + 4) % 7).toNat : Nat) : Int) = (t / 86400 + 4) % 7 by omega] at hwi
  have ew : w64 (((M + 1 : Nat) : Int) - 1) = (M : Int) := by rw [w64_id (by omega) (by omega)]; omega
  have p0 : dates_pad (iQuo 0 60) 2 = some (padD 0 2) := pad2 (u := 0) (by omega)
  have p0' : dates_pad (iRem 0 60) 2 = some (padD 0 2) := pad2 (u := 0) (by omega)
  have p1 := pad2 (u := (t % 86400 / 3600).toNat) (by omega)
  have p2 := pad2 (u := (t % 86400 / 60 % 60).toNat) (by omega)
  have p3 := pad2 (u := (t % 86400 % 60).toNat) (by omega)
  have p4 := pad2 (u := (g - domI Y M + 1).toNat) (by omega)
  have p5 := pad4 (u := Y.toNat) (by omega)
  have l1 := padD_len (u := (t % 86400 / 3600).toNat) (k := 2) (by omega) (by omega)
  have l2 := padD_len (u := (t % 86400 / 60 % 60).toNat) (k := 2) (by omega) (by omega)
  have l3 := padD_len (u := (t % 86400 % 60).toNat) (k := 2) (by omega) (by omega)
  have l4 := padD_len (u := (g - domI Y M + 1).toNat) (k := 2) (by omega) (by omega)
  have l5 := padD_len (u := Y.toNat) (k := 4) (by omega) (by omega)
  have lw := wdT_len ⟨((t / 86400 + 4) % 7).toNat, by omega⟩
  have lm := moT_len ⟨M, by omega⟩
  dsimp only at lw lm
  rw [show (((t % 86400 / 3600).toNat : Nat) : Int) = t % 86400 / 3600 by omega] at p1
  rw [show (((t % 86400 / 60 % 60).toNat : Nat) : Int) = t % 86400 / 60 % 60 by omega] at p2
  rw [show (((t % 86400 % 60).toNat : Nat) : Int) = t % 86400 % 60 by omega] at p3
  rw [show (((g - domI Y M + 1).toNat : Nat) : Int) = g - domI Y M + 1 by omega] at p4
  rw [show ((Y.toNat : Nat) : Int) = Y by omega] at p5
  have pz : padD 0 2 = [48, 48] := by unfold padD; rw [decD_small (by omega)]; rfl
  generalize hPw : wdT ((t / 86400 + 4) % 7).toNat = Pw at *
  generalize hPm : moT M = Pm at *
  generalize hP1 : padD (t % 86400 / 3600).toNat 2 = P1 at *
  generalize hP2 : padD (t % 86400 / 60 % 60).toNat 2 = P2 at *
  generalize hP3 : padD (t % 86400 % 60).toNat 2 = P3 at *
  generalize hP4 : padD (g - domI Y M + 1).toNat 2 = P4 at *
  generalize hP5 : padD Y.toNat 4 = P5 at *
  rw [show (decide ((0 : Int) < 0)) = false by decide]
  simp only [cond_false, Option.bind_some, bne_self_eq_false, p0, p0', p1, p2, p3, pz]
  rw [cat_ok (by simp)]
  simp only [Option.bind_some]
  rw [cat_ok (by simp)]
  simp only [Option.bind_some]
  rw [cat_ok (by simp; omega)]
  simp only [Option.bind_some]
  rw [cat_ok (by simp; omega)]
  simp only [Option.bind_some]
  rw [cat_ok (by simp; omega)]
  simp only [Option.bind_some]
  rw [cat_ok (by simp; omega)]
  simp only [Option.bind_some]
  unfold dates_weekdays dates_months at *
  simp only [Option.bind_some] at hwi hmi ⊢
  rw [hwi]
  simp only [Option.bind_some]
  rw [cat_ok (by simp; omega), p4, ew, hmi, p5]
  simp only [Option.bind_some]
  unfold strings_Join dateT
  have ej : Lib.join [Pw ++ [44], P4, Pm, P5, P1 ++ [58] ++ P2 ++ [58] ++ P3, [43] ++ ([48, 48] ++ [48, 48])] [32] = Pw ++ [44, 32] ++ P4 ++ [32] ++ Pm ++ [32] ++ P5 ++ [32] ++ P1 ++ [58] ++ P2 ++ [58] ++ P3 ++ [32, 43, 48, 48, 48, 48] := by
    rw [Lib.join_cons]
    simp [Lib.joinTail]
  rw [ej, if_pos ⟨by simp, by simp; omega⟩, hPw, hPm, hP1, hP2, hP3, hP4, hP5]
  rfl
end Go.Proofs.YtpclhpncmlbccaaGreatDoor

/- The reference's When; both sides give the same text. -/
namespace Go.Proofs.YtpclhpncmlbccaaGreatDoor
open Go.RowKit
set_option linter.unusedVariables false
set_option maxHeartbeats 1000000
theorem when_text {Pw P4 Pm P5 P1 P2 P3 : Str} {Fw F4 Fm F5 F1 F2 F3 : Option Str} (hw : Fw = some Pw) (h4 : F4 = some P4) (hm : Fm = some Pm) (h5 : F5 = some P5) (h1 : F1 = some P1) (h2 : F2 = some P2) (h3 : F3 = some P3)
    (lw : Pw.length = 3) (l4 : P4.length = 2) (lm : Pm.length = 3) (l5 : P5.length = 4) (l1 : P1.length = 2) (l2 : P2.length = 2) (l3 : P3.length = 2) :
    (Fw.bind fun v42 => (cat v42 (([44, 32] : Str))).bind fun v44 => F4.bind fun v46 => (cat v44 v46).bind fun v48 => (cat v48 (([32] : Str))).bind fun v50 => Fm.bind fun v52 => (cat v50 v52).bind fun v54 => (cat v54 (([32] : Str))).bind fun v56 => F5.bind fun v58 => (cat v56 v58).bind fun v60 => (cat v60 (([32] : Str))).bind fun v62 => F1.bind fun v64 => (cat v62 v64).bind fun v66 => (cat v66 (([58] : Str))).bind fun v68 => F2.bind fun v70 => (cat v68 v70).bind fun v72 => (cat v72 (([58] : Str))).bind fun v74 => F3.bind fun v76 => (cat v74 v76).bind fun v78 => (cat v78 (([32, 43, 48, 48, 48, 48] : Str))).bind fun v80 => some ((v80, true))) =
      some (Pw ++ [44, 32] ++ P4 ++ [32] ++ Pm ++ [32] ++ P5 ++ [32] ++ P1 ++ [58] ++ P2 ++ [58] ++ P3 ++ [32, 43, 48, 48, 48, 48], true) := by
  subst hw h4 hm h5 h1 h2 h3
  simp only [Option.bind_some]
  repeat (rw [cat_ok (by simp; omega)]; simp only [Option.bind_some])
theorem R_When_in (t : Int) (h1 : -68719476736 ≤ t) (h2 : t ≤ 68719476736) : (R_When t = some ([], false) ∧ (t / 86400 + 719162 < 0 ∨ 1460970 ≤ t / 86400 + 719162)) ∨
    ∃ (Y : Int) (M : Nat) (g : Int), 1 ≤ Y ∧ Y ≤ 4000 ∧ M ≤ 11 ∧ befI Y + g = t / 86400 + 719162 ∧ (domI Y M ≤ g ∧ g < domI Y (M + 1)) ∧
      R_When t = some (dateT ((t / 86400 + 4) % 7).toNat (g - domI Y M + 1).toNat M Y.toNat (t % 86400 / 3600).toNat (t % 86400 / 60 % 60).toNat (t % 86400 % 60).toNat, true) := by
  obtain ⟨b5, hb5, i1, i2, i3⟩ := when_l1 t h1 h2
  have eD : w64 (b5.2 + iQuo b5.1 86400) = t / 86400 := by
    rw [iQuo_nn i1 (by omega) (by omega), w64_id (by omega) (by omega)]; omega
  have eS : iRem b5.1 86400 = t % 86400 := by rw [iRem_nn i1]; omega
  obtain ⟨b9, hb9, j1, j2, j3, j4, j5⟩ := when_l2 (t / 86400) (by omega) (by omega)
  obtain ⟨⟨g, Y⟩, hb16, k1, k2, k3, k4, k5⟩ := when_l3 (719162 + t / 86400) (b9.1, b9.2) j1 j3 j4 j5 j2
  dsimp only at k1 k2 k3 k4 k5
  unfold R_When
  rw [R_In_eq, decide_eq_true h1, decide_eq_true h2]
  simp only [Option.bind_some, Bool.and_true, Bool.not_true, cond_false]
  rw [hb5]
  simp only [Option.bind_some]
  rw [eD, hb9]
  simp only [Option.bind_some]
  rw [hb16]
  simp only [Option.bind_some, R_In_eq]
  have hys := befI_succ Y
  by_cases hY : 1 ≤ Y ∧ Y ≤ 4000
  · right
    obtain ⟨hY1, hY2⟩ := hY
    have hb0 := befI_bound hY1 (by omega)
    have hb1 := (befI_add 1 (Y - 1).toNat).1
    rw [befI_one, show (1 : Int) + ((Y - 1).toNat : Int) = Y by omega] at hb1
    obtain ⟨M, hM, hd1, hd2⟩ := month_exists Y g k1 12 (by rw [domI_12]; exact k2)
    refine ⟨Y, M, g, hY1, hY2, by omega, by omega, ⟨hd1, hd2⟩, ?_⟩
    have hn := domI_nn Y M
    have hyl := ylen_pos Y
    have hds : domI Y (M + 1) = domI Y M + dimI Y ((M + 1 : Nat) : Int) := rfl
    have hdp := dimI_pos Y ((M + 1 : Nat) : Int)
    rw [decide_eq_true hY1, decide_eq_true hY2]
    simp only [Bool.and_true, Bool.not_true, cond_false]
    have q4 := when_l4 (g, Y) M (by omega) ⟨hd1, hd2⟩ (by dsimp only; omega) M 0 (by omega)
    dsimp only [domI] at q4
    rw [show (((0 + 1 : Nat) : Int), g - 0) = ((1 : Int), g) by simp] at q4
    have q5 := when_l5 (g, Y) hY1 hY2 (Y - 1).toNat 1 (by omega) (by dsimp only; omega)
    rw [befI_one] at q5
    rw [show ((0 : Int) - 364 * (1 - 1) + 1, (1 : Int)) = (1, 1) by simp] at q5
    dsimp only at q5
    rw [q4]
    simp only [Option.bind_some]
    rw [q5]
    simp only [Option.bind_some]
    have hr1 := Int.emod_nonneg t (show (86400 : Int) ≠ 0 by omega)
    have hr2 := Int.emod_lt_of_pos t (show (0 : Int) < 86400 by omega)
    have hw7 := Int.emod_nonneg (t / 86400 + 4) (show (7 : Int) ≠ 0 by omega)
    have hw8 := Int.emod_lt_of_pos (t / 86400 + 4) (show (0 : Int) < 7 by omega)
    have e35 : iRem (w64 (befI Y - 364 * (Y - 1) + 1 + g)) 7 = ((((t / 86400 + 4) % 7).toNat : Nat) : Int) := by
      rw [w64_id (by omega) (by omega), iRem_nn (by omega)]; omega
    have hwc : cut (([83, 117, 110, 77, 111, 110, 84, 117, 101, 87, 101, 100, 84, 104, 117, 70, 114, 105, 83, 97, 116] : Str)) ((w64 (3 * (iRem (w64 (befI Y - 364 * (Y - 1) + 1 + g)) 7)))) ((w64 ((w64 (3 * (iRem (w64 (befI Y - 364 * (Y - 1) + 1 + g)) 7))) + 3))) = some (wdT ((t / 86400 + 4) % 7).toNat) := by
      rw [e35]; exact wd_cut ⟨((t / 86400 + 4) % 7).toNat, by omega⟩
    have hmc : cut (([74, 97, 110, 70, 101, 98, 77, 97, 114, 65, 112, 114, 77, 97, 121, 74, 117, 110, 74, 117, 108, 65, 117, 103, 83, 101, 112, 79, 99, 116, 78, 111, 118, 68, 101, 99] : Str)) ((w64 ((w64 (3 * ((M + 1 : Nat) : Int))) - 3))) ((w64 (3 * ((M + 1 : Nat) : Int)))) = some (moT M) := mo_cut ⟨M, by omega⟩
    have p1 := fill2 (u := (t % 86400 / 3600).toNat) (by omega)
    have p2 := fill2 (u := (t % 86400 / 60 % 60).toNat) (by omega)
    have p3 := fill2 (u := (t % 86400 % 60).toNat) (by omega)
    have p4 := fill2 (u := (g - domI Y M + 1).toNat) (by omega)
    have p5 := fill4 (u := Y.toNat) (by omega)
    have l1 := padD_len (u := (t % 86400 / 3600).toNat) (k := 2) (by omega) (by omega)
    have l2 := padD_len (u := (t % 86400 / 60 % 60).toNat) (k := 2) (by omega) (by omega)
    have l3 := padD_len (u := (t % 86400 % 60).toNat) (k := 2) (by omega) (by omega)
    have l4 := padD_len (u := (g - domI Y M + 1).toNat) (k := 2) (by omega) (by omega)
    have l5 := padD_len (u := Y.toNat) (k := 4) (by omega) (by omega)
    have lw := wdT_len ⟨((t / 86400 + 4) % 7).toNat, by omega⟩
    have lm := moT_len ⟨M, by omega⟩
    dsimp only at lw lm
    rw [show (((t % 86400 / 3600).toNat : Nat) : Int) = iQuo (iRem b5.1 86400) 3600 by rw [eS, iQuo_nn hr1 (by omega) (by omega)]; omega] at p1
    rw [show (((t % 86400 / 60 % 60).toNat : Nat) : Int) = iRem (iQuo (iRem b5.1 86400) 60) 60 by rw [eS, iQuo_nn hr1 (by omega) (by omega), iRem_nn (by omega)]; omega] at p2
    rw [show (((t % 86400 % 60).toNat : Nat) : Int) = iRem (iRem b5.1 86400) 60 by rw [eS, iRem_nn (by omega)]; omega] at p3
    rw [show (((g - domI Y M + 1).toNat : Nat) : Int) = w64 (g - domI Y M + 1) by rw [w64_id (by omega) (by omega)]; omega] at p4
    rw [show ((Y.toNat : Nat) : Int) = Y by omega] at p5
    exact when_text hwc p4 hmc p5 p1 p2 p3 lw l4 lm l5 l1 l2 l3
  · left
    have e : (decide (1 ≤ Y) && decide (Y ≤ 4000)) = false := by
      rw [Bool.and_eq_false_iff]
      by_cases h : 1 ≤ Y
      · right; rw [decide_eq_false]; omega
      · left; rw [decide_eq_false h]
    rw [e]
    refine ⟨rfl, ?_⟩
    by_cases hY1 : 1 ≤ Y
    · right
      have := befI_mono (show 4001 ≤ Y by omega)
      rw [befI_4001] at this; omega
    · left
      have := befI_mono (show Y + 1 ≤ 1 by omega)
      rw [befI_one] at this; omega
/-- an instant has a text in both or in none -/
theorem when_both (t : Int) : (R_When t = some ([], false) ∧ ∃ d f, dates_Civil t 0 = some (d, f) ∧ f.Code = 3) ∨ ∃ w D m y h mi s, w < 7 ∧ 1 ≤ D ∧ D ≤ 31 ∧ m < 12 ∧ 1 ≤ y ∧ y ≤ 4000 ∧ h < 24 ∧ mi < 60 ∧ s < 60 ∧ R_When t = some (dateT w D m y h mi s, true) ∧ ∃ d, dates_Civil t 0 = some (d, ⟨0, 0⟩) ∧ dates_Print d = some (dateT w D m y h mi s, ⟨0, 0⟩) := by
  by_cases hr : -68719476736 ≤ t ∧ t ≤ 68719476736
  · obtain ⟨h1, h2⟩ := hr
    rcases R_When_in t h1 h2 with ⟨h3, h4⟩ | ⟨Y, M, g, hY1, hY2, hM, hN, hd, hw⟩
    · left
      obtain ⟨d, hd⟩ := civil_out t h1 h2 h4
      exact ⟨h3, d, _, hd, rfl⟩
    · right
      have hr1 := Int.emod_nonneg t (show (86400 : Int) ≠ 0 by omega)
      have hr2 := Int.emod_lt_of_pos t (show (0 : Int) < 86400 by omega)
      have hw7 := Int.emod_nonneg (t / 86400 + 4) (show (7 : Int) ≠ 0 by omega)
      have hw8 := Int.emod_lt_of_pos (t / 86400 + 4) (show (0 : Int) < 7 by omega)
      have hds : domI Y (M + 1) = domI Y M + dimI Y ((M + 1 : Nat) : Int) := rfl
      have hdp := dimI_pos Y ((M + 1 : Nat) : Int)
      exact ⟨_, _, _, _, _, _, _, by omega, by omega, by omega, by omega, by omega, by omega, by omega, by omega, by omega, hw, _, civil_in t h1 h2 Y M g hY1 hY2 hM hN hd, print_in t Y M g hY1 hY2 hM hN hd⟩
  · left
    have e : (decide ((-68719476736 : Int) ≤ t) && decide (t ≤ 68719476736)) = false := by
      rw [Bool.and_eq_false_iff]
      by_cases h : (-68719476736 : Int) ≤ t
      · right; rw [decide_eq_false]; omega
      · left; rw [decide_eq_false h]
    refine ⟨?_, ⟨0, 0, 0, 0, 0, 0, 0⟩, ⟨3, -2⟩, ?_, rfl⟩
    · unfold R_When; rw [R_In_eq, e]; rfl
    · unfold dates_Civil; rw [basic_Time_eq, e]; rfl
end Go.Proofs.YtpclhpncmlbccaaGreatDoor

/- Texts divided at one byte: strings.Split and the reference's Pieces. -/
namespace Go.Proofs.YtpclhpncmlbccaaGreatDoor
open Go.RowKit
set_option linter.unusedVariables false
set_option maxHeartbeats 1000000
/-- the parts of a text between the bytes c -/
def splitC (c : UInt8) : Str → List Str
  | [] => [[]]
  | b :: r => if b = c then [] :: splitC c r else match splitC c r with
    | x :: l => (b :: x) :: l
    | [] => [[b]]
theorem splitC_eq (c : UInt8) (r : Str) : splitC c (c :: r) = [] :: splitC c r := by rw [splitC, if_pos rfl]
theorem splitC_cons {b c : UInt8} (h : b ≠ c) {r x : Str} {l : List Str} (hr : splitC c r = x :: l) : splitC c (b :: r) = (b :: x) :: l := by
  rw [splitC, if_neg h, hr]
theorem splitC_noc {c : UInt8} {x r : Str} (h : c ∉ x) : splitC c (x ++ c :: r) = x :: splitC c r := by
  induction x with
  | nil => exact splitC_eq c r
  | cons b x ih =>
    simp at h
    rw [List.cons_append, splitC_cons (Ne.symm h.1) (ih h.2)]
end Go.Proofs.YtpclhpncmlbccaaGreatDoor

/- Elements that go from a list in place (slices.DeleteFunc), in general. No program is named. -/
namespace Go.Proofs.YtpclhpncmlbccaaGreatDoor
open Go.RowKit
set_option linter.unusedVariables false
end Go.Proofs.YtpclhpncmlbccaaGreatDoor

/- Aliases: the plain functions, and what the typed functions compute. -/
namespace Go.Proofs.YtpclhpncmlbccaaGreatDoor
open Go.RowKit
set_option linter.unusedVariables false
set_option maxHeartbeats 1000000

/-! ### validation -/
end Go.Proofs.YtpclhpncmlbccaaGreatDoor

/- Aliases: the search, and what the typed functions compute. -/
namespace Go.Proofs.YtpclhpncmlbccaaGreatDoor
open Go.RowKit
set_option linter.unusedVariables false
set_option maxHeartbeats 1000000

/-! ### lists without repetition -/
def add1 (o : List Str) (x : Str) : List Str := if o.contains x then o else o ++ [x]
def addNew (o xs : List Str) : List Str := xs.foldl add1 o
theorem add1_mem (o : List Str) (x y : Str) : y ∈ add1 o x ↔ y ∈ o ∨ y = x := by
  unfold add1
  split
  · rename_i h
    simp at h
    constructor
    · exact .inl
    · rintro (h1 | rfl)
      · exact h1
      · exact h
  · simp
theorem add1_prefix (o : List Str) (x : Str) : o <+: add1 o x := by
  unfold add1; split
  · exact List.prefix_refl _
  · exact List.prefix_append _ _
theorem add1_nodup {o : List Str} (h : o.Nodup) (x : Str) : (add1 o x).Nodup := by
  unfold add1; split
  · exact h
  · rename_i hx
    simp at hx
    rw [List.nodup_append]
    exact ⟨h, by simp, fun a ha b hb hab => by simp at hb; subst hb; subst hab; exact hx ha⟩
theorem addNew_mem (xs : List Str) : ∀ (o : List Str) (y : Str), y ∈ addNew o xs ↔ y ∈ o ∨ y ∈ xs := by
  induction xs with
  | nil => intro o y; simp [addNew]
  | cons x xs ih => intro o y; show y ∈ addNew (add1 o x) xs ↔ _; rw [ih, add1_mem]; simp [or_assoc]
theorem addNew_prefix (xs : List Str) : ∀ o : List Str, o <+: addNew o xs := by
  induction xs with
  | nil => intro o; exact List.prefix_refl _
  | cons x xs ih => intro o; exact (add1_prefix o x).trans (ih _)
theorem addNew_nodup (xs : List Str) : ∀ {o : List Str}, o.Nodup → (addNew o xs).Nodup := by
  induction xs with
  | nil => intro o h; exact h
  | cons x xs ih => intro o h; exact ih (add1_nodup h x)
theorem nodup_le {l m : List Str} (hl : l.Nodup) (h : ∀ x ∈ l, x ∈ m) : l.length ≤ m.length := by
  induction l generalizing m with
  | nil => simp
  | cons x l ih =>
    have hx : x ∈ m := h x (by simp)
    obtain ⟨hxl, hl'⟩ := List.nodup_cons.1 hl
    have := ih (m := m.erase x) hl' (fun y hy => by
      have hne : y ≠ x := by rintro rfl; exact hxl hy
      exact (List.mem_erase_of_ne hne).2 (h y (by simp [hy])))
    rw [List.length_erase_of_mem hx] at this
    have : 0 < m.length := List.length_pos_of_mem hx
    simp; omega

/-! ### the search -/
def tgtO (l : List TAlias) (s : Str) : Option (List Str) := (l.find? (fun a => a.Address == s)).map (·.To)
def tgt (l : List TAlias) (s : Str) : List Str := (tgtO l s).getD []
def univ (l : List TAlias) (from_ : List Str) : List Str := from_ ++ l.flatMap (·.To)
theorem tgt_sub (l : List TAlias) (s x : Str) (h : x ∈ tgt l s) : ∃ a ∈ l, a.Address = s ∧ x ∈ a.To := by
  unfold tgt tgtO at h
  cases hf : l.find? (fun a => a.Address == s) with
  | none => rw [hf] at h; simp at h
  | some a =>
    rw [hf] at h
    have := List.find?_some hf
    exact ⟨a, List.mem_of_find?_eq_some hf, by simpa using this, by simpa using h⟩
/-- what holds of the list during the search -/
structure Inv (l : List TAlias) (U : List Str) (k : Nat) (out : List Str) : Prop where
  nd : out.Nodup
  sub : ∀ x ∈ out, x ∈ U
  le : k ≤ out.length
theorem Inv.len {l : List TAlias} {U : List Str} {k : Nat} {out : List Str} (h : Inv l U k out) : out.length ≤ U.length := nodup_le h.nd h.sub
theorem Inv.step {l : List TAlias} {from_ : List Str} {k : Nat} {out : List Str} (h : Inv l (univ l from_) k out) {s : Str} (hs : out[k]? = some s) : Inv l (univ l from_) (k + 1) (addNew out (tgt l s)) := by
  refine ⟨addNew_nodup _ h.nd, fun x hx => ?_, ?_⟩
  · rcases (addNew_mem _ _ _).1 hx with h1 | h1
    · exact h.sub x h1
    · obtain ⟨a, ha, _, hxa⟩ := tgt_sub l s x h1
      exact List.mem_append.2 (.inr (List.mem_flatMap.2 ⟨a, ha, hxa⟩))
  · have := (addNew_prefix (tgt l s) out).length_le
    have := lt_get hs
    omega
/-! ### the reference -/
end Go.Proofs.YtpclhpncmlbccaaGreatDoor

/- Aliases: what the program's expansion and loops compute. -/
namespace Go.Proofs.YtpclhpncmlbccaaGreatDoor
open Go.RowKit
set_option linter.unusedVariables false
set_option maxHeartbeats 1000000

/-! ### the table -/
end Go.Proofs.YtpclhpncmlbccaaGreatDoor

/- Aliases: loops; the closed example; sizes. -/
namespace Go.Proofs.YtpclhpncmlbccaaGreatDoor
open Go.RowKit
set_option linter.unusedVariables false
set_option maxHeartbeats 1000000

/-! ### the closed example -/
end Go.Proofs.YtpclhpncmlbccaaGreatDoor

/- strings.IndexAny on a short text: plain. -/
namespace Go.Proofs.YtpclhpncmlbccaaGreatDoor
open Go.RowKit
set_option linter.unusedVariables false
theorem strB_get (s : Str) (i : Nat) (h : i < s.length) : (strB s)[i]'(by rw [strB_size]; exact h) = s[i] := rfl
theorem strB_get! (s : Str) (i : Nat) (h : i < s.length) : (strB s).get! i = s[i] := by
  have := get_at (strB s) i (by rw [strB_size]; exact h)
  rw [Nat.add_zero] at this
  rw [this]; rfl
theorem rune_ascii {s : Str} {i : Nat} {c : UInt8} (h : s[i]? = some c) (hc : c.toNat < 128) : runeAt s i = (c.toNat : Int) ∧ wideAt s i = 1 := by
  have hi := lt_get h
  have e : s[i] = c := by rw [List.getElem?_eq_getElem hi] at h; exact Option.some.inj h
  have hd := decode_ascii (strB s) i (by rw [strB_size]; exact hi) (by rw [strB_get s i hi, e]; exact hc)
  unfold runeAt wideAt
  rw [hd, strB_get s i hi, e]
  exact ⟨rfl, rfl⟩
theorem rune_high {s : Str} {i : Nat} {c : UInt8} (h : s[i]? = some c) (hc : 128 ≤ c.toNat) : 128 ≤ runeAt s i ∧ runeAt s i ≤ 2147483647 ∧ 1 ≤ wideAt s i := by
  have hi := lt_get h
  have e : s[i] = c := by rw [List.getElem?_eq_getElem hi] at h; exact Option.some.inj h
  have hd := decode_high (strB s) i (by rw [strB_size]; exact hi) (by rw [strB_get s i hi, e]; exact hc)
  have hl := decode_le (strB s) i
  unfold runeAt wideAt
  exact ⟨by omega, by omega, hd.2⟩
theorem decode_cont (s : ByteArray) (pos : Nat) : ∀ k, 1 ≤ k → k < (Utf8.decode s pos).2 → (s.get! (pos + k)).toNat / 64 = 2 := by
  intro k h1 h2
  simp only [Utf8.decode] at h2
  repeat' split at h2
  all_goals first
    | (exfalso; simp at h2; omega)
    | (rename_i hq _
       simp only [Bool.and_eq_true, decide_eq_true_eq, beq_iff_eq] at hq
       have h2 : k < 2 := h2
       obtain rfl : k = 1 := by omega
       exact hq.2.2)
    | (rename_i hq _
       simp only [Bool.and_eq_true, decide_eq_true_eq, beq_iff_eq] at hq
       have h2 : k < 3 := h2
       have : k = 1 ∨ k = 2 := by omega
       rcases this with rfl | rfl
       · exact hq.1.2.2
       · exact hq.2.2)
    | (rename_i hq _
       simp only [Bool.and_eq_true, decide_eq_true_eq, beq_iff_eq] at hq
       have h2 : k < 4 := h2
       have : k = 1 ∨ k = 2 ∨ k = 3 := by omega
       rcases this with rfl | rfl | rfl
       · exact hq.1.1.2.2
       · exact hq.1.2.2
       · exact hq.2.2)
theorem rune_cont {s : Str} {i j : Nat} {c d : UInt8} (h : s[i]? = some c) (hc : 128 ≤ c.toNat) (h1 : i ≤ j) (h2 : j < i + wideAt s i) (hj : s[j]? = some d) : 128 ≤ d.toNat := by
  by_cases e : j = i
  · subst e; rw [h] at hj; cases hj; exact hc
  · have hjl := lt_get hj
    have e2 : s[j] = d := by rw [List.getElem?_eq_getElem hjl] at hj; exact Option.some.inj hj
    have := decode_cont (strB s) i (j - i) (by omega) (by unfold wideAt at h2; omega)
    rw [show i + (j - i) = j by omega, strB_get! s j hjl, e2] at this
    omega
theorem toU8_nat (c : UInt8) : toU8 (c.toNat : Int) = c := by
  unfold toU8
  have := c.toNat_lt
  rw [show ((c.toNat : Int) % 256).toNat = c.toNat by omega]
  simp
theorem asciiL_mem {t : Str} (h : asciiL t = true) {c : UInt8} (hc : c ∈ t) : c.toNat < 128 := by
  unfold asciiL at h
  rw [List.all_eq_true] at h
  simpa using h c hc
/-- a rune beyond ASCII ends with a byte beyond ASCII, and is of two bytes at least -/
theorem runeS_last {r : Int} (h : 128 ≤ r) : ∃ m x, 1 ≤ m ∧ m ≤ 3 ∧ (runeS r).length = m + 1 ∧ (runeS r)[m]? = some x ∧ 128 ≤ x.toNat := by
  unfold runeS
  simp only [Utf8.encode]
  have hc : 128 ≤ (if Utf8.valid r = true then r.toNat else Utf8.runeError) := by
    split
    · omega
    · decide
  generalize (if Utf8.valid r = true then r.toNat else Utf8.runeError) = c at hc
  have hb : ∀ n : Nat, 128 ≤ (UInt8.ofNat (128 + n % 64)).toNat := by
    intro n
    rw [UInt8.toNat_ofNat']
    have : (128 + n % 64) % 2 ^ 8 = 128 + n % 64 := Nat.mod_eq_of_lt (by omega)
    rw [this]; omega
  rw [if_neg (by omega)]
  split
  · exact ⟨1, _, by omega, by omega, rfl, rfl, hb c⟩
  · split
    · exact ⟨2, _, by omega, by omega, rfl, rfl, hb c⟩
    · exact ⟨3, _, by omega, by omega, rfl, rfl, hb c⟩
theorem indexByte_high {t : Str} (h : ∀ c ∈ t, c.toNat < 128) {x : UInt8} (hx : 128 ≤ x.toNat) : Lib.indexByte t x = -1 := by
  have hc := Lib.contains_iff_indexByte t x
  have hn : t.contains x = false := by
    rw [Bool.eq_false_iff]
    intro hm
    have := h x (by simpa using hm)
    omega
  rw [hn] at hc
  have hge := Lib.indexByte_ge t x
  have := of_decide_eq_false hc.symm
  omega
theorem IndexRune_ascii (t : Str) (c : UInt8) (hc : c.toNat < 128) : strings_IndexRune t (c.toNat : Int) = some (Lib.indexByte t c) := by
  unfold strings_IndexRune
  have h1 : decide ((0 : Int) ≤ (c.toNat : Int)) = true := by simp
  have h2 : decide ((c.toNat : Int) < 128) = true := by simp; omega
  rw [h1, h2]
  simp only [cond_true, Option.bind_some, toU8_nat]
  rfl
theorem IndexRune_high (t : Str) (r : Int) (hr : 128 ≤ r) (ht : ∀ c ∈ t, c.toNat < 128) (hl : t.length ≤ 4294967281) : strings_IndexRune t r = some (-1) := by
  unfold strings_IndexRune
  have h1 : decide ((0 : Int) ≤ r) = true := by simp; omega
  have h2 : decide (r < 128) = false := by simp; omega
  rw [h1, h2]
  simp only [cond_true, cond_false, Option.bind_some]
  cases hq : r == 65533 with
  | true =>
    simp only [cond_true]
    obtain ⟨o, ho, rfl⟩ := iter_rec (body := strings_IndexRune_l1 t) (fun i => i ≤ t.length) (fun i => t.length - i) (fun _ o => o = .inl ()) (fun i hi => by
      unfold strings_IndexRune_l1
      by_cases hlt : i < t.length
      · right
        have hg : t[i]? = some t[i] := List.getElem?_eq_getElem hlt
        have hc := ht t[i] (List.getElem_mem hlt)
        obtain ⟨e1, e2⟩ := rune_ascii hg hc
        rw [e1, e2, decide_eq_true hlt]
        have hne : ((t[i].toNat : Int) == 65533) = false := by rw [beq_eq_false_iff_ne]; omega
        rw [hne]
        exact ⟨i + 1, rfl, by omega, by omega, fun _ h => h⟩
      · left
        rw [decide_eq_false hlt]
        exact ⟨.inl (), rfl, rfl⟩) 0 (Nat.zero_le _)
    rw [ho]; rfl
  | false =>
    simp only [cond_false]
    have hv : ∃ b, unicode_utf8_ValidRune r = some b := by
      unfold unicode_utf8_ValidRune
      cases decide (0 ≤ r) <;> cases decide (r < 55296) <;> cases decide (57343 < r) <;> cases decide (r ≤ 1114111) <;> exact ⟨_, rfl⟩
    obtain ⟨b, hb⟩ := hv
    rw [hb]
    simp only [Option.bind_some]
    cases b with
    | false => rfl
    | true =>
      simp only [Bool.not_true, cond_false]
      obtain ⟨m, x, hm1, hm3, hlen, hx, hx128⟩ := runeS_last hr
      have hst : w64 (((runeS r).length : Int) - 1) = (m : Int) := by rw [hlen, w64_id (by omega) (by omega)]; omega
      rw [hst]
      have hbody : ∃ o, strings_IndexRune_l2 t r (m : Int) = some (.out o) ∧ (o = .inl () ∨ o = .inr (-1)) := by
        unfold strings_IndexRune_l2
        by_cases hlt : m < t.length
        · have hd : decide ((m : Int) < (t.length : Int)) = true := by simp; omega
          have hc := ht t[m] (List.getElem_mem hlt)
          rw [hd, hst, idx_lt hlt, idx_get hx]
          have hne : ((t[m].toNat : Int) != (x.toNat : Int)) = true := by simp; omega
          simp only [cond_true, Option.bind_some, hne]
          rw [show (m : Int) + 1 = ((m + 1 : Nat) : Int) by omega, w64_n _ (by omega), cut_nl (by omega)]
          simp only [Option.bind_some]
          have hib : strings_IndexByte (t.drop (m + 1)) x = some (-1) := by
            show some (Lib.indexByte (t.drop (m + 1)) x) = _
            rw [indexByte_high (fun c hc => ht c (List.mem_of_mem_drop hc)) hx128]
          rw [hib]
          exact ⟨.inr (-1), rfl, .inr rfl⟩
        · have hd : decide ((m : Int) < (t.length : Int)) = false := by simp; omega
          rw [hd]
          exact ⟨.inl (), rfl, .inl rfl⟩
      obtain ⟨o, ho, ho2⟩ := hbody
      rw [iter_out ho]
      rcases ho2 with rfl | rfl <;> rfl
theorem IndexAnyP_eq (s t : Str) (h8 : s.length ≤ 8) (h2 : 2 ≤ t.length) (hl : t.length < 4294967281) (ht : asciiL t = true) : strings_IndexAnyP s t = some (Lib.indexAny s t) := by
  have htc : ∀ c ∈ t, c.toNat < 128 := fun c hc => asciiL_mem ht hc
  unfold strings_IndexAnyP
  have e1 : (t == ([] : Str)) = false := by rw [beq_eq_false_iff_ne]; rintro rfl; simp at h2
  have e2 : ((t.length : Int) == 1) = false := by rw [beq_eq_false_iff_ne]; omega
  have e3 : strings_shouldUseASCIISet (s.length : Int) = some false := by unfold strings_shouldUseASCIISet; simp; omega
  rw [e1, e2, e3]
  simp only [cond_false, Option.bind_some]
  obtain ⟨o, ho, ho2⟩ := iter_rec (body := strings_IndexAnyP_l1 s t) (fun i => Lib.NoAny s t i) (fun i => s.length - i) (fun _ o => Sum.elim (fun _ => some (-1)) (fun b => some b) o = some (Lib.indexAny s t)) (fun i hi => by
    unfold strings_IndexAnyP_l1
    by_cases hlt : i < s.length
    · have hg : s[i]? = some s[i] := List.getElem?_eq_getElem hlt
      rw [decide_eq_true hlt]
      simp only [cond_true]
      by_cases hc : s[i].toNat < 128
      · obtain ⟨q1, q2⟩ := rune_ascii hg hc
        rw [q1, q2, IndexRune_ascii t _ hc]
        simp only [Option.bind_some]
        have hcon := Lib.contains_iff_indexByte t s[i]
        rw [← hcon]
        cases hin : t.contains s[i] with
        | true =>
          left
          exact ⟨.inr (i : Int), rfl, by rw [Lib.indexAny_hit hi hg hin]; rfl⟩
        | false =>
          right
          exact ⟨i + 1, rfl, hi.succ hg hin, by omega, fun _ h => h⟩
      · have hc : 128 ≤ s[i].toNat := by omega
        obtain ⟨q1, q2, q3⟩ := rune_high hg hc
        rw [IndexRune_high t _ q1 htc (by omega)]
        right
        refine ⟨i + wideAt s i, rfl, fun j b hj hb => ?_, by omega, fun _ h => h⟩
        by_cases hji : j < i
        · exact hi j b hji hb
        · have := rune_cont hg hc (by omega) hj hb
          rw [Bool.eq_false_iff]
          intro hm
          have := htc b (by simpa using hm)
          omega
    · left
      rw [decide_eq_false hlt]
      refine ⟨.inl (), rfl, ?_⟩
      have hn : Lib.NoAny s t s.length := fun j b hj hb => hi j b (by omega) hb
      rw [Lib.indexAny_none hn]; rfl) 0 (Lib.NoAny.zero s t)
  rw [ho]; exact ho2
end Go.Proofs.YtpclhpncmlbccaaGreatDoor

/- strings.ContainsAny. -/
namespace Go.Proofs.YtpclhpncmlbccaaGreatDoor
open Go.RowKit
set_option linter.unusedVariables false
theorem indexAny_any (t : Str) : ∀ s : Str, decide (0 ≤ Lib.indexAny s t) = s.any fun c => t.contains c := by
  intro s
  induction s with
  | nil => rfl
  | cons c s ih =>
    have hge := Lib.indexAny_ge t s
    rw [List.any_cons, ← ih, Lib.indexAny]
    cases t.contains c with
    | true => simp
    | false =>
      simp only [Bool.false_eq_true, if_false, Bool.false_or]
      by_cases h : Lib.indexAny s t = -1
      · simp [h]
      · have : (Lib.indexAny s t == -1) = false := by simpa using h
        rw [this]
        simp only [Bool.false_eq_true, if_false]
        rw [Bool.eq_iff_iff]; simp; omega
theorem strings_ContainsAny_eq (s t : Str) (hs : s.length ≤ 1048576) (h2 : 2 ≤ t.length) (hl : t.length ≤ 1048576) (ht : asciiL t = true) : strings_ContainsAny s t = some (s.any fun c => t.contains c) := by
  unfold strings_ContainsAny strings_IndexAny
  rw [if_pos ⟨by omega, by omega, h2, ht⟩]
  simp only [Option.bind_some, indexAny_any]
end Go.Proofs.YtpclhpncmlbccaaGreatDoor

/- Header fields in lines: the plain functions, and what the typed functions compute. -/
namespace Go.Proofs.YtpclhpncmlbccaaGreatDoor
open Go.RowKit
set_option linter.unusedVariables false
set_option maxHeartbeats 1000000

def blankC (c : UInt8) : Bool := c == 32 || c == 9
theorem R_blank_eq (c : UInt8) : R_blank c = some (blankC c) := by
  unfold R_blank blankC
  rw [u8_eq c 32 (by decide), u8_eq c 9 (by decide)]
  cases c == 32 <;> rfl
theorem basic_Blank_eq (c : UInt8) : basic_Blank c = some (blankC c) := by
  unfold basic_Blank blankC
  rw [u8_eq c 32 (by decide), u8_eq c 9 (by decide)]
  cases c == 32 <;> rfl
def fnC (c : UInt8) : Bool := decide (33 ≤ c) && decide (c ≤ 126) && c != 58
def fnP (s : Str) : Bool := s != ([] : Str) && decide (s.length ≤ 60) && s.all fnC
theorem dec60 (s : Str) : decide ((s.length : Int) ≤ 60) = decide (s.length ≤ 60) := by generalize s.length = n; rw [Bool.eq_iff_iff]; simp; omega
theorem fold_name_eq (s : Str) (hs : s.length ≤ 1048576) : fold_name s = some (fnP s) := by
  have hloop : iter (fold_name_l1 s) 0 = some ((firstI (fun _ c => if !fnC c then some () else none) 0 s).elim (.inl ()) .inr) := by
    refine iter_first s _ (Sum.inl ()) Sum.inr ?_ ?_
    · unfold fold_name_l1; rw [dec_len]; rfl
    · intro i c hc
      have hi := lt_get hc
      unfold fold_name_l1
      rw [dec_lt hc, idx_get hc]
      simp only [cond_true, Option.bind_some, u8_ne c 58 (by decide), u8_le1 33 c (by decide), u8_le2 126 c (by decide), sc i (by omega)]
      unfold fnC
      cases decide ((33 : UInt8) ≤ c) <;> cases decide (c ≤ 126) <;> cases c != 58 <;> rfl
  unfold fold_name fnP
  rw [hloop]
  simp only [Option.bind_some, elim_unit_bool, firstI_isSome, not_all, dec60]
  cases s != ([] : Str) <;> cases decide (s.length ≤ 60) <;> cases s.all fnC <;> rfl
def endC (c : UInt8) : Bool := c == 13 || c == 10 || c == 0
theorem fold_ends_eq (s : Str) (hs : s.length ≤ 1048576) : fold_ends s = some (s.any endC) := by
  unfold fold_ends
  rw [strings_ContainsAny_eq s _ hs (by decide) (by decide) (by decide)]
  simp only [Option.bind_some, Option.some.injEq]
  congr 1
  funext c
  rw [Bool.eq_iff_iff]
  simp [endC, or_assoc]
def edgeP (s : Str) : Bool := match s.head?, s.getLast? with | some a, some b => blankC a || blankC b | _, _ => false
def valP (s : Str) : Bool := !(s.any endC) && !(edgeP s)
theorem idx_last (s : Str) (h : s ≠ []) (hs : s.length ≤ 1048576) : ∃ a b, idx s 0 = some a ∧ idx s (w64 ((s.length : Int) - 1)) = some b ∧ s.head? = some a ∧ s.getLast? = some b := by
  have hpos := List.length_pos_iff.2 h
  obtain ⟨a, r, rfl⟩ := List.exists_cons_of_ne_nil h
  have e : w64 (((a :: r).length : Int) - 1) = ((r.length : Nat) : Int) := by
    have hl : (a :: r).length = r.length + 1 := rfl
    rw [w64_id (by omega) (by omega)]; omega
  refine ⟨a, (a :: r).getLast h, rfl, ?_, rfl, List.getLast?_eq_some_getLast h⟩
  rw [e, idx_nat, List.getLast_eq_getElem h, List.getElem?_eq_getElem (by simp)]
  congr 2
theorem fold_value_eq (s : Str) (hs : s.length ≤ 1048576) : fold_value s = some (valP s) := by
  unfold fold_value valP
  rw [fold_ends_eq s hs]
  simp only [Option.bind_some]
  by_cases hn : s = []
  · subst hn; rfl
  · obtain ⟨a, b, h1, h2, h3, h4⟩ := idx_last s hn hs
    have e : (s == ([] : Str)) = false := by simpa using hn
    unfold edgeP
    rw [h1, h2, h3, h4, e]
    simp only [Option.bind_some, basic_Blank_eq, cond_false]
    cases s.any endC <;> cases blankC a <;> cases blankC b <;> rfl

/-! ### where a line is cut -/
/-- may a line be cut here? -/
def br (t : Str) (f i : Nat) : Bool := decide (1 ≤ i) && decide (f ≤ i) && (match t[i]?, t[i - 1]? with | some a, some b => blankC a && !blankC b | _, _ => false)
def cutDn (t : Str) (f : Nat) : Nat → Nat
  | 0 => 0
  | i + 1 => if br t f (i + 1) then i + 1 else cutDn t f i
def cutUp (t : Str) (f : Nat) : Nat → Nat → Nat
  | 0, _ => 0
  | n + 1, i => if br t f i then i else cutUp t f n (i + 1)
def cutP (t : Str) (f : Nat) : Nat := if cutDn t f 78 = 0 then cutUp t f (t.length - 79) 79 else cutDn t f 78
/-- what the cut is -/
def CutIs (t : Str) (f c : Nat) : Prop := (c = 0 ∧ ∀ j, br t f j = false) ∨ (br t f c = true ∧ ((c ≤ 78 ∧ ∀ j, c < j → j ≤ 78 → br t f j = false) ∨ (78 < c ∧ ∀ j, j < c → br t f j = false)))
theorem br_zero (t : Str) (f : Nat) : br t f 0 = false := rfl
theorem br_lt {t : Str} {f i : Nat} (h : br t f i = true) : i < t.length ∧ 1 ≤ i ∧ f ≤ i := by
  unfold br at h
  simp only [Bool.and_eq_true, decide_eq_true_eq] at h
  obtain ⟨⟨h1, h2⟩, h3⟩ := h
  refine ⟨?_, h1, h2⟩
  cases hi : t[i]? with
  | none => rw [hi] at h3; simp at h3
  | some a => exact lt_get hi
theorem cutIs_unique {t : Str} {f c d : Nat} (h : CutIs t f c) (k : CutIs t f d) : c = d := by
  rcases h with ⟨rfl, h⟩ | ⟨hc, h⟩ <;> rcases k with ⟨rfl, k⟩ | ⟨hd, k⟩
  · rfl
  · rw [h] at hd; cases hd
  · rw [k] at hc; cases hc
  · rcases Nat.lt_trichotomy c d with hlt | heq | hgt
    · exfalso
      rcases h with ⟨h1, h2⟩ | ⟨h1, h2⟩ <;> rcases k with ⟨k1, k2⟩ | ⟨k1, k2⟩
      · rw [h2 d hlt k1] at hd; cases hd
      · rw [k2 c hlt] at hc; cases hc
      · omega
      · rw [k2 c hlt] at hc; cases hc
    · exact heq
    · exfalso
      rcases h with ⟨h1, h2⟩ | ⟨h1, h2⟩ <;> rcases k with ⟨k1, k2⟩ | ⟨k1, k2⟩
      · rw [k2 c hgt h1] at hc; cases hc
      · omega
      · rw [h2 d hgt] at hd; cases hd
      · rw [h2 d hgt] at hd; cases hd
theorem cutDn_spec (t : Str) (f : Nat) : ∀ n, (cutDn t f n = 0 ∧ ∀ j, j ≤ n → br t f j = false) ∨ (br t f (cutDn t f n) = true ∧ cutDn t f n ≤ n ∧ ∀ j, cutDn t f n < j → j ≤ n → br t f j = false) := by
  intro n
  induction n with
  | zero => left; exact ⟨rfl, fun j hj => by obtain rfl : j = 0 := by omega
                                             exact br_zero t f⟩
  | succ n ih =>
    unfold cutDn
    by_cases h : br t f (n + 1) = true
    · rw [if_pos h]; right; exact ⟨h, Nat.le_refl _, fun j h1 h2 => by omega⟩
    · rw [if_neg h]
      rcases ih with ⟨h1, h2⟩ | ⟨h1, h2, h3⟩
      · left
        refine ⟨h1, fun j hj => ?_⟩
        by_cases e : j = n + 1
        · subst e; simpa using h
        · exact h2 j (by omega)
      · right
        refine ⟨h1, by omega, fun j hj hjn => ?_⟩
        by_cases e : j = n + 1
        · subst e; simpa using h
        · exact h3 j hj (by omega)
theorem cutUp_spec (t : Str) (f : Nat) : ∀ n i, (cutUp t f n i = 0 ∧ ∀ j, i ≤ j → j < i + n → br t f j = false) ∨ (br t f (cutUp t f n i) = true ∧ i ≤ cutUp t f n i ∧ ∀ j, i ≤ j → j < cutUp t f n i → br t f j = false) := by
  intro n
  induction n with
  | zero => intro i; left; exact ⟨rfl, fun j h1 h2 => by omega⟩
  | succ n ih =>
    intro i
    unfold cutUp
    by_cases h : br t f i = true
    · rw [if_pos h]; right; exact ⟨h, Nat.le_refl _, fun j h1 h2 => by omega⟩
    · rw [if_neg h]
      have hb : br t f i = false := by simpa using h
      rcases ih (i + 1) with ⟨h1, h2⟩ | ⟨h1, h2, h3⟩
      · left
        refine ⟨h1, fun j hj hjn => ?_⟩
        by_cases e : j = i
        · subst e; exact hb
        · exact h2 j (by omega) (by omega)
      · right
        refine ⟨h1, by omega, fun j hj hjn => ?_⟩
        by_cases e : j = i
        · subst e; exact hb
        · exact h3 j (by omega) hjn
theorem cutP_is (t : Str) (f : Nat) : CutIs t f (cutP t f) := by
  unfold cutP
  rcases cutDn_spec t f 78 with ⟨h1, h2⟩ | ⟨h1, h2, h3⟩
  · rw [if_pos h1]
    rcases cutUp_spec t f (t.length - 79) 79 with ⟨k1, k2⟩ | ⟨k1, k2, k3⟩
    · left
      refine ⟨k1, fun j => ?_⟩
      by_cases hj : j ≤ 78
      · exact h2 j hj
      · cases hb : br t f j with
        | false => rfl
        | true => have := (br_lt hb).1; rw [k2 j (by omega) (by omega)] at hb; cases hb
    · right
      refine ⟨k1, .inr ⟨by omega, fun j hj => ?_⟩⟩
      by_cases hj2 : j ≤ 78
      · exact h2 j hj2
      · exact k3 j (by omega) hj
  · have hne : cutDn t f 78 ≠ 0 := by intro h; rw [h, br_zero] at h1; cases h1
    rw [if_neg hne]
    exact .inr ⟨h1, .inl ⟨h2, h3⟩⟩
theorem cutP_pos {t : Str} {f : Nat} (h : cutP t f ≠ 0) : 1 ≤ cutP t f ∧ cutP t f < t.length := by
  rcases cutP_is t f with ⟨h1, _⟩ | ⟨h1, _⟩
  · exact absurd h1 h
  · exact ⟨(br_lt h1).2.1, (br_lt h1).1⟩
/-- the typed test at a place inside -/
theorem br_at {t : Str} {f i : Nat} (h1 : 1 ≤ i) (hi : i < t.length) : br t f i = (decide (f ≤ i) && (blankC t[i] && !blankC (t[i - 1]'(by omega)))) := by
  unfold br
  rw [List.getElem?_eq_getElem hi, List.getElem?_eq_getElem (show i - 1 < t.length by omega)]
  simp [h1]
def PInv (t : Str) (f b i : Nat) : Prop := f ≤ i ∧ 1 ≤ i ∧ ((b = 0 ∧ ∀ j, j < i → br t f j = false) ∨ (br t f b = true ∧ b < i ∧ ((b ≤ 78 ∧ ∀ j, b < j → j < i → br t f j = false) ∨ (78 < b ∧ ∀ j, j < b → br t f j = false))))
theorem PInv.done {t : Str} {f b i : Nat} (h : PInv t f b i) (hi : 0 < b ∧ 78 < i ∨ t.length ≤ i) : CutIs t f b := by
  obtain ⟨hf, h1, h2⟩ := h
  rcases h2 with ⟨rfl, h3⟩ | ⟨h3, h4, h5⟩
  · left
    refine ⟨rfl, fun j => ?_⟩
    cases hb : br t f j with
    | false => rfl
    | true =>
      have := (br_lt hb).1
      rw [h3 j (by omega)] at hb; cases hb
  · right
    refine ⟨h3, ?_⟩
    rcases h5 with ⟨h6, h7⟩ | h6
    · left
      refine ⟨h6, fun j hj hj2 => ?_⟩
      cases hb : br t f j with
      | false => rfl
      | true =>
        have := (br_lt hb).1
        rw [h7 j hj (by omega)] at hb; cases hb
    · exact .inr h6
theorem fold_point_eq (t : Str) (f : Nat) (ht : t.length ≤ 4194304) (hf : f ≤ 4194304) : fold_point t (f : Int) = some ((cutP t (max f 1) : Nat) : Int) := by
  unfold fold_point
  have hstart : max (f : Int) 1 = ((max f 1 : Nat) : Int) := by omega
  rw [hstart]
  obtain ⟨r, h1, b, rfl, h2⟩ := iter_rec (body := fold_point_l1 t) (fun s => ∃ b i : Nat, s = ((b : Int), (i : Int)) ∧ PInv t (max f 1) b i ∧ i ≤ 4194305) (fun s => (4194306 - s.2).toNat) (fun _ r => ∃ c : Nat, r = (c : Int) ∧ CutIs t (max f 1) c) (by
    rintro _ ⟨b, i, rfl, hI, hil⟩
    have hi1 := hI.2.1
    unfold fold_point_l1
    dsimp only
    by_cases hlt : i < t.length
    · have hd : decide ((i : Int) < (t.length : Int)) = true := by simp; omega
      have hpre : w64 ((i : Int) - 1) = ((i - 1 : Nat) : Int) := by rw [w64_id (by omega) (by omega)]; omega
      rw [hd, idx_lt hlt, hpre, idx_lt (show i - 1 < t.length by omega)]
      have hb := br_at (f := max f 1) hi1 hlt
      have hfi : decide (max f 1 ≤ i) = true := by simp only [decide_eq_true_eq]; exact hI.1
      rw [hfi, Bool.true_and] at hb
      simp only [cond_true, Option.bind_some, basic_Blank_eq]
      have next : ∀ b' : Nat, PInv t (max f 1) b' (i + 1) → fold_point_k2 ((b : Int), (i : Int)) (b' : Int) = some (.cont ((b' : Int), ((i + 1 : Nat) : Int))) := by
        intro b' _
        unfold fold_point_k2
        dsimp only
        rw [sc i (by omega)]
      have hno : br t (max f 1) i = false → PInv t (max f 1) b (i + 1) := by
        intro hnb
        refine ⟨by have := hI.1; omega, by omega, ?_⟩
        rcases hI.2.2 with ⟨q1, q2⟩ | ⟨q1, q2, q3⟩
        · left
          refine ⟨q1, fun j hj => ?_⟩
          by_cases e : j = i
          · subst e; exact hnb
          · exact q2 j (by omega)
        · right
          refine ⟨q1, by omega, ?_⟩
          rcases q3 with ⟨q4, q5⟩ | q4
          · left
            refine ⟨q4, fun j hj hj2 => ?_⟩
            by_cases e : j = i
            · subst e; exact hnb
            · exact q5 j hj (by omega)
          · exact .inr q4
      have goNo : br t (max f 1) i = false → (∃ s', fold_point_k2 ((b : Int), (i : Int)) (b : Int) = some (.cont s') ∧ (∃ b i : Nat, s' = ((b : Int), (i : Int)) ∧ PInv t (max f 1) b i ∧ i ≤ 4194305) ∧ (4194306 - s'.2).toNat < (4194306 - ((i : Int))).toNat ∧ ∀ r : Int, (∃ c : Nat, r = (c : Int) ∧ CutIs t (max f 1) c) → ∃ c : Nat, r = (c : Int) ∧ CutIs t (max f 1) c) := by
        intro hnb
        exact ⟨_, next b (hno hnb), ⟨b, i + 1, rfl, hno hnb, by omega⟩, by dsimp only; omega, fun _ h => h⟩
      cases ha : blankC t[i] with
      | false =>
        rw [ha] at hb
        simp only [Bool.not_false, cond_true, Option.bind_some]
        exact .inr (goNo hb)
      | true =>
        rw [ha] at hb
        simp only [Bool.not_true, cond_false, Option.bind_some]
        cases hp : blankC t[i - 1] with
        | true =>
          rw [hp] at hb
          simp only [cond_true]
          exact .inr (goNo hb)
        | false =>
          rw [hp] at hb
          have hb : br t (max f 1) i = true := hb
          simp only [cond_false]
          by_cases hb0 : 0 < b ∧ 78 < i
          · left
            have e1 : decide ((0 : Int) < (b : Int)) = true := by simp; omega
            have e2 : decide ((78 : Int) < (i : Int)) = true := by simp; omega
            rw [e1, e2]
            exact ⟨(b : Int), rfl, b, rfl, hI.done (.inl hb0)⟩
          · right
            have e : (bif decide ((0 : Int) < (b : Int)) then some (decide ((78 : Int) < (i : Int))) else some false) = some false := by
              by_cases h0 : 0 < b
              · have e1 : decide ((0 : Int) < (b : Int)) = true := by simp; omega
                have e2 : decide ((78 : Int) < (i : Int)) = false := by simp; omega
                rw [e1, e2]; rfl
              · have e1 : decide ((0 : Int) < (b : Int)) = false := by simp; omega
                rw [e1]; rfl
            rw [e]
            simp only [Option.bind_some, cond_false]
            have hnew : PInv t (max f 1) i (i + 1) := by
              refine ⟨by have := hI.1; omega, by omega, .inr ⟨hb, by omega, ?_⟩⟩
              by_cases h78 : i ≤ 78
              · exact .inl ⟨h78, fun j h1 h2 => by omega⟩
              · right
                refine ⟨by omega, ?_⟩
                rcases hI.2.2 with ⟨q1, q2⟩ | ⟨q1, q2, q3⟩
                · exact q2
                · exfalso
                  have := (br_lt q1).2.1
                  omega
            exact ⟨_, next i hnew, ⟨i, i + 1, rfl, hnew, by omega⟩, by dsimp only; omega, fun _ h => h⟩
    · left
      have hd : decide ((i : Int) < (t.length : Int)) = false := by simp; omega
      rw [hd]
      exact ⟨(b : Int), rfl, b, rfl, hI.done (.inr (by omega))⟩) ((0 : Int), ((max f 1 : Nat) : Int)) ⟨0, max f 1, rfl, ⟨Nat.le_refl _, by omega, .inl ⟨rfl, fun j hj => by
      cases hb : br t (max f 1) j with
      | false => rfl
      | true => have := (br_lt hb).2.2; omega⟩⟩, by omega⟩
  rw [h1]
  simp only [Option.bind_some]
  rw [cutIs_unique h2 (cutP_is t (max f 1))]
/-- the reference's search -/
theorem R_cut_eq (t : Str) (f : Nat) (out : List Str) (ht : t.length ≤ 4194304) (h78 : 78 < t.length) (hf : f ≤ 4194304) (h1f : 1 ≤ f) : ((iter (R_FieldLines_l2 (t, (f : Int), out)) (0, 78)).bind fun b10 => iter (R_FieldLines_l3 (t, (f : Int), out)) (b10, 79)) = some ((cutP t f : Nat) : Int) := by
  have test : ∀ i : Nat, 1 ≤ i → i < t.length → ((bif decide ((f : Int) ≤ (i : Int)) then (idx t (i : Int)).bind fun v18 => (R_blank v18).bind fun v20 => (bif v20 then (idx t ((w64 ((i : Int) - 1)))).bind fun v23 => (R_blank v23).bind fun v25 => some ((!v25)) else some false) else some false) : Option Bool) = some (br t f i) := by
    intro i h1 h2
    have hpre : w64 ((i : Int) - 1) = ((i - 1 : Nat) : Int) := by rw [w64_id (by omega) (by omega)]; omega
    rw [br_at h1 h2, idx_lt h2, hpre, idx_lt (show i - 1 < t.length by omega)]
    have e : decide ((f : Int) ≤ (i : Int)) = decide (f ≤ i) := by rw [Bool.eq_iff_iff]; simp
    rw [e]
    simp only [Option.bind_some, R_blank_eq]
    cases decide (f ≤ i) <;> cases blankC t[i] <;> rfl
  have hdn : ∀ i : Nat, i ≤ 78 → iter (R_FieldLines_l2 (t, (f : Int), out)) (0, (i : Int)) = some ((cutDn t f i : Nat) : Int) := by
    intro i
    induction i with
    | zero => intro _; exact iter_out (by unfold R_FieldLines_l2; rfl)
    | succ i ih =>
      intro hi
      have hb : R_FieldLines_l2 (t, (f : Int), out) (0, ((i + 1 : Nat) : Int)) = some (.cont ((bif br t f (i + 1) then ((i + 1 : Nat) : Int) else 0), (i : Int))) := by
        unfold R_FieldLines_l2
        dsimp only
        have e1 : decide ((0 : Int) < ((i + 1 : Nat) : Int)) = true := by rw [decide_eq_true_eq]; omega
        have e2 : w64 (((i + 1 : Nat) : Int) - 1) = (i : Int) := by rw [w64_id (by omega) (by omega)]; omega
        rw [test (i + 1) (by omega) (by omega), e1, e2]
        simp only [beq_self_eq_true, cond_true, Option.bind_some]
        cases br t f (i + 1) <;> rfl
      rw [iter_cont hb]
      unfold cutDn
      cases hq : br t f (i + 1) with
      | false => simpa using ih (by omega)
      | true =>
        simp only [cond_true, if_true]
        refine iter_out ?_
        unfold R_FieldLines_l2
        dsimp only
        have e3 : ((((i + 1 : Nat) : Int)) == 0) = false := by rw [beq_eq_false_iff_ne]; omega
        rw [e3]
        cases decide ((0 : Int) < (i : Int)) <;> rfl
  have h1 := hdn 78 (by omega)
  have e78 : ((78 : Nat) : Int) = 78 := rfl
  rw [e78] at h1
  rw [h1]
  simp only [Option.bind_some]
  have hout : ∀ (c i : Nat), c ≠ 0 → iter (R_FieldLines_l3 (t, (f : Int), out)) ((c : Int), (i : Int)) = some ((c : Nat) : Int) := by
    intro c i hc
    refine iter_out ?_
    unfold R_FieldLines_l3
    dsimp only
    have e3 : ((c : Int) == 0) = false := by rw [beq_eq_false_iff_ne]; omega
    rw [e3]
    cases decide ((i : Int) < (t.length : Int)) <;> rfl
  have hup : ∀ n i : Nat, i + n = t.length → 1 ≤ i → iter (R_FieldLines_l3 (t, (f : Int), out)) (0, (i : Int)) = some ((cutUp t f n i : Nat) : Int) := by
    intro n
    induction n with
    | zero =>
      intro i hi _
      refine iter_out ?_
      unfold R_FieldLines_l3
      dsimp only
      have : decide ((i : Int) < (t.length : Int)) = false := by rw [decide_eq_false_iff_not]; omega
      rw [this]; rfl
    | succ n ih =>
      intro i hi h1i
      have hb : R_FieldLines_l3 (t, (f : Int), out) (0, (i : Int)) = some (.cont ((bif br t f i then (i : Int) else 0), ((i + 1 : Nat) : Int))) := by
        unfold R_FieldLines_l3
        dsimp only
        have e1 : decide ((i : Int) < (t.length : Int)) = true := by simp; omega
        rw [test i h1i (by omega), e1, sc i (by omega)]
        simp only [beq_self_eq_true, cond_true, Option.bind_some]
        cases br t f i <;> rfl
      rw [iter_cont hb]
      unfold cutUp
      cases hq : br t f i with
      | false => simpa using ih (i + 1) (by omega) (by omega)
      | true =>
        simp only [cond_true, if_true]
        exact hout i (i + 1) (by omega)
  unfold cutP
  have e79 : ((79 : Nat) : Int) = 79 := rfl
  by_cases h0 : cutDn t f 78 = 0
  · rw [if_pos h0, h0]
    have := hup (t.length - 79) 79 (by omega) (by omega)
    rw [e79] at this
    exact this
  · rw [if_neg h0]
    have := hout (cutDn t f 78) 79 h0
    rw [e79] at this
    exact this
end Go.Proofs.YtpclhpncmlbccaaGreatDoor

/- Fields and messages: the plain functions, and what the typed functions compute. -/
namespace Go.Proofs.YtpclhpncmlbccaaGreatDoor
open Go.RowKit
set_option linter.unusedVariables false
set_option maxHeartbeats 1000000

/-- the lines of a text -/
def linesP : Nat → Str → Nat → List Str
  | 0, t, _ => [t]
  | n + 1, t, f => if 78 < t.length then (if cutP t f = 0 then [t] else t.take (cutP t f) :: linesP n (t.drop (cutP t f)) 1) else [t]
theorem linesP_enough : ∀ (n m : Nat) (t : Str) (f : Nat), t.length ≤ n → t.length ≤ m → linesP n t f = linesP m t f := by
  intro n
  induction n with
  | zero =>
    intro m t f h1 h2
    cases m with
    | zero => rfl
    | succ m => unfold linesP; rw [if_neg (by omega)]
  | succ n ih =>
    intro m t f h1 h2
    cases m with
    | zero => unfold linesP; rw [if_neg (by omega)]
    | succ m =>
      unfold linesP
      split
      · split
        · rfl
        · rename_i hc
          have := cutP_pos hc
          rw [ih m _ 1 (by simp; omega) (by simp; omega)]
      · rfl
def linesOf (t : Str) (f : Nat) : List Str := linesP t.length t f
theorem linesOf_long {t : Str} {f : Nat} (h : 78 < t.length) (hc : cutP t f ≠ 0) : linesOf t f = t.take (cutP t f) :: linesOf (t.drop (cutP t f)) 1 := by
  unfold linesOf
  obtain ⟨n, hn⟩ : ∃ n, t.length = n + 1 := ⟨t.length - 1, by omega⟩
  have hp := cutP_pos hc
  rw [hn, linesP, if_pos h, if_neg hc]
  rw [linesP_enough n (t.drop (cutP t f)).length _ 1 (by simp; omega) (Nat.le_refl _)]
theorem linesOf_end {t : Str} {f : Nat} (h : ¬ 78 < t.length ∨ cutP t f = 0) : linesOf t f = [t] := by
  unfold linesOf
  cases hn : t.length with
  | zero => rfl
  | succ n =>
    rw [linesP]
    rcases h with h | h
    · rw [if_neg h]
    · split
      · rfl
      · rfl
theorem linesOf_join : ∀ (n : Nat) (t : Str) (f : Nat), t.length ≤ n → (linesOf t f).flatten = t ∧ (linesOf t f).length ≤ t.length + 1 := by
  intro n
  induction n with
  | zero => intro t f h; rw [linesOf_end (.inl (by omega))]; simp
  | succ n ih =>
    intro t f h
    by_cases h78 : 78 < t.length
    · by_cases hc : cutP t f = 0
      · rw [linesOf_end (.inr hc)]; simp
      · have hp := cutP_pos hc
        rw [linesOf_long h78 hc]
        obtain ⟨h1, h2⟩ := ih (t.drop (cutP t f)) 1 (by simp; omega)
        rw [List.flatten_cons, h1]
        refine ⟨by simp, ?_⟩
        simp only [List.length_cons, List.length_drop] at h2 ⊢
        omega
    · rw [linesOf_end (.inl h78)]; simp
/-- both ways of making lines: they end with the rest, behind the lines before -/
theorem lines_loop {body : Str × Int × List Str → Option (Step (Str × Int × List Str) (Str × List Str))} (enc : Nat → Int) (g : Nat)
    (h : ∀ (t : Str) (f : Nat) (out : List Str), t.length ≤ 4194304 → out.length ≤ 4194305 → f ≤ 4194304 → body (t, enc f, out) = some (if 78 < t.length then (if cutP t (max f 1) = 0 then .out (t, out) else .cont (t.drop (cutP t (max f 1)), enc g, out ++ [t.take (cutP t (max f 1))])) else .out (t, out))) (h0 : max g 1 = 1) :
    ∀ (n : Nat) (t : Str) (f : Nat) (out : List Str), t.length ≤ n → t.length ≤ 4194304 → out.length + t.length ≤ 4194305 → f ≤ 4194304 → ∃ last init, iter body (t, enc f, out) = some (last, init) ∧ init ++ [last] = out ++ linesOf t (max f 1) := by
  intro n
  induction n with
  | zero =>
    intro t f out h1 h2 h3 h4
    have hb := h t f out h2 (by omega) h4
    rw [if_neg (by omega)] at hb
    exact ⟨t, out, iter_out hb, by rw [linesOf_end (.inl (by omega))]⟩
  | succ n ih =>
    intro t f out h1 h2 h3 h4
    have hb := h t f out h2 (by omega) h4
    by_cases h78 : 78 < t.length
    · rw [if_pos h78] at hb
      by_cases hc : cutP t (max f 1) = 0
      · rw [if_pos hc] at hb
        exact ⟨t, out, iter_out hb, by rw [linesOf_end (.inr hc)]⟩
      · rw [if_neg hc] at hb
        have hp := cutP_pos hc
        obtain ⟨last, init, q1, q2⟩ := ih (t.drop (cutP t (max f 1))) g (out ++ [t.take (cutP t (max f 1))]) (by simp; omega) (by simp; omega) (by simp; omega) (by omega)
        refine ⟨last, init, (iter_cont hb).trans q1, ?_⟩
        rw [q2, h0, linesOf_long h78 hc]; simp
    · rw [if_neg h78] at hb
      exact ⟨t, out, iter_out hb, by rw [linesOf_end (.inl h78)]⟩
def txt (n v : Str) : Str := n ++ [58, 32] ++ v
def flP (n v : Str) : List Str := linesOf (txt n v) (n.length + 2)
theorem fold_loop (t : Str) (f : Nat) (ht : t.length ≤ 4194304) (hf : f ≤ 4194304) : ∃ last init, iter fold_Fold_l1 (t, (f : Int), ([] : List Str)) = some (last, init) ∧ init ++ [last] = linesOf t (max f 1) := by
  have := lines_loop (body := fold_Fold_l1) (fun n => (n : Int)) 0 (fun t f out h1 h2 h3 => by
    unfold fold_Fold_l1
    dsimp only
    by_cases h78 : 78 < t.length
    · have hd : decide ((78 : Int) < (t.length : Int)) = true := by rw [decide_eq_true_eq]; omega
      rw [hd, if_pos h78, fold_point_eq t f h1 h3]
      simp only [cond_true, Option.bind_some]
      by_cases hc : cutP t (max f 1) = 0
      · rw [if_pos hc, hc]; rfl
      · have hp := cutP_pos hc
        have e : (((cutP t (max f 1) : Nat) : Int) == 0) = false := by rw [beq_eq_false_iff_ne]; omega
        rw [if_neg hc, e, cut_0n (by omega), cut_nl (by omega)]
        simp only [cond_false, Option.bind_some]
        rw [app_ok (by simp; omega)]; rfl
    · have hd : decide ((78 : Int) < (t.length : Int)) = false := by rw [decide_eq_false_iff_not]; omega
      rw [hd, if_neg h78]; rfl) (by decide) t.length t f [] (Nat.le_refl _) ht (by simp; omega) hf
  simpa using this
theorem ref_loop (t : Str) (f : Nat) (ht : t.length ≤ 4194304) (hf : f ≤ 4194304) (h1f : 1 ≤ f) : ∃ last init, iter R_FieldLines_l1 (t, (f : Int), ([] : List Str)) = some (last, init) ∧ init ++ [last] = linesOf t f := by
  have := lines_loop (body := R_FieldLines_l1) (fun n => ((max n 1 : Nat) : Int)) 1 (fun t f out h1 h2 h3 => by
    unfold R_FieldLines_l1
    dsimp only
    by_cases h78 : 78 < t.length
    · have hd : decide ((78 : Int) < (t.length : Int)) = true := by rw [decide_eq_true_eq]; omega
      have hc0 := R_cut_eq t (max f 1) out h1 h78 (by omega) (by omega)
      obtain ⟨b10, hb10, hc1⟩ := Option.bind_eq_some_iff.1 hc0
      rw [hd, if_pos h78, hb10]
      simp only [cond_true, Option.bind_some]
      rw [hc1]
      simp only [Option.bind_some]
      by_cases hc : cutP t (max f 1) = 0
      · rw [if_pos hc, hc]; rfl
      · have hp := cutP_pos hc
        have e : (((cutP t (max f 1) : Nat) : Int) == 0) = false := by rw [beq_eq_false_iff_ne]; omega
        rw [if_neg hc, e, cut_0n (by omega), cut_nl (by omega)]
        simp only [cond_false, Option.bind_some]
        rw [app_ok (by simp; omega)]; rfl
    · have hd : decide ((78 : Int) < (t.length : Int)) = false := by rw [decide_eq_false_iff_not]; omega
      rw [hd, if_neg h78]; rfl) (by decide) t.length t f [] (Nat.le_refl _) ht (by simp; omega) hf
  have e : max f 1 = f := by omega
  rw [e] at this
  simpa using this
theorem txt_cat (n v : Str) (hn : n.length ≤ 1048576) (hv : v.length ≤ 1048576) : cat n [58, 32] = some (n ++ [58, 32]) ∧ cat (n ++ [58, 32]) v = some (txt n v) ∧ w64 ((n.length : Int) + 2) = ((n.length + 2 : Nat) : Int) := by
  refine ⟨cat_ok (by simp; omega), cat_ok (by simp; omega), ?_⟩
  rw [w64_id (by omega) (by omega)]; omega
theorem txt_len (n v : Str) : (txt n v).length = n.length + 2 + v.length := by unfold txt; simp; omega
theorem R_FieldLines_eq (n v : Str) (hn : n.length ≤ 1048576) (hv : v.length ≤ 1048576) : R_FieldLines n v = some (flP n v) := by
  obtain ⟨h1, h2, h3⟩ := txt_cat n v hn hv
  have hl := txt_len n v
  obtain ⟨last, init, q1, q2⟩ := ref_loop (txt n v) (n.length + 2) (by omega) (by omega) (by omega)
  unfold R_FieldLines flP
  rw [h1]
  simp only [Option.bind_some]
  rw [h2]
  simp only [Option.bind_some]
  rw [h3, q1]
  simp only [Option.bind_some]
  have hj := (linesOf_join (txt n v).length (txt n v) (n.length + 2) (Nat.le_refl _)).2
  rw [← q2] at hj
  simp at hj
  rw [app_ok (by simp; omega), q2]; rfl
def longI (i : Nat) (l : Str) : Option Int := if 998 < l.length then some (i : Int) else none
def foldE (n v : Str) : List Str × TFault :=
  if !fnP n then ([], ⟨10, -1⟩) else if 4000 < v.length then ([], ⟨1, -1⟩) else if !valP v then ([], ⟨11, -1⟩) else match firstI longI 0 (flP n v) with | some i => ([], ⟨1, i⟩) | none => (flP n v, ⟨0, 0⟩)
theorem fl_len (n v : Str) : (flP n v).length ≤ n.length + v.length + 3 := by
  have := (linesOf_join (txt n v).length (txt n v) (n.length + 2) (Nat.le_refl _)).2
  have hl := txt_len n v
  unfold flP; omega
theorem dec998 (l : Str) : decide ((998 : Int) < (l.length : Int)) = decide (998 < l.length) := by generalize l.length = n; rw [Bool.eq_iff_iff]; simp; omega
theorem fold_Fold_eq (n v : Str) (hn : n.length ≤ 1048576) (hv : v.length ≤ 1048576) : fold_Fold n v = some (foldE n v) := by
  obtain ⟨h1, h2, h3⟩ := txt_cat n v hn hv
  have hl := txt_len n v
  obtain ⟨last, init, q1, q2⟩ := fold_loop (txt n v) (n.length + 2) (by omega) (by omega)
  rw [show max (n.length + 2) 1 = n.length + 2 by omega] at q2
  unfold fold_Fold foldE
  rw [fold_name_eq n hn, fold_value_eq v hv]
  simp only [Option.bind_some, basic_Fault_eq, basic_None_eq]
  cases fnP n with
  | false => rfl
  | true =>
    simp only [Bool.not_true, cond_false, Bool.false_eq_true, if_false]
    by_cases h4 : 4000 < v.length
    · have hd : decide ((4000 : Int) < (v.length : Int)) = true := by rw [decide_eq_true_eq]; omega
      rw [hd, if_pos h4]; rfl
    · have hd : decide ((4000 : Int) < (v.length : Int)) = false := by rw [decide_eq_false_iff_not]; omega
      rw [hd, if_neg h4]
      simp only [cond_false]
      cases valP v with
      | false => rfl
      | true =>
        simp only [Bool.not_true, cond_false, Bool.false_eq_true, if_false]
        rw [h1]
        simp only [Option.bind_some]
        rw [h2]
        simp only [Option.bind_some]
        rw [h3, q1]
        simp only [Option.bind_some]
        have hj := fl_len n v
        have hfl : flP n v = init ++ [last] := q2.symm
        have hj2 := hj
        rw [hfl] at hj2
        simp at hj2
        rw [app_ok (by simp; omega), ← hfl]
        simp only [Option.bind_some]
        rw [iter_first (flP n v) (fun i l => (longI i l).map fun k => (([] : List Str), (⟨1, k⟩ : TFault))) (.inl ()) .inr]
        · simp only [Option.bind_some]
          have hm : ∀ (l : List Str) (i : Nat), firstI (fun i l => (longI i l).map fun k => (([] : List Str), (⟨1, k⟩ : TFault))) i l = (firstI longI i l).map fun k => (([] : List Str), (⟨1, k⟩ : TFault)) := by
            intro l
            induction l with
            | nil => intro i; rfl
            | cons x l ih => intro i; unfold firstI; rw [ih]; cases longI i x <;> rfl
          rw [hm]
          cases firstI longI 0 (flP n v) <;> rfl
        · unfold fold_Fold_l2; rw [dec_len]; rfl
        · intro i l hli
          have hi := lt_get hli
          unfold fold_Fold_l2 longI
          rw [dec_lt hli, idx_get hli]
          simp only [cond_true, Option.bind_some, dec998, basic_Fault_eq, sc i (by omega)]
          by_cases h9 : 998 < l.length
          · simp [h9]
          · simp [h9]
end Go.Proofs.YtpclhpncmlbccaaGreatDoor

/- Messages and mails: the plain functions, and what the typed functions compute. -/
namespace Go.Proofs.YtpclhpncmlbccaaGreatDoor
open Go.RowKit
set_option linter.unusedVariables false
set_option maxHeartbeats 1000000

def codeP (f : TField) : Int := (foldE f.Name f.Value).2.Code
def longB (l : List Str) : Bool := l.any fun s => decide (998 < s.length)
theorem longI_some (l : List Str) : ∀ n, (firstI longI n l).isSome = longB l := by
  induction l with
  | nil => intro n; rfl
  | cons x l ih =>
    intro n
    unfold firstI longB longI
    by_cases h : 998 < x.length
    · simp [h]
    · simp only [h, if_false, List.any_cons, decide_false, Bool.false_or]
      exact ih (n + 1)
def codeQ (n v : Str) : Int := if !fnP n then 10 else if 4000 < v.length then 1 else if !valP v then 11 else if longB (flP n v) then 1 else 0
theorem codeP_eq (f : TField) : codeP f = codeQ f.Name f.Value := by
  unfold codeP foldE codeQ
  rw [← longI_some (flP f.Name f.Value) 0]
  split
  · rfl
  · split
    · rfl
    · split
      · rfl
      · cases firstI longI 0 (flP f.Name f.Value) <;> rfl
theorem R_In_60 (s : Str) : R_In (s.length : Int) 1 60 = some (s != ([] : Str) && decide (s.length ≤ 60)) := by
  rw [R_In_eq]
  cases s with
  | nil => rfl
  | cons c s =>
    have h : decide ((1 : Int) ≤ ((c :: s).length : Int)) = true := by rw [decide_eq_true_eq]; simp; omega
    rw [h, dec60]; rfl
theorem elim_int (c : Int) (o : Option Unit) (f : Unit → Option Int) : Sum.elim f (fun b => some b) (o.elim (Sum.inl ()) (fun _ => Sum.inr c) : Unit ⊕ Int) = bif o.isSome then some c else f () := by cases o <;> rfl
theorem R_FieldCode_eq (f : TField) (hn : f.Name.length ≤ 1048576) (hv : f.Value.length ≤ 1048576) : R_FieldCode f = some (codeP f) := by
  rw [codeP_eq]
  unfold R_FieldCode
  have hl1 : iter (R_FieldCode_l1 f) 0 = some ((firstI (fun _ c => if !fnC c then some () else none) 0 f.Name).elim (.inl ()) fun _ => .inr 10) := by
    refine iter_first f.Name _ (Sum.inl ()) (fun _ => Sum.inr 10) ?_ ?_
    · unfold R_FieldCode_l1; rw [dec_len]; rfl
    · intro i c hc
      have hi := lt_get hc
      unfold R_FieldCode_l1
      rw [dec_lt hc, idx_get hc]
      simp only [cond_true, Option.bind_some, R_In_eq, u8_eq c 58 (by decide), u8_le1 33 c (by decide), u8_le2 126 c (by decide), sc i (by omega)]
      unfold fnC bne
      cases decide ((33 : UInt8) ≤ c) <;> cases decide (c ≤ 126) <;> cases c == 58 <;> rfl
  have hl2 : iter (R_FieldCode_l2 f) 0 = some ((firstI (fun _ c => if endC c then some () else none) 0 f.Value).elim (.inl ()) fun _ => .inr 11) := by
    refine iter_first f.Value _ (Sum.inl ()) (fun _ => Sum.inr 11) ?_ ?_
    · unfold R_FieldCode_l2; rw [dec_len]; rfl
    · intro i c hc
      have hi := lt_get hc
      unfold R_FieldCode_l2
      rw [dec_lt hc, idx_get hc]
      simp only [cond_true, Option.bind_some, u8_eq c 0 (by decide), u8_eq c 10 (by decide), u8_eq c 13 (by decide), sc i (by omega)]
      unfold endC
      cases c == 0 <;> cases c == 10 <;> cases c == 13 <;> rfl
  have hl3 : ∀ l : List Str, l.length ≤ 4194304 → iter (R_FieldCode_l3 l) 0 = some ((firstI (fun _ c => if decide (998 < c.length) then some () else none) 0 l).elim (.inl ()) fun _ => .inr 1) := by
    intro l hl
    refine iter_first l _ (Sum.inl ()) (fun _ => Sum.inr 1) ?_ ?_
    · unfold R_FieldCode_l3; rw [dec_len]; rfl
    · intro i c hc
      have hi := lt_get hc
      unfold R_FieldCode_l3
      rw [dec_lt hc, idx_get hc]
      simp only [cond_true, Option.bind_some, dec998, sc i (by omega)]
      cases decide (998 < c.length) <;> rfl
  have hfl := fl_len f.Name f.Value
  rw [hl1]
  simp only [Option.bind_some, elim_int, firstI_isSome, not_all, R_In_60, hl2, R_FieldLines_eq _ _ hn hv, hl3 _ (show (flP f.Name f.Value).length ≤ 4194304 by omega)]
  have h4 : decide ((4000 : Int) < (f.Value.length : Int)) = decide (4000 < f.Value.length) := by generalize f.Value.length = n; rw [Bool.eq_iff_iff]; simp; omega
  have he : (bif decide ((0 : Int) < (f.Value.length : Int)) then (idx f.Value 0).bind fun v38 => (R_blank v38).bind fun v40 => (bif v40 then some true else (idx f.Value ((w64 ((f.Value.length : Int) - 1)))).bind fun v43 => (R_blank v43).bind fun v45 => some v45) else some false) = some (edgeP f.Value) := by
    by_cases hn0 : f.Value = []
    · rw [hn0]; rfl
    · obtain ⟨a, b, h1, h2, h3, h4⟩ := idx_last f.Value hn0 hv
      have hp := List.length_pos_iff.2 hn0
      have hd : decide ((0 : Int) < (f.Value.length : Int)) = true := by rw [decide_eq_true_eq]; omega
      unfold edgeP
      rw [h1, h2, h3, h4, hd]
      simp only [Option.bind_some, R_blank_eq, cond_true]
      cases blankC a <;> rfl
  rw [he, h4]
  simp only [Option.bind_some]
  unfold codeQ fnP valP longB
  cases f.Name.all fnC <;> cases (f.Name != ([] : Str)) <;> cases decide (f.Name.length ≤ 60) <;> (try rfl)
  simp only [Bool.and_true, Bool.not_true, Bool.false_eq_true, if_false, cond_false]
  by_cases h4000 : 4000 < f.Value.length
  · simp [h4000]
  · simp only [h4000, decide_false, cond_false, if_false]
    cases f.Value.any endC <;> cases edgeP f.Value <;> (try rfl)
    simp only [Bool.not_false, Bool.and_true, Bool.not_true, Bool.false_eq_true, if_false, cond_false]
    cases (flP f.Name f.Value).any fun s => decide (998 < s.length) <;> rfl

/-! ### a head -/
def smallF (l : List TField) : Prop := l.length ≤ 1048576 ∧ ∀ f ∈ l, f.Name.length ≤ 1048576 ∧ f.Value.length ≤ 1048576
def fieldQ (i : Nat) (f : TField) : Option TFault := if codeP f != 0 then some ⟨codeP f, i⟩ else none
def headF (l : List TField) : TFault := if 60 < l.length then ⟨2, -1⟩ else (firstI fieldQ 0 l).getD ⟨0, 0⟩
theorem dec60f (l : List TField) : decide ((60 : Int) < (l.length : Int)) = decide (60 < l.length) := by generalize l.length = n; rw [Bool.eq_iff_iff]; simp; omega
theorem header_Validate_eq (l : List TField) (h : smallF l) : header_Validate l = some (headF l) := by
  obtain ⟨h1, h2⟩ := h
  unfold header_Validate headF
  rw [iter_first l fieldQ (.inl ()) .inr]
  · simp only [Option.bind_some, basic_Fault_eq, basic_None_eq, elim_fault, dec60f]
    by_cases h6 : 60 < l.length <;> simp [h6]
  · unfold header_Validate_l1; rw [dec_len]; rfl
  · intro i f hf
    have hi := lt_get hf
    obtain ⟨hn, hv⟩ := h2 f (List.mem_of_getElem? hf)
    unfold header_Validate_l1 fieldQ
    rw [dec_lt hf, idx_get hf]
    simp only [cond_true, Option.bind_some, fold_Fold_eq _ _ hn hv, basic_Failed_eq, basic_Fault_eq, sc i (by omega)]
    show (bif codeP f != 0 then _ else _) = _
    cases codeP f != 0 <;> rfl
theorem headF_code (l : List TField) (h : (headF l).Code = 0) : ¬ 60 < l.length ∧ firstI fieldQ 0 l = none ∧ ∀ f ∈ l, codeP f = 0 := by
  unfold headF at h
  by_cases h6 : 60 < l.length
  · rw [if_pos h6] at h; simp at h
  · rw [if_neg h6] at h
    cases hq : firstI fieldQ 0 l with
    | some y =>
      rw [hq] at h
      obtain ⟨i, f, h1, h2⟩ := firstI_some hq
      unfold fieldQ at h2
      exfalso
      by_cases hc : codeP f = 0
      · simp [hc] at h2
      · have : (codeP f != 0) = true := by simpa using hc
        rw [this] at h2
        simp at h2
        subst h2
        exact hc h
    | none =>
      refine ⟨h6, rfl, fun f hf => ?_⟩
      obtain ⟨i, hi⟩ := List.getElem?_of_mem hf
      have := firstI_none.1 hq i f hi
      unfold fieldQ at this
      simpa using this

/-! ### the bytes of a message -/
theorem codeP_ok {f : TField} (h : codeP f = 0) : f.Name.length ≤ 60 ∧ f.Value.length ≤ 4000 ∧ foldE f.Name f.Value = (flP f.Name f.Value, ⟨0, 0⟩) ∧ ∀ l ∈ flP f.Name f.Value, l.length ≤ 998 := by
  have h0 := h
  rw [codeP_eq] at h
  unfold codeQ at h
  have h1 : fnP f.Name = true := by cases hx : fnP f.Name with
    | true => rfl
    | false => rw [hx] at h; simp at h
  rw [h1] at h
  simp only [Bool.not_true, Bool.false_eq_true, if_false] at h
  have h2 : ¬ 4000 < f.Value.length := by intro hx; rw [if_pos hx] at h; simp at h
  rw [if_neg h2] at h
  have h3 : valP f.Value = true := by cases hx : valP f.Value with
    | true => rfl
    | false => rw [hx] at h; simp at h
  rw [h3] at h
  simp only [Bool.not_true, Bool.false_eq_true, if_false] at h
  have h4 : longB (flP f.Name f.Value) = false := by cases hx : longB (flP f.Name f.Value) with
    | false => rfl
    | true => rw [hx] at h; simp at h
  refine ⟨?_, by omega, ?_, ?_⟩
  · unfold fnP at h1; simp only [Bool.and_eq_true, decide_eq_true_eq] at h1; exact h1.1.2
  · unfold foldE
    rw [h1, h3]
    simp only [Bool.not_true, Bool.false_eq_true, if_false, if_neg h2]
    have := longI_some (flP f.Name f.Value) 0
    rw [h4] at this
    cases hx : firstI longI 0 (flP f.Name f.Value) with
    | none => rfl
    | some y => rw [hx] at this; cases this
  · intro l hl
    unfold longB at h4
    rw [List.any_eq_false] at h4
    have := h4 l hl
    simp at this; omega
def addL (a : List UInt8) (l : Str) : List UInt8 := a ++ l ++ [13, 10]
def addF (a : List UInt8) (f : TField) : List UInt8 := (flP f.Name f.Value).foldl addL a
def bytesP (m : TMessage) : List UInt8 := m.Fields.foldl addF [] ++ [13, 10] ++ m.Body
theorem lines_wr (l : List Str) (acc : List UInt8) (hl : l.length ≤ 5000) (h9 : ∀ s ∈ l, s.length ≤ 998) (ha : acc.length ≤ 1000000000) {body : Int × List UInt8 → Option (Step (Int × List UInt8) (List UInt8))}
    (h0 : ∀ s, body ((l.length : Int), s) = some (.out s)) (h1 : ∀ (i : Nat) x s, l[i]? = some x → s.length ≤ 1006000000 → body ((i : Int), s) = some (.cont (((i + 1 : Nat) : Int), addL s x))) : iter body (0, acc) = some (l.foldl addL acc) ∧ (l.foldl addL acc).length ≤ acc.length + 1000 * l.length :=
  iter_fold l (fun i s => (i, s)) addL id (fun i s => s.length ≤ acc.length + 1000 * i) (body := body) (fun s _ => h0 s) (fun i x s hx hi => by
    have hlt := lt_get hx
    have h9x := h9 x (List.mem_of_getElem? hx)
    refine ⟨h1 i x s hx (by omega), ?_⟩
    unfold addL; simp; omega) acc (by simp)
theorem fields_wr (l : List TField) (hl : l.length ≤ 60) (hc : ∀ f ∈ l, codeP f = 0) {body : Int × List UInt8 → Option (Step (Int × List UInt8) (List UInt8))}
    (h0 : ∀ s, body ((l.length : Int), s) = some (.out s)) (h1 : ∀ (i : Nat) f s, l[i]? = some f → s.length ≤ 1000000000 → body ((i : Int), s) = some (.cont (((i + 1 : Nat) : Int), addF s f)) ∧ (addF s f).length ≤ s.length + 5000000) : iter body (0, ([] : List UInt8)) = some (l.foldl addF []) ∧ (l.foldl addF []).length ≤ 5000000 * l.length :=
  iter_fold l (fun i s => (i, s)) addF id (fun i s => s.length ≤ 5000000 * i) (body := body) (fun s _ => h0 s) (fun i f s hf hi => by
    have hlt := lt_get hf
    obtain ⟨q1, q2⟩ := h1 i f s hf (by omega)
    exact ⟨q1, by omega⟩) [] (by simp)
theorem message_write_eq (m : TMessage) (hb : m.Body.length ≤ 1048576) (h60 : m.Fields.length ≤ 60) (hc : ∀ f ∈ m.Fields, codeP f = 0) : message_write m = some (bytesP m) := by
  unfold message_write bytesP
  obtain ⟨h1, h2⟩ := fields_wr m.Fields h60 hc (body := message_write_l1 m) (fun s => by unfold message_write_l1; rw [dec_len]; rfl) (fun i f s hf hs => by
    have hi := lt_get hf
    obtain ⟨c1, c2, c3, c4⟩ := codeP_ok (hc f (List.mem_of_getElem? hf))
    have hfl := fl_len f.Name f.Value
    obtain ⟨q1, q2⟩ := lines_wr (flP f.Name f.Value) s (by omega) c4 hs (body := message_write_l2 (foldE f.Name f.Value)) (fun s => by unfold message_write_l2; rw [c3, dec_len]; rfl) (fun k x s hx hs => by
      have hk := lt_get hx
      have := c4 x (List.mem_of_getElem? hx)
      unfold message_write_l2
      rw [c3, dec_lt hx, idx_get hx]
      simp only [cond_true, Option.bind_some, sc k (by omega)]
      rw [app_ok (by omega)]
      simp only [Option.bind_some]
      rw [app_ok (by simp; omega)]; rfl)
    unfold addF
    refine ⟨?_, by omega⟩
    unfold message_write_l1
    rw [dec_lt hf, idx_get hf]
    simp only [cond_true, Option.bind_some, fold_Fold_eq f.Name f.Value (by omega) (by omega), q1, sc i (by omega)])
  rw [h1]
  simp only [Option.bind_some]
  rw [app_ok (by simp; omega)]
  simp only [Option.bind_some]
  rw [app_ok (by simp; omega)]; rfl
end Go.Proofs.YtpclhpncmlbccaaGreatDoor

/- Bodies, messages and mails: the plain functions, and what the typed functions compute. -/
namespace Go.Proofs.YtpclhpncmlbccaaGreatDoor
open Go.RowKit
set_option linter.unusedVariables false
set_option maxHeartbeats 1000000

/-- what is wrong with a body: true, a byte that ends no line; false, a long line -/
def bodyP : Nat → List UInt8 → Option Bool
  | _, [] => none
  | c, [x] => if x == 13 || x == 10 then some true else if 998 < c + 1 then some false else none
  | c, x :: y :: r => if x == 13 && y == 10 then bodyP 0 r else if x == 13 || x == 10 then some true else if 998 < c + 1 then some false else bodyP (c + 1) (y :: r)
def bodyStep {O : Type} (e : Bool → O) (c i : Nat) (x : UInt8) (r : List UInt8) : Step (Int × Int) (Unit ⊕ O) :=
  if x == 13 && r.head? == some 10 then .cont (0, ((i + 2 : Nat) : Int)) else if x == 13 || x == 10 then .out (.inr (e true)) else if 998 < c + 1 then .out (.inr (e false)) else .cont (((c + 1 : Nat) : Int), ((i + 1 : Nat) : Int))
theorem body_loop {O : Type} (e : Bool → O) (l : List UInt8) {body : Int × Int → Option (Step (Int × Int) (Unit ⊕ O))}
    (h0 : ∀ c, body (c, (l.length : Int)) = some (.out (.inl ())))
    (hs : ∀ (c : Nat) (p : List UInt8) x r, l = p ++ x :: r → c ≤ 998 → body ((c : Int), (p.length : Int)) = some (bodyStep e c p.length x r)) :
    ∀ (n : Nat) (r p : List UInt8) (c : Nat), r.length ≤ n → l = p ++ r → c ≤ 998 → iter body ((c : Int), (p.length : Int)) = some ((bodyP c r).elim (.inl ()) fun b => .inr (e b)) := by
  intro n
  induction n with
  | zero =>
    intro r p c hr hl hc
    obtain rfl : r = [] := List.length_eq_zero_iff.1 (by omega)
    have : p = l := by simp [hl]
    subst this
    exact iter_out (h0 _)
  | succ n ih =>
    intro r p c hr hl hc
    match r, hr, hl with
    | [], _, hl =>
      have : p = l := by simp [hl]
      subst this
      exact iter_out (h0 _)
    | [x], hr, hl =>
      have hb := hs c p x [] hl hc
      unfold bodyStep at hb
      have e1 : (x == 13 && ([] : List UInt8).head? == some 10) = false := by simp
      rw [e1] at hb
      simp only [Bool.false_eq_true, if_false] at hb
      unfold bodyP
      cases hx : (x == 13 || x == 10) with
      | true => rw [hx] at hb; exact iter_out hb
      | false =>
        rw [hx] at hb
        simp only [Bool.false_eq_true, if_false] at hb ⊢
        by_cases h9 : 998 < c + 1
        · rw [if_pos h9] at hb ⊢; exact iter_out hb
        · rw [if_neg h9] at hb ⊢
          rw [iter_cont hb]
          have := ih [] (p ++ [x]) (c + 1) (by simp) (by simp [hl]) (by omega)
          rw [List.length_append] at this
          exact this
    | x :: y :: r, hr, hl =>
      have hb := hs c p x (y :: r) hl hc
      unfold bodyStep at hb
      have e1 : ((y :: r).head? == some (10 : UInt8)) = (y == 10) := by simp
      rw [e1] at hb
      unfold bodyP
      cases hxy : (x == 13 && y == 10) with
      | true =>
        rw [hxy] at hb
        simp only [if_true] at hb ⊢
        rw [iter_cont hb]
        have := ih r (p ++ [x, y]) 0 (by simp at hr; omega) (by simp [hl]) (by omega)
        rw [List.length_append] at this
        exact this
      | false =>
        rw [hxy] at hb
        simp only [Bool.false_eq_true, if_false] at hb ⊢
        cases hx : (x == 13 || x == 10) with
        | true => rw [hx] at hb; exact iter_out hb
        | false =>
          rw [hx] at hb
          simp only [Bool.false_eq_true, if_false] at hb ⊢
          by_cases h9 : 998 < c + 1
          · rw [if_pos h9] at hb ⊢; exact iter_out hb
          · rw [if_neg h9] at hb ⊢
            rw [iter_cont hb]
            have := ih (y :: r) (p ++ [x]) (c + 1) (by simp at hr ⊢; omega) (by simp [hl]) (by omega)
            rw [List.length_append] at this
            exact this
theorem next_is {l p r : List UInt8} {x : UInt8} (h : l = p ++ x :: r) (hl : l.length ≤ 1048576) : (bif decide (((p.length + 1 : Nat) : Int) < (l.length : Int)) then (idx l ((p.length + 1 : Nat) : Int)).bind fun v13 => some (((v13.toNat : Int) == 10)) else some false) = some (r.head? == some 10) := by
  subst h
  simp at hl
  cases r with
  | nil =>
    have : decide (((p.length + 1 : Nat) : Int) < ((p ++ [x]).length : Int)) = false := by simp
    rw [this]; rfl
  | cons y r =>
    have : decide (((p.length + 1 : Nat) : Int) < ((p ++ x :: y :: r).length : Int)) = true := by simp; omega
    rw [this, idx_nat]
    have : (p ++ x :: y :: r)[p.length + 1]? = some y := by simp [List.getElem?_append_right]
    rw [this]
    simp only [cond_true, Option.bind_some, u8_eq y 10 (by decide)]
    simp
theorem basic_Body_eq (l : List UInt8) (hl : l.length ≤ 1048576) : basic_Body l = some ((bodyP 0 l).elim 0 fun b => bif b then 11 else 1) := by
  unfold basic_Body
  have := body_loop (fun b : Bool => bif b then (11 : Int) else 1) l (body := basic_Body_l1 l) (fun c => by unfold basic_Body_l1; rw [dec_len]; rfl) (fun c p x r h hc => by
    have hx : l[p.length]? = some x := by simp [h]
    have hi := lt_get hx
    unfold basic_Body_l1 basic_Body_k2 bodyStep
    dsimp only
    rw [dec_lt hx, idx_get hx]
    simp only [cond_true, Option.bind_some, u8_eq x 13 (by decide), u8_eq x 10 (by decide), sc p.length (by omega), sc (p.length + 1) (by omega), sc c (by omega)]
    rw [next_is h hl]
    have h9 : decide ((998 : Int) < ((c + 1 : Nat) : Int)) = decide (998 < c + 1) := by rw [Bool.eq_iff_iff]; simp; omega
    rw [h9]
    by_cases h98 : 998 < c + 1 <;> simp only [h98, decide_true, decide_false, if_true, if_false] <;> cases x == 13 <;> cases x == 10 <;> cases r.head? == some 10 <;> rfl) l.length l [] 0 (Nat.le_refl _) rfl (by omega)
  have h2 : iter (basic_Body_l1 l) (0, 0) = _ := this
  rw [h2]
  cases bodyP 0 l with
  | none => rfl
  | some b => cases b <;> rfl
def bodyF (l : List UInt8) : TFault := (bodyP 0 l).elim ⟨0, 0⟩ fun b => bif b then ⟨11, -5⟩ else ⟨1, -6⟩
theorem message_body_eq (l : List UInt8) (hl : l.length ≤ 1048576) : message_body l = some (bodyF l) := by
  unfold message_body bodyF
  rw [basic_Body_eq l hl]
  cases bodyP 0 l with
  | none => rfl
  | some b => cases b <;> rfl
def msgF (m : TMessage) : TFault := if (headF m.Fields).Code != 0 then headF m.Fields else if 12000 < (bytesP m).length then ⟨1, -4⟩ else bodyF m.Body
def smallM (m : TMessage) : Prop := smallF m.Fields ∧ m.Body.length ≤ 1048576
theorem message_Validate_eq (m : TMessage) (h : smallM m) : message_Validate m = some (msgF m) := by
  obtain ⟨h1, h2⟩ := h
  unfold message_Validate msgF
  rw [header_Validate_eq _ h1]
  simp only [Option.bind_some, basic_Failed_eq, basic_Fault_eq, message_body_eq _ h2]
  cases hc : (headF m.Fields).Code != 0 with
  | true => rfl
  | false =>
    obtain ⟨q1, q2, q3⟩ := headF_code m.Fields (by simpa using hc)
    rw [message_write_eq m h2 (by omega) q3]
    simp only [Option.bind_some, cond_false, Bool.false_eq_true, if_false]
    have : decide ((12000 : Int) < ((bytesP m).length : Int)) = decide (12000 < (bytesP m).length) := by generalize (bytesP m).length = n; rw [Bool.eq_iff_iff]; simp; omega
    rw [this]
    by_cases hb : 12000 < (bytesP m).length <;> simp [hb]
end Go.Proofs.YtpclhpncmlbccaaGreatDoor

/- Envelopes by domains: the plain functions, and what the typed functions compute. -/
namespace Go.Proofs.YtpclhpncmlbccaaGreatDoor
open Go.RowKit
set_option linter.unusedVariables false
set_option maxHeartbeats 1000000

instance : DecidableEq TRecipient := fun a b => decidable_of_iff (a.Address = b.Address ∧ a.Notify = b.Notify) (by cases a; cases b; simp)
instance : DecidableEq TFault := fun a b => decidable_of_iff (a.Code = b.Code ∧ a.Index = b.Index) (by cases a; cases b; simp)
instance : DecidableEq TEnvelope := fun a b => decidable_of_iff (a.From = b.From ∧ a.To = b.To ∧ a.Id = b.Id) (by cases a; cases b; simp)
def domOf (s : Str) : Str := if atP s < s.length then s.drop (atP s + 1) else []
theorem splitP_dom (s : Str) : (splitP s).2.1 = domOf s := by
  unfold splitP domOf
  by_cases h : atP s < s.length
  · rw [if_pos h, if_pos h]
  · rw [if_neg h, if_neg h]
end Go.Proofs.YtpclhpncmlbccaaGreatDoor

/- The union of recipients: the plain functions, and what the typed functions compute. -/
namespace Go.Proofs.YtpclhpncmlbccaaGreatDoor
open Go.RowKit
set_option linter.unusedVariables false
set_option maxHeartbeats 1000000

/-! ### conditions -/
/-! ### one recipient for each address -/
def sameA (s : Str) (r : TRecipient) : Bool := r.Address == s
def hasA (out : List TRecipient) (s : Str) : Bool := out.any (sameA s)
def putR (out : List TRecipient) (r : TRecipient) : List TRecipient := if hasA out r.Address then out.map (fun x => if sameA r.Address x then ⟨x.Address, iOr x.Notify r.Notify⟩ else x) else out ++ [r]
end Go.Proofs.YtpclhpncmlbccaaGreatDoor

/- The union of recipients: what the typed functions compute; the closed example. -/
namespace Go.Proofs.YtpclhpncmlbccaaGreatDoor
open Go.RowKit
set_option linter.unusedVariables false
set_option maxHeartbeats 1000000

def posA (out : List TRecipient) (s : Str) : Option Nat := out.findIdx? (sameA s)
theorem posA_has (out : List TRecipient) (s : Str) : (posA out s).isSome = hasA out s := by unfold posA hasA; exact List.findIdx?_isSome
theorem posA_app (out : List TRecipient) (r : TRecipient) (s : Str) (h : hasA out r.Address = false) : posA (out ++ [r]) s = if r.Address == s then some out.length else posA out s := by
  unfold posA
  rw [List.findIdx?_append]
  by_cases hs : (r.Address == s) = true
  · rw [if_pos hs]
    have e : r.Address = s := beq_iff_eq.1 hs
    subst e
    have : out.findIdx? (sameA r.Address) = none := by
      have := posA_has out r.Address
      rw [h] at this
      unfold posA at this
      simpa using this
    rw [this]
    simp [sameA]
  · rw [if_neg hs]
    have : sameA s r = false := by unfold sameA; simpa using hs
    simp [List.findIdx?_cons, this]
theorem posA_map (out : List TRecipient) (f : TRecipient → TRecipient) (hf : ∀ x, (f x).Address = x.Address) (s : Str) : posA (out.map f) s = posA out s := by
  unfold posA
  rw [List.findIdx?_map]
  congr 1
  funext x
  simp [Function.comp, sameA, hf]
structure MInv (i : Nat) (out : List TRecipient) (m : List (Str × Int)) : Prop where
  len : out.length ≤ i
  nd : (out.map (·.Address)).Nodup
  mp : ∀ s, mget m s = (posA out s).map fun k => ((k : Nat) : Int)
theorem MInv.put {i : Nat} {out : List TRecipient} {m : List (Str × Int)} (h : MInv i out m) (r : TRecipient) : MInv (i + 1) (putR out r) (if hasA out r.Address then m else mput m r.Address (out.length : Int)) := by
  unfold putR
  cases hh : hasA out r.Address with
  | true =>
    simp only [if_true]
    have hf : ∀ x : TRecipient, (if sameA r.Address x then (⟨x.Address, iOr x.Notify r.Notify⟩ : TRecipient) else x).Address = x.Address := by intro x; split <;> rfl
    refine ⟨by simp; have := h.len; omega, ?_, fun s => ?_⟩
    · rw [List.map_map, show ((·.Address) ∘ fun x : TRecipient => if sameA r.Address x then (⟨x.Address, iOr x.Notify r.Notify⟩ : TRecipient) else x) = (·.Address) from funext hf]; exact h.nd
    · rw [posA_map _ _ hf]; exact h.mp s
  | false =>
    simp only [Bool.false_eq_true, if_false]
    refine ⟨by simp; exact h.len, ?_, fun s => ?_⟩
    · rw [List.map_append, List.nodup_append]
      refine ⟨h.nd, by simp, ?_⟩
      intro a ha b hb
      simp at hb; subst hb
      rintro rfl
      obtain ⟨x, hx, hxe⟩ := List.mem_map.1 ha
      unfold hasA at hh
      rw [List.any_eq_false] at hh
      exact hh x hx (by simp [sameA, hxe])
    · rw [mget_mputG, posA_app _ _ _ hh, h.mp s]
      by_cases hs : (r.Address == s) = true
      · rw [if_pos hs, if_pos hs]; rfl
      · rw [if_neg hs, if_neg hs]
end Go.Proofs.YtpclhpncmlbccaaGreatDoor

/- The law EnvelopeDomainsMatchSpec, as a plain statement. -/
namespace Go.Proofs.YtpclhpncmlbccaaGreatDoor
open Go.RowKit
set_option linter.unusedVariables false
end Go.Proofs.YtpclhpncmlbccaaGreatDoor

/- The law EnvelopeMatchesSpec in plain Lean. -/
namespace Go.Proofs.YtpclhpncmlbccaaGreatDoor
open Go.RowKit
set_option linter.unusedVariables false
set_option maxHeartbeats 1000000

theorem smallM_of {m : TMessage} (h : TMessage.bk m ≤ 1048576) : smallM m := by
  unfold TMessage.bk at h
  have h1 := bkL_len (bk := TField.bk) (fun x => by unfold TField.bk; omega) m.Fields
  have h2 := bkL_len (bk := fun _ : UInt8 => 1) (fun x => by simp) m.Body
  refine ⟨⟨by omega, fun f hf => ?_⟩, by omega⟩
  have h5 := bkL_mem (bk := TField.bk) hf
  have h6 : TField.bk f = f.Name.length + 1 + (f.Value.length + 1) + 1 := rfl
  omega
def mailF (m : TMail) : TFault := if (envF m.Envelope).Code != 0 then envF m.Envelope else if (msgF m.Message).Code != 0 then ⟨(msgF m.Message).Code, -30⟩ else ⟨0, 0⟩
theorem envelope_Check_eq (m : TMail) (h1 : smallE m.Envelope) (h2 : smallM m.Message) : envelope_Check m = some (mailF m) := by
  unfold envelope_Check mailF
  rw [envelope_Validate_eq _ h1, message_Validate_eq _ h2]
  simp only [Option.bind_some, basic_Failed_eq, basic_Fault_eq, basic_None_eq]
  cases (envF m.Envelope).Code != 0 <;> cases (msgF m.Message).Code != 0 <;> rfl
end Go.Proofs.YtpclhpncmlbccaaGreatDoor

/- Sending on: the plain functions of its parts, and what the typed functions compute. -/
namespace Go.Proofs.YtpclhpncmlbccaaGreatDoor
open Go.RowKit
set_option linter.unusedVariables false
set_option maxHeartbeats 1000000

/-! ### rules as aliases -/
theorem map_fold {α β : Type} (f : α → β) (l : List α) : ∀ o : List β, l.foldl (fun o x => o ++ [f x]) o = o ++ l.map f := by
  induction l with
  | nil => intro o; simp
  | cons x l ih => intro o; simp [ih]
/-! ### letters -/
def lowC (c : UInt8) : UInt8 := bif decide ((65 : UInt8) ≤ c) && decide (c ≤ 90) then c + 97 - 65 else c
def lowP (s : Str) : Str := s.map lowC
theorem basic_Lower_eq (s : Str) (hs : s.length ≤ 1048576) : basic_Lower s = some (lowP s) := by
  unfold basic_Lower
  have key : ∀ r p : Str, s = p ++ r → iter (basic_Lower_l1 s) ((p.length : Int), p.map lowC ++ r) = some (lowP s) := by
    intro r
    induction r with
    | nil =>
      intro p h
      have hp : p = s := by simp [h]
      subst hp
      refine iter_out ?_
      unfold basic_Lower_l1
      dsimp only
      rw [dec_len]
      simp [lowP]
    | cons c r ih =>
      intro p h
      have hx : s[p.length]? = some c := by simp [h]
      have hi := lt_get hx
      have hx2 : (p.map lowC ++ c :: r)[p.length]? = some c := by
        rw [List.getElem?_append_right (by simp)]; simp
      have hb : basic_Lower_l1 s ((p.length : Int), p.map lowC ++ c :: r) = some (.cont (((p.length + 1 : Nat) : Int), (p ++ [c]).map lowC ++ r)) := by
        unfold basic_Lower_l1
        dsimp only
        rw [dec_lt hx, idx_get hx2]
        simp only [cond_true, Option.bind_some, u8_le1 65 c (by decide), u8_le2 90 c (by decide), sc p.length (by omega), Int.toNat_natCast]
        have hset : (p.map lowC ++ c :: r).set p.length (lowC c) = (p ++ [c]).map lowC ++ r := by
          rw [List.set_append_right _ _ (by simp)]
          simp
        have hsame : lowC c = c → p.map lowC ++ c :: r = (p ++ [c]).map lowC ++ r := by intro h; simp [h]
        unfold lowC at hset hsame ⊢
        cases h1 : decide ((65 : UInt8) ≤ c) <;> cases h2 : decide (c ≤ 90) <;> rw [h1, h2] at hset hsame <;> simp only [Bool.and_true, Bool.and_false, Bool.true_and, Bool.false_and, cond_true, cond_false, Option.bind_some] at hset hsame ⊢
        · rw [hsame trivial]
        · rw [hsame trivial]
        · rw [hsame trivial]
        · rw [hset]
      rw [iter_cont hb]
      have := ih (p ++ [c]) (by simp [h])
      simpa using this
  have := key s [] rfl
  have h2 : iter (basic_Lower_l1 s) (0, s) = some (lowP s) := this
  rw [h2]; rfl
def sameP (a b : Str) : Bool := lowP a == lowP b
theorem basic_Same_eq (a b : Str) (ha : a.length ≤ 1048576) (hb : b.length ≤ 1048576) : basic_Same a b = some (sameP a b) := by
  unfold basic_Same sameP
  rw [basic_Lower_eq a ha, basic_Lower_eq b hb]
  simp only [Option.bind_some]
  by_cases h : a.length = b.length
  · have : ((a.length : Int) == (b.length : Int)) = true := by simp [h]
    rw [this]; rfl
  · have : ((a.length : Int) == (b.length : Int)) = false := by rw [beq_eq_false_iff_ne]; omega
    rw [this]
    have : (lowP a == lowP b) = false := by
      rw [beq_eq_false_iff_ne]
      intro hc
      have := congrArg List.length hc
      simp [lowP] at this
      exact h this
    rw [this]; rfl

/-! ### fields -/
theorem header_name_eq (n : Str) (hn : n.length ≤ 1048576) : header_name n = some (fnP n) := by
  unfold header_name
  rw [fold_Fold_eq n [] hn (by simp)]
  simp only [Option.bind_some, basic_Failed_eq, Option.some.injEq]
  have h := codeP_eq ⟨n, []⟩
  unfold codeP at h
  dsimp only at h
  rw [h]
  unfold codeQ
  cases hf : fnP n with
  | false => rfl
  | true =>
    have h60 : n.length ≤ 60 := by unfold fnP at hf; simp only [Bool.and_eq_true, decide_eq_true_eq] at hf; exact hf.1.2
    have hl : flP n [] = [txt n []] := by unfold flP; exact linesOf_end (.inl (by have := txt_len n []; simp at this; omega))
    have hlb : longB (flP n []) = false := by
      rw [hl]
      have := txt_len n []
      unfold longB
      simp at this ⊢; omega
    have hv : valP [] = true := rfl
    rw [hlb, hv]; rfl
theorem header_valid_eq (l : List TField) (n : Str) (hl : smallF l) (hn : n.length ≤ 1048576) : header_valid l n = some (if (headF l).Code != 0 then headF l else if !fnP n then ⟨10, -3⟩ else ⟨0, 0⟩) := by
  unfold header_valid
  rw [header_Validate_eq l hl, header_name_eq n hn]
  simp only [Option.bind_some, basic_Failed_eq, basic_Fault_eq, basic_None_eq]
  cases (headF l).Code != 0 <;> cases fnP n <;> rfl
def getP (l : List TField) (n : Str) : List Str := (l.filter fun f => sameP f.Name n).map (·.Value)
theorem get_fold (n : Str) (l : List TField) : ∀ o : List Str, l.foldl (fun o (f : TField) => if sameP f.Name n then o ++ [f.Value] else o) o = o ++ getP l n := by
  unfold getP
  induction l with
  | nil => intro o; simp
  | cons f l ih => intro o; rw [List.foldl_cons, ih, List.filter_cons]; cases sameP f.Name n <;> simp
theorem header_Get_eq (l : List TField) (n : Str) (hl : smallF l) (hn : n.length ≤ 1048576) : header_Get l n = some (if (headF l).Code != 0 then ([], headF l) else if !fnP n then ([], ⟨10, -3⟩) else (getP l n, ⟨0, 0⟩)) := by
  unfold header_Get
  rw [header_valid_eq l n hl hn]
  obtain ⟨h1, h2⟩ := hl
  have := (iter_fold l (fun i (s : List Str) => (i, s)) (fun o (f : TField) => if sameP f.Name n then o ++ [f.Value] else o) id (fun i s => s.length ≤ i) (body := header_Get_l1 l n)
    (fun s _ => by unfold header_Get_l1; simp [dec_len]) (fun i f s hf hi => by
      have hlt := lt_get hf
      have hfs := h2 f (List.mem_of_getElem? hf)
      refine ⟨?_, by split <;> (try simp) <;> omega⟩
      unfold header_Get_l1
      dsimp only
      rw [dec_lt hf, idx_get hf]
      simp only [cond_true, Option.bind_some, sc i (by omega), basic_Same_eq _ _ hfs.1 hn]
      cases sameP f.Name n with
      | false => rfl
      | true =>
        simp only [cond_true, if_true]
        rw [app_ok (by simp; omega)]; rfl) [] (by simp)).1
  rw [this, get_fold]
  simp only [Option.bind_some, basic_Failed_eq, basic_None_eq]
  cases hc : (headF l).Code != 0 with
  | true => simp [hc]
  | false => cases hf : fnP n <;> simp

/-! ### a field in front -/
theorem concat2_eq (f : TField) (l : List TField) (hl : l.length ≤ 1048576) : slices_Concat_api_Field_api_Field [[f], l] = some (f :: l) := by
  unfold slices_Concat_api_Field_api_Field
  have h1 : iter (slices_Concat_api_Field_api_Field_l1 [[f], l]) (0, 0) = some (((l.length + 1 : Nat) : Int)) := by
    have e1 : w64 ((0 : Int) + 1) = 1 := rfl
    have e2 : w64 ((1 : Int) + (l.length : Int)) = ((l.length + 1 : Nat) : Int) := by rw [w64_id (by omega) (by omega)]; omega
    have s1 : slices_Concat_api_Field_api_Field_l1 [[f], l] (0, 0) = some (.cont (1, 1)) := rfl
    have s2 : slices_Concat_api_Field_api_Field_l1 [[f], l] (1, 1) = some (.cont (((l.length + 1 : Nat) : Int), 2)) := by
      show (bif decide (w64 ((1 : Int) + (l.length : Int)) < 0) then none else some (Step.cont (w64 ((1 : Int) + (l.length : Int)), w64 (1 + 1)))) = _
      rw [e2, decide_eq_false (by omega)]; rfl
    have s3 : slices_Concat_api_Field_api_Field_l1 [[f], l] (((l.length + 1 : Nat) : Int), 2) = some (.out ((l.length + 1 : Nat) : Int)) := rfl
    exact (iter_cont s1).trans ((iter_cont s2).trans (iter_out s3))
  rw [h1]
  simp only [Option.bind_some]
  have e0 : w64 (((l.length + 1 : Nat) : Int) - w64 (0 - 0)) = ((l.length + 1 : Nat) : Int) := by
    show w64 (((l.length + 1 : Nat) : Int) - 0) = _
    rw [Int.sub_zero, w64_n _ (by omega)]
  rw [e0, decide_eq_false (show ¬ (((l.length + 1 : Nat) : Int) < 0) by omega), decide_eq_true (show (0 : Int) < ((l.length + 1 : Nat) : Int) by omega)]
  simp only [cond_true, cond_false]
  have hz : zrep 4398046511104 ((l.length + 1 : Nat) : Int) (⟨[], []⟩ : TField) = some (List.replicate (l.length + 1) ⟨[], []⟩) := by
    unfold zrep
    rw [if_pos ⟨by omega, by simp; omega⟩]; rfl
  rw [hz]
  simp only [Option.bind_some]
  have hc : cut (List.replicate (l.length + 1) (⟨[], []⟩ : TField)) 0 0 = some [] := by
    have := cut_0n (l := List.replicate (l.length + 1) (⟨[], []⟩ : TField)) (b := 0) (by omega)
    simpa using this
  rw [hc]
  simp only [Option.bind_some]
  have s1 : slices_Concat_api_Field_api_Field_l2 [[f], l] (0, []) = some (.cont (1, [f])) := by
    show (app 4398046511104 ([] : List TField) [f]).bind (fun v20 => some (Step.cont (w64 (0 + 1), v20))) = _
    rw [app_ok (by simp)]; rfl
  have s2 : slices_Concat_api_Field_api_Field_l2 [[f], l] (1, [f]) = some (.cont (2, f :: l)) := by
    show (app 4398046511104 [f] l).bind (fun v20 => some (Step.cont (w64 (1 + 1), v20))) = _
    rw [app_ok (by simp; omega)]; rfl
  have s3 : slices_Concat_api_Field_api_Field_l2 [[f], l] (2, f :: l) = some (.out (f :: l)) := rfl
  rw [iter_cont s1, iter_cont s2, iter_out s3]; rfl
theorem trace_Front_eq (m : TMessage) (n v : Str) (hf : m.Fields.length ≤ 1048576) (hb : m.Body.length ≤ 1048576) : trace_Front m n v = some ⟨⟨n, v⟩ :: m.Fields, m.Body⟩ := by
  unfold trace_Front
  rw [concat2_eq _ _ hf]
  simp only [Option.bind_some]
  have ha : (app 140737488355328 ([] : List UInt8) m.Body).bind (fun v5 => some v5) = some m.Body := by rw [app_ok (by simp; omega)]; rfl
  rw [ha, nilE_same]
  · rfl
  · intro he
    rw [List.isEmpty_iff.1 he]
end Go.Proofs.YtpclhpncmlbccaaGreatDoor

/- Sending on: a step, the tree. -/
namespace Go.Proofs.YtpclhpncmlbccaaGreatDoor
open Go.RowKit
set_option linter.unusedVariables false
set_option maxHeartbeats 1000000

/-! ### a step -/
theorem mailF_msg {m : TMail} (h : (mailF m).Code = 0) : (envF m.Envelope).Code = 0 ∧ (msgF m.Message).Code = 0 := by
  unfold mailF at h
  by_cases h1 : (envF m.Envelope).Code = 0
  · refine ⟨h1, ?_⟩
    have e : ((envF m.Envelope).Code != 0) = false := by simp [h1]
    rw [e] at h
    simp only [Bool.false_eq_true, if_false] at h
    cases hc : (msgF m.Message).Code != 0 with
    | false => simpa using hc
    | true => rw [hc] at h; simpa using h
  · have e : ((envF m.Envelope).Code != 0) = true := by simpa using h1
    rw [e] at h
    simp only [if_true] at h
    exact absurd h h1
theorem msgF_head {m : TMessage} (h : (msgF m).Code = 0) : (headF m.Fields).Code = 0 := by
  unfold msgF at h
  cases hc : (headF m.Fields).Code != 0 with
  | false => simpa using hc
  | true => rw [hc] at h; simpa using h
/-! ### the tree -/
end Go.Proofs.YtpclhpncmlbccaaGreatDoor

/- Sending on: the closed example; what a step makes. -/
namespace Go.Proofs.YtpclhpncmlbccaaGreatDoor
open Go.RowKit
set_option linter.unusedVariables false
set_option maxHeartbeats 1000000

theorem L_plain_eq (l : List Str) (hl : l.length ≤ 1048576) : L_plain l = some ⟨⟨[115, 64, 120], l.map (fun s => ⟨s, 1⟩), [55]⟩, ⟨[], []⟩⟩ := by
  unfold L_plain
  have := (iter_fold l (fun i (s : List TRecipient) => (i, s)) (fun s x => s ++ [(⟨x, 1⟩ : TRecipient)]) id (fun i s => s.length ≤ i) (body := L_plain_l1 l)
    (fun s _ => by unfold L_plain_l1; simp [dec_len]) (fun i x s hx hi => by
      have hlt := lt_get hx
      refine ⟨?_, by simp; omega⟩
      unfold L_plain_l1
      dsimp only
      rw [dec_lt hx, idx_get hx]
      simp only [cond_true, Option.bind_some, sc i (by omega)]
      rw [app_ok (by simp; omega)]; rfl) [] (by simp)).1
  rw [this, map_fold]
  rfl
instance : DecidableEq TField := fun a b => decidable_of_iff (a.Name = b.Name ∧ a.Value = b.Value) (by cases a; cases b; simp)
instance : DecidableEq TMessage := fun a b => decidable_of_iff (a.Fields = b.Fields ∧ a.Body = b.Body) (by cases a; cases b; simp)
instance : DecidableEq TMail := fun a b => decidable_of_iff (a.Envelope = b.Envelope ∧ a.Message = b.Message) (by cases a; cases b; simp)
/-! ### what a step makes -/
end Go.Proofs.YtpclhpncmlbccaaGreatDoor

/- The reference's side of messages: letters, values, recipients, a field in front, equal mails. -/
namespace Go.Proofs.YtpclhpncmlbccaaGreatDoor
open Go.RowKit
set_option linter.unusedVariables false
set_option maxHeartbeats 1000000

end Go.Proofs.YtpclhpncmlbccaaGreatDoor

/- Mailing lists: the plain functions, and what the typed functions of the program compute. -/
namespace Go.Proofs.YtpclhpncmlbccaaGreatDoor
open Go.RowKit
set_option linter.unusedVariables false
set_option maxHeartbeats 1000000

/-! ### copies -/
/-! ### members -/
/-! ### mails that are held -/
/-! ### mails of the list -/
theorem smallF_cons {f : TField} {l : List TField} (h1 : f.Name.length ≤ 1048576 ∧ f.Value.length ≤ 1048576) (h : smallF l) (h60 : l.length < 1048576) : smallF (f :: l) := by
  refine ⟨by simp; omega, fun g hg => ?_⟩
  rcases List.mem_cons.1 hg with rfl | hg
  · exact h1
  · exact h.2 g hg
end Go.Proofs.YtpclhpncmlbccaaGreatDoor

/- Trace fields: the plain functions, and what the typed functions compute. -/
namespace Go.Proofs.YtpclhpncmlbccaaGreatDoor
open Go.RowKit
set_option linter.unusedVariables false
set_option maxHeartbeats 1000000
/-- the text of an instant -/
noncomputable def whenP (t : Int) : Option Str := match R_When t with | some (x, true) => some x | _ => none
theorem whenP_cases (t : Int) : (whenP t = none ∧ R_When t = some ([], false) ∧ ∃ d f, dates_Civil t 0 = some (d, f) ∧ f.Code = 3) ∨
    ∃ w D m y h mi s, w < 7 ∧ 1 ≤ D ∧ D ≤ 31 ∧ m < 12 ∧ 1 ≤ y ∧ y ≤ 4000 ∧ h < 24 ∧ mi < 60 ∧ s < 60 ∧ whenP t = some (dateT w D m y h mi s) ∧ R_When t = some (dateT w D m y h mi s, true) ∧ ∃ d, dates_Civil t 0 = some (d, ⟨0, 0⟩) ∧ dates_Print d = some (dateT w D m y h mi s, ⟨0, 0⟩) := by
  rcases when_both t with ⟨h1, h2⟩ | ⟨w, D, m, y, h, mi, s, b1, b2, b3, b4, b5, b6, b7, b8, b9, h1, h2⟩
  · exact .inl ⟨by unfold whenP; rw [h1], h1, h2⟩
  · exact .inr ⟨w, D, m, y, h, mi, s, b1, b2, b3, b4, b5, b6, b7, b8, b9, by unfold whenP; rw [h1], h1, h2⟩
theorem dateT_len {w D m y h mi s : Nat} (b1 : w < 7) (b3 : D ≤ 31) (b4 : m < 12) (b6 : y ≤ 4000) (b7 : h < 24) (b8 : mi < 60) (b9 : s < 60) : (dateT w D m y h mi s).length = 31 := by
  have l1 := padD_len (u := h) (k := 2) (by omega) (by omega)
  have l2 := padD_len (u := mi) (k := 2) (by omega) (by omega)
  have l3 := padD_len (u := s) (k := 2) (by omega) (by omega)
  have l4 := padD_len (u := D) (k := 2) (by omega) (by omega)
  have l5 := padD_len (u := y) (k := 4) (by omega) (by omega)
  have lw := wdT_len ⟨w, b1⟩
  have lm := moT_len ⟨m, b4⟩
  dsimp only at lw lm
  unfold dateT
  simp [l1, l2, l3, l4, l5, lw, lm]
theorem whenP_len {t : Int} {x : Str} (h : whenP t = some x) : x.length = 31 := by
  rcases whenP_cases t with ⟨h1, _⟩ | ⟨w, D, m, y, hh, mi, s, b1, b2, b3, b4, b5, b6, b7, b8, b9, h1, _⟩
  · rw [h] at h1; cases h1
  · rw [h] at h1
    cases h1
    exact dateT_len b1 b3 b4 b6 b7 b8 b9
def rcv : Str := [82, 101, 99, 101, 105, 118, 101, 100]
/-- the value of a trace field -/
def stV (by_ id when : Str) : Str := [98, 121, 32] ++ by_ ++ [32, 105, 100, 32] ++ id ++ [59, 32] ++ when
def stM (m : TMessage) (by_ id when : Str) : TMessage := ⟨⟨rcv, stV by_ id when⟩ :: m.Fields, m.Body⟩
def noM : TMessage := ⟨[], []⟩
noncomputable def stampP (m : TMessage) (by_ id : Str) (t : Int) : TMessage × TFault :=
  bif (msgF m).Code != 0 then (noM, msgF m) else bif !nameP by_ then (noM, ⟨10, -10⟩) else bif !nameP id then (noM, ⟨10, -12⟩) else
  bif (m.Fields.length : Int) == 60 then (noM, ⟨2, -13⟩) else match whenP t with
    | none => (noM, ⟨3, -2⟩)
    | some x => bif (msgF (stM m by_ id x)).Code != 0 then (noM, ⟨(msgF (stM m by_ id x)).Code, -14⟩) else (stM m by_ id x, ⟨0, 0⟩)
theorem msg_60 {m : TMessage} (h : (msgF m).Code = 0) : m.Fields.length ≤ 60 := by
  have := (headF_code _ (msgF_head h)).1
  omega
theorem stM_small {m : TMessage} {by_ id x : Str} (hm : smallM m) (h60 : m.Fields.length ≤ 60) (h1 : by_.length ≤ 60) (h2 : id.length ≤ 60) (h3 : x.length ≤ 60) : smallM (stM m by_ id x) :=
  ⟨smallF_cons ⟨by show rcv.length ≤ _; decide, by show (stV by_ id x).length ≤ _; unfold stV; simp; omega⟩ hm.1 (by omega), hm.2⟩
theorem trace_Stamp_eq (m : TMessage) (by_ id : Str) (t : Int) (hm : smallM m) (h1 : by_.length ≤ 1048576) (h2 : id.length ≤ 1048576) : trace_Stamp m by_ id t = some (stampP m by_ id t) := by
  unfold trace_Stamp stampP
  rw [message_Validate_eq m hm, basic_Name_eq _ h1, basic_Name_eq _ h2]
  simp only [Option.bind_some, basic_Failed_eq, basic_Fault_eq, basic_None_eq]
  cases hc : (msgF m).Code != 0 with
  | true => rfl
  | false =>
    have hm0 : (msgF m).Code = 0 := by simpa using hc
    have h60 := msg_60 hm0
    simp only [cond_false]
    cases hn1 : nameP by_ with
    | false => rfl
    | true =>
      cases hn2 : nameP id with
      | false => rfl
      | true =>
        simp only [Bool.not_true, cond_false]
        cases (m.Fields.length : Int) == 60 with
        | true => rfl
        | false =>
          simp only [cond_false]
          have q1 := nameP_len hn1
          have q2 := nameP_len hn2
          rcases whenP_cases t with ⟨w1, _, d, f, w2, w3⟩ | ⟨w, D, mo, y, hh, mi, s, b1, b2, b3, b4, b5, b6, b7, b8, b9, w1, _, d, w2, w3⟩
          · rw [w1, w2]
            simp only [Option.bind_some, w3]
            rfl
          · have hx := whenP_len w1
            rw [w1, w2]
            generalize hX : dateT w D mo y hh mi s = X at *
            simp only [Option.bind_some, bne_self_eq_false, cond_false, w3]
            rw [cat_ok (by simp; omega)]
            simp only [Option.bind_some]
            rw [cat_ok (by simp; omega)]
            simp only [Option.bind_some]
            rw [cat_ok (by simp; omega)]
            simp only [Option.bind_some]
            rw [cat_ok (by simp; omega)]
            simp only [Option.bind_some]
            rw [cat_ok (by simp; omega)]
            simp only [Option.bind_some]
            rw [trace_Front_eq _ _ _ (by omega) hm.2]
            simp only [Option.bind_some]
            have hv : message_Validate ⟨⟨[82, 101, 99, 101, 105, 118, 101, 100], ([98, 121, 32] : Str) ++ by_ ++ [32, 105, 100, 32] ++ id ++ [59, 32] ++ X⟩ :: m.Fields, m.Body⟩ = some (msgF (stM m by_ id X)) := message_Validate_eq _ (stM_small hm h60 q1.2 q2.2 (by omega))
            rw [hv]
            simp only [Option.bind_some]
            cases (msgF (stM m by_ id X)).Code != 0 <;> rfl
/-! ### hosts -/
def hostP (v : Str) : Str := match splitC 32 v with | a :: b :: _ => if a = [98, 121] ∧ nameP b = true then b else [] | _ => []
end Go.Proofs.YtpclhpncmlbccaaGreatDoor

/- Notices: their parts and their making; plain functions, and what the typed functions compute. -/
namespace Go.Proofs.YtpclhpncmlbccaaGreatDoor
open Go.RowKit
set_option linter.unusedVariables false
set_option maxHeartbeats 1000000

/-! ### words -/
def wFail : Str := [102, 97, 105, 108, 117, 114, 101]
def wDelay : Str := [100, 101, 108, 97, 121]
def wSucc : Str := [115, 117, 99, 99, 101, 115, 115]
def kindL : List Str := [[], wFail, wDelay, [], wSucc]
def kindW (k : Int) : Str := if k = 1 then wFail else if k = 2 then wDelay else if k = 4 then wSucc else []
def resL : List Str := [[], [115, 101, 110, 116], [108, 97, 116, 101, 114], [102, 97, 105, 108, 101, 100]]
def resW (r : Int) : Str := resL.getD r.toNat []
def KindOk (k : Int) : Prop := k = 1 ∨ k = 2 ∨ k = 4
theorem kindW_fin : ∀ k : Fin 5, idx kindL (k.val : Int) = some (kindW (k.val : Int)) := by decide
theorem kind_idx {k : Int} (h : 0 ≤ k ∧ k < 5) : idx kindL k = some (kindW k) := by
  have := kindW_fin ⟨k.toNat, by omega⟩
  rw [show (((⟨k.toNat, by omega⟩ : Fin 5).val : Nat) : Int) = k by show ((k.toNat : Nat) : Int) = k; omega] at this
  exact this
theorem kindW_ok {k : Int} (h : kindW k ≠ []) : KindOk k := by
  unfold kindW at h
  unfold KindOk
  split at h
  · omega
  · split at h
    · omega
    · split at h
      · omega
      · exact absurd rfl h
theorem kindW_ne {k : Int} (h : KindOk k) : kindW k ≠ [] := by
  rcases h with rfl | rfl | rfl <;> decide
theorem kindW_len (k : Int) : (kindW k).length ≤ 7 := by
  unfold kindW
  repeat' split
  all_goals decide
theorem notice_known_eq (k : Int) : notice_known k = some (kindW k != []) := by
  unfold notice_known notice_kinds
  simp only [Option.bind_some]
  by_cases h0 : 0 ≤ k
  · by_cases h5 : k < 5
    · have := kind_idx ⟨h0, h5⟩
      unfold kindL wFail wDelay wSucc at this
      rw [decide_eq_true h0, decide_eq_true h5, this]
      rfl
    · have e : kindW k = [] := by
        unfold kindW
        rw [if_neg (by omega), if_neg (by omega), if_neg (by omega)]
      rw [decide_eq_true h0, decide_eq_false h5, e]
      rfl
  · have e : kindW k = [] := by
      unfold kindW
      rw [if_neg (by omega), if_neg (by omega), if_neg (by omega)]
    rw [decide_eq_false h0, e]
    rfl
theorem resW_fin : ∀ r : Fin 4, idx resL (r.val : Int) = some (resW (r.val : Int)) ∧ (resW (r.val : Int)).length ≤ 6 := by decide
theorem res_idx {r : Int} (h : 0 ≤ r ∧ r < 4) : idx resL r = some (resW r) ∧ (resW r).length ≤ 6 := by
  have := resW_fin ⟨r.toNat, by omega⟩
  rw [show (((⟨r.toNat, by omega⟩ : Fin 4).val : Nat) : Int) = r by show ((r.toNat : Nat) : Int) = r; omega] at this
  exact this

/-! ### what is told -/
def toldQ (i : Nat) (t : TTold) : Option TFault := if !addrP t.Address then some ⟨10, i⟩ else if !(decide (1 ≤ t.Result) && decide (t.Result ≤ 3)) then some ⟨3, i⟩ else none
def toldF (l : List TTold) : TFault := if decide (l.length < 1) || decide (60 < l.length) then ⟨2, -15⟩ else (firstI toldQ 0 l).getD ⟨0, 0⟩
def smallT (l : List TTold) : Prop := l.length ≤ 1048576 ∧ ∀ t ∈ l, t.Address.length ≤ 1048576
def ToldOk (l : List TTold) : Prop := 1 ≤ l.length ∧ l.length ≤ 60 ∧ ∀ t ∈ l, addrP t.Address = true ∧ 1 ≤ t.Result ∧ t.Result ≤ 3
theorem notice_told_eq (l : List TTold) (h : smallT l) : notice_told l = some (toldF l) := by
  obtain ⟨h3, h4⟩ := h
  unfold notice_told toldF
  have hloop : iter (notice_told_l1 l) 0 = some ((firstI toldQ 0 l).elim (.inl ()) .inr) := by
    refine iter_first l _ (Sum.inl ()) Sum.inr ?_ ?_
    · unfold notice_told_l1; rw [dec_len]; rfl
    · intro i t ht
      have hi := lt_get ht
      have ha := h4 t (List.mem_of_getElem? ht)
      unfold notice_told_l1 toldQ
      rw [dec_lt ht, idx_get ht]
      simp only [cond_true, Option.bind_some, envelope_Address_eq _ (show t.Address.length < 4294967281 by omega), basic_Fault_eq, sc i (by omega)]
      cases addrP t.Address <;> cases decide (1 ≤ t.Result) <;> cases decide (t.Result ≤ 3) <;> rfl
  rw [hloop]
  have e1 : decide ((l.length : Int) < 1) = decide (l.length < 1) := by generalize l.length = n; rw [Bool.eq_iff_iff]; simp; omega
  have e2 : decide ((60 : Int) < (l.length : Int)) = decide (60 < l.length) := by rw [Bool.eq_iff_iff]; simp; omega
  simp only [Option.bind_some, elim_fault, basic_Fault_eq, basic_None_eq, e1, e2]
  cases decide (l.length < 1) <;> cases decide (60 < l.length) <;> rfl
theorem toldF_ok {l : List TTold} (h : (toldF l).Code = 0) : ToldOk l ∧ toldF l = ⟨0, 0⟩ := by
  unfold toldF at h ⊢
  split at h
  · exact absurd h (by decide)
  · rename_i hc
    rw [if_neg hc]
    simp only [Bool.or_eq_true, decide_eq_true_eq] at hc
    cases hf : firstI toldQ 0 l with
    | none =>
      refine ⟨⟨by omega, by omega, fun t ht => ?_⟩, rfl⟩
      obtain ⟨i, hi⟩ := List.mem_iff_getElem?.1 ht
      have := firstI_none.1 hf i t hi
      unfold toldQ at this
      split at this
      · cases this
      · rename_i ha
        split at this
        · cases this
        · rename_i hr
          simp only [Bool.not_eq_true', Bool.not_eq_false, Bool.and_eq_true, decide_eq_true_eq] at ha hr
          exact ⟨ha, hr.1, hr.2⟩
    | some r =>
      obtain ⟨i, x, hx, hq⟩ := firstI_some hf
      rw [hf] at h
      unfold toldQ at hq
      split at hq
      · cases hq; have h9 : (10 : Int) = 0 := h; exact absurd h9 (by decide)
      · split at hq
        · cases hq; have h9 : (3 : Int) = 0 := h; exact absurd h9 (by decide)
        · cases hq
theorem toldF_of {l : List TTold} (h : ToldOk l) : toldF l = ⟨0, 0⟩ := by
  obtain ⟨h1, h2, h3⟩ := h
  have e : (decide (l.length < 1) || decide (60 < l.length)) = false := by rw [decide_eq_false (by omega), decide_eq_false (by omega)]; rfl
  have hf : firstI toldQ 0 l = none := firstI_none.2 fun i t ht => by
    obtain ⟨a, b, c⟩ := h3 t (List.mem_of_getElem? ht)
    unfold toldQ
    rw [a, decide_eq_true b, decide_eq_true c]
    rfl
  unfold toldF
  rw [e, hf]
  rfl

/-! ### the parts of a notice -/
def idN (of : Str) (k : Int) : Str := of ++ [46, 110] ++ Lib.decDigits k.toNat
def aboutN (of : Str) (k : Int) : Str := if of = [] then kindW k else kindW k ++ [32] ++ of
def tellT (t : TTold) : Str := resW t.Result ++ [32] ++ t.Address ++ [13, 10]
def bodyN (l : List TTold) : Str := (l.map tellT).flatten
theorem dec_kind {k : Int} (h : 0 ≤ k ∧ k < 10) : Lib.decDigits k.toNat = [UInt8.ofNat (48 + k.toNat)] := decD_small (by omega)
theorem idN_len {of : Str} {k : Int} (h : 0 ≤ k ∧ k < 10) : (idN of k).length = of.length + 3 := by
  unfold idN; rw [dec_kind h]; simp
theorem notice_id_eq {of : Str} {k : Int} (h : 0 ≤ k ∧ k < 10) (ho : of.length ≤ 1048576) : notice_id of k = some (idN of k) := by
  unfold notice_id idN
  have e : strconv_Itoa k = some (Lib.decDigits k.toNat) := by
    have := strconv_Itoa_eq k.toNat (by omega)
    rwa [show ((k.toNat : Nat) : Int) = k by omega] at this
  have hd : (Lib.decDigits k.toNat).length = 1 := by rw [dec_kind h]; rfl
  rw [cat_ok (by simp; omega), e]
  simp only [Option.bind_some]
  rw [cat_ok (by simp; omega)]
  rfl
theorem trimSp_ne {s : Str} (h : s.getLast? ≠ some 32) : Lib.trimSuffix s [32] = s := by
  unfold Lib.trimSuffix
  cases hs : Lib.hasSuffix s [32] with
  | false => rfl
  | true =>
    exfalso
    have hh : ([32] : Str) <:+ s := by unfold Lib.hasSuffix at hs; simpa using hs
    obtain ⟨t, ht⟩ := hh
    exact h (by rw [← ht]; simp)
theorem trimSp_sp (s : Str) : Lib.trimSuffix (s ++ [32]) [32] = s := by
  unfold Lib.trimSuffix
  have hs : Lib.hasSuffix (s ++ [32]) [32] = true := by
    unfold Lib.hasSuffix
    rw [List.isSuffixOf_iff_suffix]
    exact ⟨s, rfl⟩
  rw [hs]
  simp
theorem name_last {s : Str} (h : nameP s = true) : s.getLast? ≠ some 32 := by
  intro hl
  unfold nameP at h
  simp only [Bool.and_eq_true, List.all_eq_true] at h
  have := h.2 32 (List.mem_of_getLast? hl)
  exact absurd this (by decide)
theorem notice_about_eq {of : Str} {k : Int} (h : KindOk k) (ho : of.length ≤ 1048576) (hn : of = [] ∨ nameP of = true) : notice_about of k = some (aboutN of k) := by
  have hk : 0 ≤ k ∧ k < 5 := by rcases h with rfl | rfl | rfl <;> omega
  have hi := kind_idx hk
  unfold kindL wFail wDelay wSucc at hi
  have hl := kindW_len k
  unfold notice_about notice_kinds aboutN
  simp only [Option.bind_some, hi]
  rw [cat_ok (by simp; omega)]
  simp only [Option.bind_some]
  rw [cat_ok (by simp; omega)]
  simp only [Option.bind_some]
  unfold strings_TrimSuffix
  rw [if_pos (by simp; omega)]
  rcases hn with rfl | hn
  · simp only [List.append_nil, if_true, trimSp_sp, Option.bind_some]
  · have hne : of ≠ [] := by rintro rfl; exact absurd hn (by decide)
    rw [if_neg hne, trimSp_ne (by rw [List.getLast?_append]; cases hg : of.getLast? with
      | none => simp at hg; exact absurd hg hne
      | some c => have := name_last hn; rw [hg] at this; simpa using this)]
    rfl
theorem addr_len' {a : Str} (h : addrP a = true) : a.length ≤ 121 := by
  unfold addrP domP at h
  simp only [Bool.and_eq_true, decide_eq_true_eq, List.length_drop] at h
  omega
theorem tellT_len {t : TTold} (h : addrP t.Address = true ∧ 1 ≤ t.Result ∧ t.Result ≤ 3) : (tellT t).length ≤ 130 := by
  have h1 := addr_len' h.1
  have h2 := (res_idx (r := t.Result) (by omega)).2
  unfold tellT
  simp
  omega
theorem bodyN_len {l : List TTold} (h : ∀ t ∈ l, addrP t.Address = true ∧ 1 ≤ t.Result ∧ t.Result ≤ 3) : (bodyN l).length ≤ 130 * l.length := by
  induction l with
  | nil => simp [bodyN]
  | cons t l ih =>
    have h1 := tellT_len (h t (by simp))
    have h2 := ih fun x hx => h x (by simp [hx])
    unfold bodyN at h2 ⊢
    simp only [List.map_cons, List.flatten_cons, List.length_append, List.length_cons]
    omega
theorem body_fold (l : List TTold) : ∀ s : Str, l.foldl (fun s t => s ++ tellT t) s = s ++ bodyN l := by
  induction l with
  | nil => intro s; simp [bodyN]
  | cons t l ih => intro s; rw [List.foldl_cons, ih]; simp [bodyN]
theorem notice_body_eq (l : List TTold) (h : ToldOk l) : notice_body l = some (bodyN l) := by
  obtain ⟨h1, h2, h3⟩ := h
  have := (iter_fold l (fun i (s : Str) => (s, i)) (fun s t => s ++ tellT t) id (fun i s => s.length ≤ 130 * i) (body := notice_body_l1 l)
    (fun s _ => by unfold notice_body_l1; simp [dec_len]) (fun i t s ht hi => by
      have hlt := lt_get ht
      have h5 := h3 t (List.mem_of_getElem? ht)
      have h6 := tellT_len h5
      have h7 := addr_len' h5.1
      obtain ⟨h8, h9⟩ := res_idx (r := t.Result) (by omega)
      unfold resL at h8
      refine ⟨?_, by simp; omega⟩
      unfold notice_body_l1 notice_results
      dsimp only
      rw [dec_lt ht, idx_get ht]
      simp only [cond_true, Option.bind_some, sc i (by omega), h8]
      rw [cat_ok (by simp; omega)]
      simp only [Option.bind_some]
      rw [cat_ok (by simp; omega)]
      simp only [Option.bind_some]
      rw [cat_ok (by simp; omega)]
      simp only [Option.bind_some]
      rw [cat_ok (by simp; omega)]
      rfl) [] (by simp)).1
  unfold notice_body
  rw [this, body_fold]
  rfl
/-! ### the notice -/
def fFrom : Str := [70, 114, 111, 109]
def fTo : Str := [84, 111]
def fSubj : Str := [83, 117, 98, 106, 101, 99, 116]
def fDate : Str := [68, 97, 116, 101]
def fNote : Str := [88, 45, 78, 111, 116, 105, 99, 101]
def noMail : TMail := ⟨⟨[], [], []⟩, ⟨[], []⟩⟩
def noteMsg (e : TEnvelope) (k : Int) (l : List TTold) (x : Str) : TMessage :=
  ⟨[⟨fFrom, [112, 111, 115, 116, 109, 97, 115, 116, 101, 114, 64] ++ domOf e.From⟩, ⟨fTo, e.From⟩, ⟨fSubj, [68, 101, 108, 105, 118, 101, 114, 121, 58, 32] ++ kindW k⟩, ⟨fDate, x⟩, ⟨fNote, aboutN e.Id k⟩], bodyN l⟩
def noteM (e : TEnvelope) (k : Int) (l : List TTold) (x : Str) : TMail := ⟨⟨[], [⟨e.From, 0⟩], idN e.Id k⟩, noteMsg e k l x⟩
noncomputable def makeP (m : TMail) (k : Int) (l : List TTold) (now : Int) : TMail × TFault :=
  bif (mailF m).Code != 0 then (noMail, mailF m) else bif m.Envelope.From == ([] : Str) then (noMail, ⟨8, -13⟩) else bif kindW k == ([] : Str) then (noMail, ⟨4, -14⟩) else
  bif decide (57 < m.Envelope.Id.length) then (noMail, ⟨1, -16⟩) else bif (toldF l).Code != 0 then (noMail, toldF l) else match whenP now with
    | none => (noMail, ⟨3, -2⟩)
    | some x => (noteM m.Envelope k l x, ⟨0, 0⟩)
theorem mailF_parts {m : TMail} (h : (mailF m).Code = 0) : (envF m.Envelope).Code = 0 ∧ (msgF m.Message).Code = 0 := mailF_msg h
theorem envF_id {e : TEnvelope} (h : (envF e).Code = 0) : e.Id = [] ∨ nameP e.Id = true := by
  unfold envF at h
  split at h
  · exact absurd h (by decide)
  · split at h
    · exact absurd h (by decide)
    · split at h
      · exact absurd h (by decide)
      · rename_i hc
        by_cases h0 : e.Id = []
        · exact .inl h0
        · right
          have : (e.Id != ([] : Str)) = true := by simpa using h0
          rw [this] at hc
          simpa using hc
theorem domOf_len (s : Str) : (domOf s).length ≤ s.length := by unfold domOf; split <;> simp
theorem notice_Make_eq (m : TMail) (k : Int) (l : List TTold) (now : Int) (h1 : smallE m.Envelope) (h2 : smallM m.Message) (h3 : smallT l) : notice_Make m k l now = some (makeP m k l now) := by
  unfold notice_Make makeP
  rw [envelope_Check_eq _ h1 h2]
  simp only [Option.bind_some, basic_Failed_eq, basic_Fault_eq, basic_None_eq]
  cases hc : (mailF m).Code != 0 with
  | true => rfl
  | false =>
    have hm0 : (mailF m).Code = 0 := by simpa using hc
    have hid := envF_id (mailF_parts hm0).1
    have h57 : m.Envelope.Id.length ≤ 60 := by
      rcases hid with h | h
      · rw [h]; decide
      · exact (nameP_len h).2
    simp only [cond_false]
    cases hf : m.Envelope.From == ([] : Str) with
    | true => rfl
    | false =>
      simp only [cond_false, notice_known_eq, Option.bind_some]
      cases hk : kindW k == ([] : Str) with
      | true =>
        have : (!(kindW k != ([] : Str))) = true := by unfold bne; rw [hk]; rfl
        rw [this]
        rfl
      | false =>
        have hk2 : (!(kindW k != ([] : Str))) = false := by unfold bne; rw [hk]; rfl
        have hk1 : KindOk k := kindW_ok (by simpa using hk)
        have hk0 : 0 ≤ k ∧ k < 5 := by rcases hk1 with rfl | rfl | rfl <;> omega
        have hki := kind_idx hk0
        unfold kindL wFail wDelay wSucc at hki
        have hkl := kindW_len k
        rw [hk2, notice_id_eq (by omega) (by omega)]
        simp only [cond_false, Option.bind_some]
        have e60 : decide ((60 : Int) < ((idN m.Envelope.Id k).length : Int)) = decide (57 < m.Envelope.Id.length) := by rw [idN_len (by omega), Bool.eq_iff_iff]; simp; omega
        rw [e60]
        cases h7 : decide (57 < m.Envelope.Id.length) with
        | true => rfl
        | false =>
          simp only [cond_false, notice_told_eq l h3, Option.bind_some]
          cases ht : (toldF l).Code != 0 with
          | true => rfl
          | false =>
            obtain ⟨ht1, ht2⟩ := toldF_ok (l := l) (by simpa using ht)
            simp only [cond_false]
            rcases whenP_cases now with ⟨w1, _, d, f, w2, w3⟩ | ⟨w, D, mo, y, hh, mi, s, b1, b2, b3, b4, b5, b6, b7, b8, b9, w1, _, d, w2, w3⟩
            · rw [w1, w2]
              simp only [Option.bind_some, w3]
              rfl
            · rw [w1, w2]
              generalize hX : dateT w D mo y hh mi s = X at *
              have hFl := h1.1
              have hdl := domOf_len m.Envelope.From
              simp only [Option.bind_some, bne_self_eq_false, cond_false, w3]
              rw [envelope_Split_eq _ (by omega)]
              simp only [Option.bind_some, splitP_dom, notice_kinds, hki, notice_about_eq hk1 (show m.Envelope.Id.length ≤ 1048576 by omega) hid, notice_body_eq l ht1]
              rw [cat_ok (by simp; omega)]
              simp only [Option.bind_some]
              rw [cat_ok (by simp; omega)]
              rfl
end Go.Proofs.YtpclhpncmlbccaaGreatDoor

/- Notices: reading; what is made is read. -/
namespace Go.Proofs.YtpclhpncmlbccaaGreatDoor
open Go.RowKit
set_option linter.unusedVariables false
set_option maxHeartbeats 1000000

theorem slIdx_eq (l : List Str) (s : Str) (hl : l.length ≤ 1048576) : slices_Index_string_string l s = some ((firstI (fun i x => if x == s then some ((i : Nat) : Int) else none) 0 l).getD (-1)) := by
  unfold slices_Index_string_string
  rw [iter_first l (fun i x => if x == s then some ((i : Nat) : Int) else none) (.inl ()) .inr]
  · simp only [Option.bind_some, elim_idx]
  · unfold slices_Index_string_string_l1; rw [dec_len]; rfl
  · intro i x hx
    have hi := lt_get hx
    unfold slices_Index_string_string_l1
    rw [dec_lt hx, idx_get hx]
    have e : (s == x) = (x == s) := by rw [Bool.eq_iff_iff]; simp; exact ⟨fun h => h.symm, fun h => h.symm⟩
    simp only [cond_true, Option.bind_some, sc i (by omega), e]
    cases x == s <;> rfl
def kindI (w : Str) : Int := if [] = w then 0 else if wFail = w then 1 else if wDelay = w then 2 else if wSucc = w then 4 else -1
def resI (w : Str) : Int := if [] = w then 0 else if [115, 101, 110, 116] = w then 1 else if [108, 97, 116, 101, 114] = w then 2 else if [102, 97, 105, 108, 101, 100] = w then 3 else -1
theorem kindI_eq (w : Str) : (firstI (fun i x => if x == w then some ((i : Nat) : Int) else none) 0 kindL).getD (-1) = kindI w := by
  unfold kindL kindI
  by_cases h0 : ([] : Str) = w
  · rw [if_pos h0]; subst h0; rfl
  rw [if_neg h0]
  by_cases h1 : wFail = w
  · rw [if_pos h1]; subst h1; rfl
  rw [if_neg h1]
  by_cases h2 : wDelay = w
  · rw [if_pos h2]; subst h2; rfl
  rw [if_neg h2]
  by_cases h4 : wSucc = w
  · rw [if_pos h4]; subst h4; rfl
  rw [if_neg h4]
  have h0' : w ≠ [] := fun e => h0 e.symm
  simp [firstI, h0, h0', h1, h2, h4]
theorem resI_eq (w : Str) : (firstI (fun i x => if x == w then some ((i : Nat) : Int) else none) 0 resL).getD (-1) = resI w := by
  unfold resL resI
  by_cases h0 : ([] : Str) = w
  · rw [if_pos h0]; subst h0; rfl
  rw [if_neg h0]
  by_cases h1 : ([115, 101, 110, 116] : Str) = w
  · rw [if_pos h1]; subst h1; rfl
  rw [if_neg h1]
  by_cases h2 : ([108, 97, 116, 101, 114] : Str) = w
  · rw [if_pos h2]; subst h2; rfl
  rw [if_neg h2]
  by_cases h4 : ([102, 97, 105, 108, 101, 100] : Str) = w
  · rw [if_pos h4]; subst h4; rfl
  rw [if_neg h4]
  have h0' : w ≠ [] := fun e => h0 e.symm
  simp [firstI, h0, h0', h1, h2, h4]
theorem kindI_small (w : Str) : kindI w < 5 := by
  unfold kindI
  repeat' split
  all_goals decide
theorem kindI_kindW {k : Int} (h : KindOk k) : kindI (kindW k) = k := by
  rcases h with rfl | rfl | rfl <;> decide
theorem resI_resW {r : Int} (h : 1 ≤ r ∧ r ≤ 3) : resI (resW r) = r := by
  have : r = 1 ∨ r = 2 ∨ r = 3 := by omega
  rcases this with rfl | rfl | rfl <;> decide

/-! ### cuts -/
theorem cut_first {c : UInt8} {t x r : Str} (h : c ∉ x) : Lib.cut (x ++ c :: t ++ r) (c :: t) = (x, r, true) := by
  have hi : Lib.index (x ++ c :: t ++ r) (c :: t) = (x.length : Int) := by
    refine Lib.index_first (by simp) ?_ ?_
    · unfold Lib.occAt
      rw [show (x ++ c :: t ++ r).drop x.length = c :: t ++ r by simp]
      simp
    · intro j hj
      cases ho : Lib.occAt (x ++ c :: t ++ r) (c :: t) j with
      | false => rfl
      | true =>
        exfalso
        have := Lib.occAt_head rfl ho
        rw [List.append_assoc, List.getElem?_append_left hj] at this
        exact h (List.mem_of_getElem? this)
  unfold Lib.cut
  rw [hi, if_pos (by omega)]
  simp
theorem cut_none {c : UInt8} {t x : Str} (h : c ∉ x) : Lib.cut x (c :: t) = (x, [], false) := by
  have hi : Lib.index x (c :: t) = -1 := by
    refine Lib.index_none fun j hj => ?_
    cases ho : Lib.occAt x (c :: t) j with
    | false => rfl
    | true =>
      exfalso
      have := Lib.occAt_head rfl ho
      exact h (List.mem_of_getElem? this)
  unfold Lib.cut
  rw [hi, if_neg (by omega)]
theorem cut_len1 (s p : Str) : (Lib.cut s p).1.length ≤ s.length := by unfold Lib.cut; split <;> simp; omega
theorem cut_len2 (s p : Str) : (Lib.cut s p).2.1.length ≤ s.length := by unfold Lib.cut; split <;> simp
theorem cut_less {s p : Str} (hs : s ≠ []) (hp : 1 ≤ p.length) : (Lib.cut s p).2.1.length < s.length := by
  have : 1 ≤ s.length := by cases s with
    | nil => exact absurd rfl hs
    | cons a b => simp
  unfold Lib.cut
  split
  · simp; omega
  · show 0 < s.length; omega

/-! ### the lines of a notice -/
def lineB (s : Str) (n : Nat) : Bool := !(Lib.cut s [13, 10]).2.2 || !(Lib.cut (Lib.cut s [13, 10]).1 [32]).2.2 || decide (resI (Lib.cut (Lib.cut s [13, 10]).1 [32]).1 < 1) || decide (60 < n)
def lineT (s : Str) : TTold := ⟨(Lib.cut (Lib.cut s [13, 10]).1 [32]).2.1, resI (Lib.cut (Lib.cut s [13, 10]).1 [32]).1⟩
def listP : Nat → Str → List TTold → Option (List TTold)
  | 0, _, _ => none
  | n + 1, s, out => if s = [] then some out else bif lineB s out.length then none else listP n (Lib.cut s [13, 10]).2.1 (out ++ [lineT s])
theorem listP_small : ∀ (n : Nat) (s : Str) (out l : List TTold), listP n s out = some l → s.length ≤ 1048576 → out.length ≤ 61 → (∀ t ∈ out, t.Address.length ≤ 1048576) → l.length ≤ 61 ∧ ∀ t ∈ l, t.Address.length ≤ 1048576
  | 0, s, out, l, h, _, _, _ => by cases h
  | n + 1, s, out, l, h, hs, h1, h2 => by
    unfold listP at h
    split at h
    · cases h; exact ⟨h1, h2⟩
    · cases hb : lineB s out.length with
      | true => rw [hb] at h; cases h
      | false =>
        rw [hb] at h
        have h60 : out.length ≤ 60 := by
          unfold lineB at hb
          simp only [Bool.or_eq_false_iff, decide_eq_false_iff_not] at hb
          omega
        refine listP_small n _ _ l h (Nat.le_trans (cut_len2 _ _) hs) (by simp; omega) fun t ht => ?_
        rcases List.mem_append.1 ht with ht | ht
        · exact h2 t ht
        · obtain rfl := List.mem_singleton.1 ht
          have c1 := cut_len1 s [13, 10]
          have c2 := cut_len2 (Lib.cut s [13, 10]).1 [32]
          show (Lib.cut (Lib.cut s [13, 10]).1 [32]).2.1.length ≤ _
          omega
def resV : Str × Str × Str × Str := ([], [115, 101, 110, 116], [108, 97, 116, 101, 114], [102, 97, 105, 108, 101, 100])
theorem list_loop : ∀ (n : Nat) (s : Str) (out : List TTold), s.length < n → s.length ≤ 1048576 → out.length ≤ 61 →
    iter (notice_list_l1 resV) (s, out) = some (match listP n s out with | some l => .inl l | none => .inr ([], false))
  | 0, s, out, h, _, _ => absurd h (by omega)
  | n + 1, s, out, hn, hs, ho => by
    unfold listP
    by_cases h0 : s = []
    · subst h0
      rw [if_pos rfl]
      exact iter_out rfl
    · have e0 : (s != ([] : Str)) = true := by simpa using h0
      have c1 := cut_len1 s [13, 10]
      have c3 := cut_less (p := [13, 10]) h0 (by decide)
      have hx : slices_Index_string_string ([resV.1, resV.2.1, resV.2.2.1, resV.2.2.2] : List Str) (Lib.cut (Lib.cut s [13, 10]).1 [32]).1 = some (resI (Lib.cut (Lib.cut s [13, 10]).1 [32]).1) := by
        have := slIdx_eq resL (Lib.cut (Lib.cut s [13, 10]).1 [32]).1 (by decide)
        rw [resI_eq] at this
        exact this
      have e60 : decide ((60 : Int) < (out.length : Int)) = decide (60 < out.length) := by rw [Bool.eq_iff_iff]; simp; omega
      have hb : (bif (!(Lib.cut s [13, 10]).2.2) then some true else (bif (!(Lib.cut (Lib.cut s [13, 10]).1 [32]).2.2) then some true else (bif decide (resI (Lib.cut (Lib.cut s [13, 10]).1 [32]).1 < 1) then some true else some (decide ((60 : Int) < (out.length : Int)))))) = some (lineB s out.length) := by
        unfold lineB
        rw [e60]
        cases (Lib.cut s [13, 10]).2.2 <;> cases (Lib.cut (Lib.cut s [13, 10]).1 [32]).2.2 <;> cases decide (resI (Lib.cut (Lib.cut s [13, 10]).1 [32]).1 < 1) <;> rfl
      have hbody : notice_list_l1 resV (s, out) = (bif lineB s out.length then some (.out (.inr (([], false)))) else (app 5864062014805 out [lineT s]).bind fun v21 => some (.cont ((Lib.cut s [13, 10]).2.1, v21))) := by
        unfold notice_list_l1
        dsimp only
        rw [e0]
        unfold strings_Cut
        rw [if_pos (by omega)]
        simp only [cond_true, Option.bind_some]
        rw [if_pos (by omega)]
        simp only [Option.bind_some, hx]
        rw [hb]
        rfl
      rw [if_neg h0]
      cases hc : lineB s out.length with
      | true => rw [hc] at hbody; exact iter_out hbody
      | false =>
        have h60 : out.length ≤ 60 := by
          unfold lineB at hc
          simp only [Bool.or_eq_false_iff, decide_eq_false_iff_not] at hc
          omega
        rw [hc, app_ok (by simp; omega)] at hbody
        rw [iter_cont hbody]
        exact list_loop n _ _ (by omega) (by omega) (by simp; omega)
theorem notice_list_eq (s : Str) (hs : s.length ≤ 1048576) : notice_list s = some (match listP (s.length + 1) s [] with | some l => (l, !((toldF l).Code != 0)) | none => ([], false)) := by
  have := list_loop (s.length + 1) s [] (by omega) hs (by simp)
  unfold notice_list notice_results
  simp only [Option.bind_some]
  have this' : iter (notice_list_l1 (([] : Str), ([115, 101, 110, 116] : Str), ([108, 97, 116, 101, 114] : Str), ([102, 97, 105, 108, 101, 100] : Str))) (s, ([] : List TTold)) = _ := this
  rw [this']
  cases hl : listP (s.length + 1) s [] with
  | none => rfl
  | some l =>
    obtain ⟨l1, l2⟩ := listP_small _ _ _ _ hl hs (by simp) (fun t ht => by cases ht)
    simp only [Option.bind_some, Sum.elim_inl, notice_told_eq l ⟨by omega, l2⟩, basic_Failed_eq]

/-! ### reading -/
def noN : TNotice := ⟨0, [], []⟩
def headB (v : Str) : Bool := decide (kindI (Lib.cut v [32]).1 < 1) || (Lib.cut v [32]).1 == ([] : Str) || ((Lib.cut v [32]).2.2 && !nameP (Lib.cut v [32]).2.1) || decide (60 < (idN (Lib.cut v [32]).2.1 (kindI (Lib.cut v [32]).1)).length)
def readN (m : TMessage) : TNotice × Bool :=
  match getP m.Fields fNote with
  | [] => (noN, false)
  | v :: _ => bif headB v then (noN, false) else match listP (m.Body.length + 1) m.Body [] with
    | some l => bif (toldF l).Code != 0 then (noN, false) else (⟨kindI (Lib.cut v [32]).1, (Lib.cut v [32]).2.1, l⟩, true)
    | none => (noN, false)
theorem getP_val {l : List TField} {n : Str} {v : Str} (h : v ∈ getP l n) : ∃ f ∈ l, f.Value = v := by
  unfold getP at h
  obtain ⟨f, hf, rfl⟩ := List.mem_map.1 h
  exact ⟨f, (List.mem_filter.1 hf).1, rfl⟩
theorem notice_Read_eq (m : TMessage) (hm : smallM m) : notice_Read m = some (bif (msgF m).Code != 0 then (noN, false, msgF m) else ((readN m).1, (readN m).2, ⟨0, 0⟩)) := by
  unfold notice_Read
  rw [message_Validate_eq m hm]
  simp only [Option.bind_some, basic_Failed_eq, basic_None_eq]
  cases hc : (msgF m).Code != 0 with
  | true => rfl
  | false =>
    have hc0 : (msgF m).Code = 0 := by simpa using hc
    have hg : header_Get m.Fields ([88, 45, 78, 111, 116, 105, 99, 101] : Str) = some (getP m.Fields fNote, ⟨0, 0⟩) := by
      rw [header_Get_eq _ _ hm.1 (by decide)]
      have h1 : ((headF m.Fields).Code != 0) = false := by simp [msgF_head hc0]
      have h2 : fnP ([88, 45, 78, 111, 116, 105, 99, 101] : Str) = true := by decide
      rw [h1, h2]
      rfl
    simp only [cond_false, hg, Option.bind_some]
    unfold readN
    cases hv : getP m.Fields fNote with
    | nil => rfl
    | cons v r =>
      obtain ⟨f, hf, hfv⟩ := getP_val (n := fNote) (l := m.Fields) (v := v) (by rw [hv]; simp)
      have hvl : v.length ≤ 1048576 := by have := (hm.1.2 f hf).2; rw [hfv] at this; exact this
      have e0 : (((v :: r).length : Int) == 0) = false := by rw [beq_eq_false_iff_ne]; simp; omega
      have ei : idx (v :: r) 0 = some v := rfl
      have c1 := cut_len2 v [32]
      have hx : slices_Index_string_string (([([] : Str), ([102, 97, 105, 108, 117, 114, 101] : Str), ([100, 101, 108, 97, 121] : Str), ([] : Str), ([115, 117, 99, 99, 101, 115, 115] : Str)] : List Str)) (Lib.cut v [32]).1 = some (kindI (Lib.cut v [32]).1) := by
        have := slIdx_eq kindL (Lib.cut v [32]).1 (by decide)
        rw [kindI_eq] at this
        exact this
      have hk5 := kindI_small (Lib.cut v [32]).1
      have hb : (bif decide (kindI (Lib.cut v [32]).1 < 1) then some true else (bif ((Lib.cut v [32]).1 == ([] : Str)) then some true else (bif (Lib.cut v [32]).2.2 then (basic_Name (Lib.cut v [32]).2.1).bind fun v23 => (bif (!v23) then some true else (notice_id (Lib.cut v [32]).2.1 (kindI (Lib.cut v [32]).1)).bind fun v26 => some (decide ((60 : Int) < (v26.length : Int)))) else (notice_id (Lib.cut v [32]).2.1 (kindI (Lib.cut v [32]).1)).bind fun v28 => some (decide ((60 : Int) < (v28.length : Int)))))) = some (headB v) := by
        unfold headB
        by_cases h1 : kindI (Lib.cut v [32]).1 < 1
        · rw [decide_eq_true h1]; rfl
        · rw [decide_eq_false h1, basic_Name_eq _ (by omega), notice_id_eq (by omega) (by omega)]
          have e60 : decide ((60 : Int) < ((idN (Lib.cut v [32]).2.1 (kindI (Lib.cut v [32]).1)).length : Int)) = decide (60 < (idN (Lib.cut v [32]).2.1 (kindI (Lib.cut v [32]).1)).length) := by rw [Bool.eq_iff_iff]; simp; omega
          simp only [Option.bind_some, e60]
          cases ((Lib.cut v [32]).1 == ([] : Str)) <;> cases (Lib.cut v [32]).2.2 <;> cases nameP (Lib.cut v [32]).2.1 <;> rfl
      have hs : strings_Cut v [32] = some (Lib.cut v [32]) := by unfold strings_Cut; rw [if_pos (by omega)]
      rw [e0, ei]
      simp only [cond_false, Option.bind_some, hs, notice_kinds, hx]
      rw [hb]
      simp only [Option.bind_some]
      cases hh : headB v with
      | true => rfl
      | false =>
        simp only [cond_false, notice_list_eq m.Body hm.2, Option.bind_some]
        cases listP (m.Body.length + 1) m.Body [] with
        | none => rfl
        | some l => dsimp only; cases (toldF l).Code != 0 <;> rfl

/-! ### what is made is read -/
theorem good_or {c : UInt8} (h : goodC c = true ∨ c = 64) : c ≠ 13 ∧ c ≠ 10 ∧ c ≠ 0 ∧ c ≠ 32 ∧ c ≠ 9 := by
  refine ⟨?_, ?_, ?_, ?_, ?_⟩ <;> rintro rfl <;> exact absurd h (by decide)
theorem small_good {c : UInt8} (h : smallC c = true) : goodC c = true := by
  unfold smallC at h
  unfold goodC lettC
  simp only [Bool.or_eq_true] at h ⊢
  rcases h with ((h | h) | h) | h
  · exact .inl (.inl (.inl (.inl (.inl (.inl (.inl h))))))
  · exact .inl (.inl (.inl (.inl (.inl (.inr h)))))
  · exact .inl (.inl (.inl (.inl (.inr h))))
  · exact .inl (.inl (.inr h))
theorem dom_chars {a : Str} (h : domP a = true) {c : UInt8} (hc : c ∈ a) : goodC c = true ∨ c = 64 := by
  unfold domP at h
  simp only [Bool.and_eq_true, List.all_eq_true] at h
  exact .inl (small_good (h.1.2 c hc))
theorem addr_chars {a : Str} (h : addrP a = true) {c : UInt8} (hc : c ∈ a) : goodC c = true ∨ c = 64 := by
  unfold addrP at h
  simp only [Bool.and_eq_true, decide_eq_true_eq, List.all_eq_true] at h
  obtain ⟨⟨⟨⟨h1, h2⟩, h3⟩, h4⟩, h5⟩ := h
  have hs : a = a.take (atP a) ++ 64 :: a.drop (atP a + 1) := by
    have hx : a[atP a] = 64 := by
      have := List.findIdx_getElem (p := (· == (64 : UInt8))) (xs := a) (w := h1)
      exact eq_of_beq this
    conv => lhs; rw [← List.take_append_drop (atP a) a]
    rw [List.drop_eq_getElem_cons h1, hx]
  rw [hs] at hc
  rcases List.mem_append.1 hc with hc | hc
  · exact .inl (h4 c hc)
  · rcases List.mem_cons.1 hc with rfl | hc
    · exact .inr rfl
    · exact dom_chars h5 hc
theorem name_chars {a : Str} (h : nameP a = true) {c : UInt8} (hc : c ∈ a) : goodC c = true ∨ c = 64 := by
  unfold nameP at h
  simp only [Bool.and_eq_true, List.all_eq_true] at h
  have := h.2 c hc
  unfold nameC at this
  unfold goodC
  left
  simp only [Bool.or_eq_true] at this ⊢
  exact .inl (.inl this)
theorem resW_chars : ∀ r : Fin 4, (13 : UInt8) ∉ resW (r.val : Int) ∧ (32 : UInt8) ∉ resW (r.val : Int) ∧ ∀ c ∈ resW (r.val : Int), c ≠ 10 := by decide
theorem resW_ch {r : Int} (h : 1 ≤ r ∧ r ≤ 3) : (13 : UInt8) ∉ resW r ∧ (32 : UInt8) ∉ resW r ∧ ∀ c ∈ resW r, c ≠ 10 := by
  have := resW_chars ⟨r.toNat, by omega⟩
  rw [show (((⟨r.toNat, by omega⟩ : Fin 4).val : Nat) : Int) = r by show ((r.toNat : Nat) : Int) = r; omega] at this
  exact this
theorem kindW_ch {k : Int} (h : KindOk k) : (32 : UInt8) ∉ kindW k := by rcases h with rfl | rfl | rfl <;> decide
theorem listP_body : ∀ (l : List TTold) (n : Nat) (out : List TTold), (bodyN l).length < n → out.length + l.length ≤ 60 → (∀ t ∈ l, addrP t.Address = true ∧ 1 ≤ t.Result ∧ t.Result ≤ 3) → listP n (bodyN l) out = some (out ++ l)
  | _, 0, _, h, _, _ => absurd h (by omega)
  | [], n + 1, out, _, _, _ => by unfold listP bodyN; simp
  | t :: l, n + 1, out, hn, hl, h => by
    have ht := h t (by simp)
    obtain ⟨r1, r2, r3⟩ := resW_ch ht.2
    have hb : bodyN (t :: l) = (resW t.Result ++ [32] ++ t.Address) ++ 13 :: [10] ++ bodyN l := by
      unfold bodyN
      simp only [List.map_cons, List.flatten_cons, tellT, List.append_assoc, List.cons_append, List.nil_append]
    have h13 : (13 : UInt8) ∉ resW t.Result ++ [32] ++ t.Address := by
      intro hx
      rcases List.mem_append.1 hx with hx | hx
      · rcases List.mem_append.1 hx with hx | hx
        · exact r1 hx
        · exact absurd (List.mem_singleton.1 hx) (by decide)
      · exact (good_or (addr_chars ht.1 hx)).1 rfl
    have hc1 : Lib.cut (bodyN (t :: l)) [13, 10] = (resW t.Result ++ [32] ++ t.Address, bodyN l, true) := by rw [hb]; exact cut_first h13
    have hc2 : Lib.cut (resW t.Result ++ [32] ++ t.Address) [32] = (resW t.Result, t.Address, true) := cut_first r2
    have hne : bodyN (t :: l) ≠ [] := by rw [hb]; simp
    have hlb : lineB (bodyN (t :: l)) out.length = false := by
      unfold lineB
      rw [hc1, hc2]
      simp only [List.length_cons] at hl
      rw [resI_resW ht.2, decide_eq_false (show ¬ t.Result < 1 by omega), decide_eq_false (show ¬ 60 < out.length by omega)]
      rfl
    have hlt : lineT (bodyN (t :: l)) = t := by
      unfold lineT
      rw [hc1, hc2, resI_resW ht.2]
    have hll : (bodyN l).length < (bodyN (t :: l)).length := by rw [hb]; simp; omega
    unfold listP
    rw [if_neg hne, hlb, hc1, hlt]
    simp only [cond_false]
    rw [listP_body l n _ (by omega) (by simp only [List.length_append, List.length_cons, List.length_nil] at hl ⊢; omega) fun x hx => h x (by simp [hx])]
    simp
theorem get_note (e : TEnvelope) (k : Int) (l : List TTold) (x : Str) : getP (noteMsg e k l x).Fields fNote = [aboutN e.Id k] := by
  have s1 : sameP fFrom fNote = false := by decide +kernel
  have s2 : sameP fTo fNote = false := by decide +kernel
  have s3 : sameP fSubj fNote = false := by decide +kernel
  have s4 : sameP fDate fNote = false := by decide +kernel
  have s5 : sameP fNote fNote = true := by decide +kernel
  unfold noteMsg getP
  simp [List.filter_cons, s1, s2, s3, s4, s5]
theorem cut_about {of : Str} {k : Int} (hk : KindOk k) : (Lib.cut (aboutN of k) [32]).1 = kindW k ∧ (Lib.cut (aboutN of k) [32]).2.1 = of ∧ ((Lib.cut (aboutN of k) [32]).2.2 = true → of ≠ []) := by
  unfold aboutN
  by_cases h : of = []
  · subst h
    rw [if_pos rfl, cut_none (kindW_ch hk)]
    exact ⟨rfl, rfl, fun h => by cases h⟩
  · rw [if_neg h, show kindW k ++ [32] ++ of = kindW k ++ 32 :: [] ++ of by simp, cut_first (kindW_ch hk)]
    exact ⟨rfl, rfl, fun _ => h⟩
theorem head_about {of : Str} {k : Int} (hk : KindOk k) (hid : of = [] ∨ nameP of = true) (h57 : of.length ≤ 57) : headB (aboutN of k) = false := by
  obtain ⟨c1, c2, c3⟩ := cut_about (of := of) hk
  have hk0 : 1 ≤ k ∧ k < 10 := by rcases hk with rfl | rfl | rfl <;> omega
  unfold headB
  rw [c1, c2, kindI_kindW hk, idN_len (by omega), decide_eq_false (by omega), decide_eq_false (show ¬ 60 < of.length + 3 by omega), beq_eq_false_iff_ne.2 (kindW_ne hk)]
  cases hx : (Lib.cut (aboutN of k) [32]).2.2 with
  | false => rfl
  | true =>
    rcases hid with h | h
    · exact absurd h (c3 hx)
    · rw [h]; rfl
theorem read_note {e : TEnvelope} {k : Int} {l : List TTold} {x : Str} (hk : KindOk k) (hid : e.Id = [] ∨ nameP e.Id = true) (h57 : e.Id.length ≤ 57) (ht : ToldOk l) : readN (noteMsg e k l x) = (⟨k, e.Id, l⟩, true) := by
  obtain ⟨c1, c2, c3⟩ := cut_about (of := e.Id) hk
  have hb : listP ((noteMsg e k l x).Body.length + 1) (noteMsg e k l x).Body [] = some l := by
    have := listP_body l ((bodyN l).length + 1) [] (by omega) (by have := ht.2.1; simpa using this) ht.2.2
    show listP ((bodyN l).length + 1) (bodyN l) [] = some l
    simpa using this
  unfold readN
  rw [get_note]
  simp only [head_about hk hid h57, cond_false, hb, toldF_of ht, c1, c2, kindI_kindW hk]
  rfl
end Go.Proofs.YtpclhpncmlbccaaGreatDoor

/- The law EnvelopesOfDomainsJoin in plain Lean. -/
namespace Go.Proofs.YtpclhpncmlbccaaGreatDoor
open Go.RowKit
set_option linter.unusedVariables false
set_option maxHeartbeats 1000000

/-! ### domains -/
end Go.Proofs.YtpclhpncmlbccaaGreatDoor

/- Notices: what is made is a valid mail. -/
namespace Go.Proofs.YtpclhpncmlbccaaGreatDoor
open Go.RowKit
set_option linter.unusedVariables false
set_option maxHeartbeats 1000000

theorem valP_of {v : Str} (h : ∀ c ∈ v, endC c = false) (h1 : ∀ c, v.head? = some c → blankC c = false) (h2 : ∀ c, v.getLast? = some c → blankC c = false) : valP v = true := by
  have ha : v.any endC = false := by
    rw [List.any_eq_false]
    intro c hc
    rw [h c hc]
    decide
  unfold valP edgeP
  rw [ha]
  cases hh : v.head? with
  | none => rfl
  | some a =>
    cases hl : v.getLast? with
    | none => rfl
    | some b => dsimp only; rw [h1 a hh, h2 b hl]; rfl
theorem good_end {c : UInt8} (h : goodC c = true ∨ c = 64) : endC c = false ∧ blankC c = false := by
  obtain ⟨h1, h2, h3, h4, h5⟩ := good_or h
  unfold endC blankC
  rw [beq_eq_false_iff_ne.2 h1, beq_eq_false_iff_ne.2 h2, beq_eq_false_iff_ne.2 h3, beq_eq_false_iff_ne.2 h4, beq_eq_false_iff_ne.2 h5]
  exact ⟨rfl, rfl⟩
theorem valP_good {v : Str} (h : ∀ c ∈ v, goodC c = true ∨ c = 64) : valP v = true :=
  valP_of (fun c hc => (good_end (h c hc)).1) (fun c hc => (good_end (h c (List.mem_of_mem_head? hc))).2) (fun c hc => (good_end (h c (List.mem_of_getLast? hc))).2)
theorem mem_flat {L : List Str} {l : Str} (h : l ∈ L) : l.length ≤ L.flatten.length := by
  induction L with
  | nil => cases h
  | cons a L ih =>
    rw [List.flatten_cons, List.length_append]
    rcases List.mem_cons.1 h with rfl | h
    · omega
    · have := ih h; omega
theorem fl_flat (n v : Str) : (flP n v).flatten.length = n.length + 2 + v.length := by
  unfold flP
  rw [(linesOf_join _ (txt n v) _ (Nat.le_refl _)).1, txt_len]
theorem code_short {n v : Str} (hn : fnP n = true) (hv : valP v = true) (hl : n.length + 2 + v.length ≤ 998) : codeP ⟨n, v⟩ = 0 := by
  have hb : longB (flP n v) = false := by
    unfold longB
    rw [List.any_eq_false]
    intro l h
    have := mem_flat h
    rw [fl_flat] at this
    simp
    omega
  rw [codeP_eq]
  unfold codeQ
  dsimp only
  rw [hn, hv, hb, if_neg (show ¬ 4000 < v.length by omega)]
  rfl
theorem addL_len (L : List Str) : ∀ a : List UInt8, (L.foldl addL a).length = a.length + L.flatten.length + 2 * L.length := by
  induction L with
  | nil => intro a; simp
  | cons l L ih => intro a; rw [List.foldl_cons, ih]; unfold addL; simp; omega
theorem addF_len (a : List UInt8) (f : TField) : (addF a f).length ≤ a.length + 3 * (f.Name.length + f.Value.length) + 8 := by
  unfold addF
  rw [addL_len, fl_flat]
  have := fl_len f.Name f.Value
  omega

/-! ### bodies of lines -/
theorem bodyP_line : ∀ (t : Str) (c : Nat) (r : Str), (∀ x ∈ t, x ≠ 13 ∧ x ≠ 10) → c + t.length ≤ 998 → bodyP c (t ++ 13 :: 10 :: r) = bodyP 0 r
  | [], c, r, _, _ => by simp [bodyP]
  | x :: t, c, r, h, hl => by
    have hx := h x (by simp)
    have ih := bodyP_line t (c + 1) r (fun y hy => h y (by simp [hy])) (by simp at hl; omega)
    obtain ⟨y, r', hy⟩ : ∃ y r', t ++ 13 :: 10 :: r = y :: r' := by cases t with
      | nil => exact ⟨_, _, rfl⟩
      | cons a b => exact ⟨_, _, rfl⟩
    rw [List.cons_append, hy]
    rw [hy] at ih
    conv => lhs; unfold bodyP
    rw [beq_eq_false_iff_ne.2 hx.1, beq_eq_false_iff_ne.2 hx.2, if_neg (show ¬ 998 < c + 1 by simp at hl; omega)]
    simpa using ih
theorem bodyN_cons (t : TTold) (l : List TTold) : bodyN (t :: l) = (resW t.Result ++ [32] ++ t.Address) ++ 13 :: 10 :: bodyN l := by
  unfold bodyN
  simp only [List.map_cons, List.flatten_cons, tellT, List.append_assoc, List.cons_append, List.nil_append]
theorem bodyN_valid : ∀ l : List TTold, (∀ t ∈ l, addrP t.Address = true ∧ 1 ≤ t.Result ∧ t.Result ≤ 3) → bodyP 0 (bodyN l) = none
  | [], _ => rfl
  | t :: l, h => by
    have ht := h t (by simp)
    obtain ⟨r1, r2, r3⟩ := resW_ch ht.2
    have h7 := addr_len' ht.1
    have h8 := (res_idx (r := t.Result) (by omega)).2
    rw [bodyN_cons, bodyP_line _ 0 _ ?_ (by simp; omega)]
    · exact bodyN_valid l fun x hx => h x (by simp [hx])
    · intro x hx
      rcases List.mem_append.1 hx with hx | hx
      · rcases List.mem_append.1 hx with hx | hx
        · exact ⟨fun e => r1 (e ▸ hx), r3 x hx⟩
        · rw [List.mem_singleton.1 hx]; decide
      · exact ⟨(good_or (addr_chars ht.1 hx)).1, (good_or (addr_chars ht.1 hx)).2.1⟩

/-! ### the text of a date is a value -/
theorem wdT_ch : ∀ w : Fin 7, (wdT w.val).all (fun c => !endC c) = true ∧ (wdT w.val).head?.map blankC = some false := by decide
theorem moT_ch : ∀ m : Fin 12, (moT m.val).all (fun c => !endC c) = true := by decide
theorem dig_end {c : UInt8} (h : 48 ≤ c.toNat ∧ c.toNat ≤ 57) : endC c = false := by
  have hne : ∀ k : UInt8, k.toNat < 48 → c ≠ k := by rintro k hk rfl; omega
  unfold endC
  rw [beq_eq_false_iff_ne.2 (hne 13 (by decide)), beq_eq_false_iff_ne.2 (hne 10 (by decide)), beq_eq_false_iff_ne.2 (hne 0 (by decide))]
  rfl
theorem decD_dig : ∀ (k u : Nat), u < 10 ^ (k + 1) → ∀ c ∈ Lib.decDigits u, 48 ≤ c.toNat ∧ c.toNat ≤ 57
  | k, u, hu, c, hc => by
    by_cases h : u < 10
    · rw [decD_small h] at hc
      rw [List.mem_singleton.1 hc]
      have : (UInt8.ofNat (48 + u)).toNat = 48 + u := by simp; omega
      omega
    · rw [decD_big h] at hc
      cases k with
      | zero => exact absurd (by simpa using hu) h
      | succ k =>
        rcases List.mem_append.1 hc with hc | hc
        · exact decD_dig k (u / 10) (by rw [Nat.pow_succ] at hu; omega) c hc
        · rw [decD_small (by omega)] at hc
          rw [List.mem_singleton.1 hc]
          have : (UInt8.ofNat (48 + u % 10)).toNat = 48 + u % 10 := by simp; omega
          omega
theorem padD_end {u k : Nat} (hu : u < 10 ^ 10) : ∀ c ∈ padD u k, endC c = false := by
  intro c hc
  unfold padD at hc
  rcases List.mem_append.1 hc with hc | hc
  · rw [(List.mem_replicate.1 hc).2]; decide
  · exact dig_end (decD_dig 9 u hu c hc)
theorem dateT_val {w D m y h mi s : Nat} (b1 : w < 7) (b3 : D ≤ 31) (b4 : m < 12) (b6 : y ≤ 4000) (b7 : h < 24) (b8 : mi < 60) (b9 : s < 60) : valP (dateT w D m y h mi s) = true := by
  have hw := wdT_ch ⟨w, b1⟩
  have hm := moT_ch ⟨m, b4⟩
  dsimp only at hw hm
  obtain ⟨hw1, hw2⟩ := hw
  simp only [List.all_eq_true, Bool.not_eq_true'] at hw1 hm
  refine valP_of ?_ ?_ ?_
  · intro c hc
    unfold dateT at hc
    simp only [List.mem_append] at hc
    have lit : ∀ l : Str, l.all (fun c => !endC c) = true → c ∈ l → endC c = false := fun l hl hc => by
      have := List.all_eq_true.1 hl c hc
      simpa using this
    rcases hc with ((((((((((((hc | hc) | hc) | hc) | hc) | hc) | hc) | hc) | hc) | hc) | hc) | hc) | hc) | hc
    · exact hw1 c hc
    · exact lit _ (by decide) hc
    · exact padD_end (by omega) c hc
    · exact lit _ (by decide) hc
    · exact hm c hc
    · exact lit _ (by decide) hc
    · exact padD_end (by omega) c hc
    · exact lit _ (by decide) hc
    · exact padD_end (by omega) c hc
    · exact lit _ (by decide) hc
    · exact padD_end (by omega) c hc
    · exact lit _ (by decide) hc
    · exact padD_end (by omega) c hc
    · exact lit _ (by decide) hc
  · intro c hc
    unfold dateT at hc
    cases hw0 : wdT w with
    | nil => rw [hw0] at hw2; cases hw2
    | cons a r =>
      rw [hw0] at hw2 hc
      have : a = c := by simpa using hc
      subst this
      simpa using hw2
  · intro c hc
    unfold dateT at hc
    rw [List.getLast?_append] at hc
    have : (48 : UInt8) = c := by simpa using hc
    subst this
    decide
theorem whenP_val {t : Int} {x : Str} (h : whenP t = some x) : valP x = true := by
  rcases whenP_cases t with ⟨h1, _⟩ | ⟨w, D, m, y, hh, mi, s, b1, b2, b3, b4, b5, b6, b7, b8, b9, h1, _⟩
  · rw [h] at h1; cases h1
  · rw [h] at h1
    cases h1
    exact dateT_val b1 b3 b4 b6 b7 b8 b9

/-! ### the mail that is made -/
theorem envF_from {e : TEnvelope} (h : (envF e).Code = 0) (hf : e.From ≠ []) : addrP e.From = true := by
  unfold envF at h
  split at h
  · exact absurd h (by decide)
  · rename_i hc
    unfold fromB at hc
    have : (e.From != ([] : Str)) = true := by simpa using hf
    rw [this] at hc
    simpa using hc
theorem about_val {of : Str} {k : Int} (h : KindOk k) (hid : of = [] ∨ nameP of = true) : valP (aboutN of k) = true := by
  have hkl : valP (kindW k) = true := by rcases h with rfl | rfl | rfl <;> decide
  have hke : ∀ c ∈ kindW k, endC c = false := by rcases h with rfl | rfl | rfl <;> decide
  have hkh : (kindW k).head?.map blankC = some false := by rcases h with rfl | rfl | rfl <;> decide
  unfold aboutN
  by_cases h0 : of = []
  · rw [if_pos h0]; exact hkl
  · rw [if_neg h0]
    have hn : nameP of = true := by exact hid.resolve_left h0
    refine valP_of ?_ ?_ ?_
    · intro c hc
      rcases List.mem_append.1 hc with hc | hc
      · rcases List.mem_append.1 hc with hc | hc
        · exact hke c hc
        · rw [List.mem_singleton.1 hc]; decide
      · exact (good_end (name_chars hn hc)).1
    · intro c hc
      cases hk : kindW k with
      | nil => rw [hk] at hkh; cases hkh
      | cons a r =>
        rw [hk] at hkh hc
        have : a = c := by simpa using hc
        subst this
        simpa using hkh
    · intro c hc
      rw [List.getLast?_append] at hc
      cases hl : of.getLast? with
      | none => simp at hl; exact absurd hl h0
      | some b =>
        rw [hl] at hc
        have : b = c := by simpa using hc
        subst this
        exact (good_end (name_chars hn (List.mem_of_getLast? hl))).2
theorem subj_val {k : Int} (h : KindOk k) : valP ([68, 101, 108, 105, 118, 101, 114, 121, 58, 32] ++ kindW k) = true := by rcases h with rfl | rfl | rfl <;> decide
theorem about_len {of : Str} {k : Int} (h57 : of.length ≤ 57) : (aboutN of k).length ≤ 65 := by
  have := kindW_len k
  unfold aboutN
  split
  · omega
  · simp; omega
theorem dom_len60 {a : Str} (h : addrP a = true) : (domOf a).length ≤ 60 ∧ ∀ c ∈ domOf a, goodC c = true ∨ c = 64 := by
  have hd := domOf_len a
  unfold addrP at h
  simp only [Bool.and_eq_true, decide_eq_true_eq] at h
  unfold domOf
  rw [if_pos h.1.1.1.1]
  refine ⟨?_, fun c hc => dom_chars h.2 hc⟩
  have := h.2
  unfold domP at this
  simp only [Bool.and_eq_true, decide_eq_true_eq] at this
  exact this.1.1
theorem post_val {a : Str} (h : addrP a = true) : valP ([112, 111, 115, 116, 109, 97, 115, 116, 101, 114, 64] ++ domOf a) = true := by
  refine valP_good fun c hc => ?_
  rcases List.mem_append.1 hc with hc | hc
  · have : ∀ c ∈ ([112, 111, 115, 116, 109, 97, 115, 116, 101, 114, 64] : Str), goodC c = true ∨ c = 64 := by decide
    exact this c hc
  · exact (dom_len60 h).2 c hc
structure NoteIn (m : TMail) (k : Int) (l : List TTold) (x : Str) : Prop where
  mail : (mailF m).Code = 0
  frm : m.Envelope.From ≠ []
  kind : KindOk k
  id57 : m.Envelope.Id.length ≤ 57
  told : ToldOk l
  len : x.length = 31
  val : valP x = true
theorem NoteIn.idn {m : TMail} {k : Int} {l : List TTold} {x : Str} (h : NoteIn m k l x) : m.Envelope.Id = [] ∨ nameP m.Envelope.Id = true := envF_id (mailF_parts h.mail).1
theorem NoteIn.addr {m : TMail} {k : Int} {l : List TTold} {x : Str} (h : NoteIn m k l x) : addrP m.Envelope.From = true := envF_from (mailF_parts h.mail).1 h.frm
theorem make_in {m : TMail} {k : Int} {l : List TTold} {now : Int} (h : (makeP m k l now).2.Code = 0) : ∃ x, whenP now = some x ∧ makeP m k l now = (noteM m.Envelope k l x, ⟨0, 0⟩) ∧ NoteIn m k l x := by
  unfold makeP at h ⊢
  cases hc : (mailF m).Code != 0 with
  | true => rw [hc] at h; simp only [cond_true] at h; rw [h] at hc; cases hc
  | false =>
    rw [hc] at h
    cases hf : m.Envelope.From == ([] : Str) with
    | true => rw [hf] at h; have h9 : (8 : Int) = 0 := h; exact absurd h9 (by omega)
    | false =>
      rw [hf] at h
      cases hk : kindW k == ([] : Str) with
      | true => rw [hk] at h; have h9 : (4 : Int) = 0 := h; exact absurd h9 (by omega)
      | false =>
        rw [hk] at h
        cases h7 : decide (57 < m.Envelope.Id.length) with
        | true => rw [h7] at h; have h9 : (1 : Int) = 0 := h; exact absurd h9 (by omega)
        | false =>
          rw [h7] at h
          cases ht : (toldF l).Code != 0 with
          | true => rw [ht] at h; simp only [cond_false, cond_true] at h; rw [h] at ht; cases ht
          | false =>
            rw [ht] at h
            simp only [cond_false] at h ⊢
            cases hw : whenP now with
            | none => rw [hw] at h; have h9 : (3 : Int) = 0 := h; exact absurd h9 (by omega)
            | some x =>
              refine ⟨x, rfl, rfl, by simpa using hc, by simpa using hf, kindW_ok (by simpa using hk), by simpa using h7, (toldF_ok (by simpa using ht)).1, whenP_len hw, whenP_val hw⟩
theorem note_fields {m : TMail} {k : Int} {l : List TTold} {x : Str} (h : NoteIn m k l x) : ∀ f ∈ (noteMsg m.Envelope k l x).Fields, codeP f = 0 ∧ f.Name.length ≤ 8 ∧ f.Value.length ≤ 121 := by
  have h1 := dom_len60 h.addr
  have h2 := addr_len' h.addr
  have h3 := kindW_len k
  have h4 := about_len (of := m.Envelope.Id) (k := k) h.id57
  have h5 := h.len
  have n1 : fnP fFrom = true := by decide
  have n2 : fnP fTo = true := by decide
  have n3 : fnP fSubj = true := by decide
  have n4 : fnP fDate = true := by decide
  have n5 : fnP fNote = true := by decide
  intro f hf
  unfold noteMsg at hf
  simp only [List.mem_cons, List.not_mem_nil, or_false] at hf
  rcases hf with rfl | rfl | rfl | rfl | rfl
  · exact ⟨code_short n1 (post_val h.addr) (by simp [fFrom]; omega), show List.length fFrom ≤ 8 by decide, by simp; omega⟩
  · exact ⟨code_short n2 (valP_good fun c hc => addr_chars h.addr hc) (by simp [fTo]; omega), show List.length fTo ≤ 8 by decide, by simpa using h2⟩
  · exact ⟨code_short n3 (subj_val h.kind) (by simp [fSubj]; omega), show List.length fSubj ≤ 8 by decide, by simp; omega⟩
  · exact ⟨code_short n4 h.val (by simp [fDate]; omega), show List.length fDate ≤ 8 by decide, by simp; omega⟩
  · exact ⟨code_short n5 (about_val h.kind h.idn) (by simp [fNote]; omega), show List.length fNote ≤ 8 by decide, by simp; omega⟩
theorem note_msg {m : TMail} {k : Int} {l : List TTold} {x : Str} (h : NoteIn m k l x) : msgF (noteMsg m.Envelope k l x) = ⟨0, 0⟩ := by
  have hf := note_fields h
  have hq : firstI fieldQ 0 (noteMsg m.Envelope k l x).Fields = none := firstI_none.2 fun i f hif => by
    have := (hf f (List.mem_of_getElem? hif)).1
    unfold fieldQ
    rw [this]
    rfl
  have hh : headF (noteMsg m.Envelope k l x).Fields = ⟨0, 0⟩ := by
    unfold headF
    rw [hq, if_neg (by show ¬ 60 < 5; omega)]
    rfl
  have hb := bodyN_len h.told.2.2
  have h60 := h.told.2.1
  have hlen : (bytesP (noteMsg m.Envelope k l x)).length ≤ 12000 := by
    unfold bytesP
    have key : ∀ (L : List TField) (a : List UInt8), (∀ f ∈ L, f.Name.length ≤ 8 ∧ f.Value.length ≤ 121) → (L.foldl addF a).length ≤ a.length + 395 * L.length := by
      intro L
      induction L with
      | nil => intro a _; simp
      | cons f L ih =>
        intro a hL
        have h1 := hL f (by simp)
        have h2 := addF_len a f
        have h3 := ih (addF a f) fun g hg => hL g (by simp [hg])
        rw [List.foldl_cons, List.length_cons]
        omega
    have := key (noteMsg m.Envelope k l x).Fields [] fun f hfm => (hf f hfm).2
    have e5 : (noteMsg m.Envelope k l x).Fields.length = 5 := rfl
    have eb : (noteMsg m.Envelope k l x).Body = bodyN l := rfl
    rw [e5] at this
    rw [eb]
    simp only [List.length_append, List.length_nil, List.length_cons] at this ⊢
    omega
  unfold msgF
  rw [hh, if_neg (by decide), if_neg (by omega)]
  unfold bodyF
  show (bodyP 0 (bodyN l)).elim _ _ = _
  rw [bodyN_valid l h.told.2.2]
  rfl
theorem note_small {m : TMail} {k : Int} {l : List TTold} {x : Str} (h : NoteIn m k l x) {f : Str} (hf : f = [] ∨ addrP f = true) : smallE ⟨f, [⟨m.Envelope.From, 0⟩], idN m.Envelope.Id k⟩ ∧ smallM (noteMsg m.Envelope k l x) := by
  have h1 := addr_len' h.addr
  have h2 : (idN m.Envelope.Id k).length = m.Envelope.Id.length + 3 := idN_len (by rcases h.kind with rfl | rfl | rfl <;> omega)
  have h3 := h.id57
  have hb := bodyN_len h.told.2.2
  have h60 := h.told.2.1
  have hfl : f.length ≤ 1048576 := by
    rcases hf with rfl | hf
    · simp
    · have := addr_len' hf; omega
  refine ⟨⟨hfl, show (idN m.Envelope.Id k).length ≤ _ by omega, by simp, fun a ha => ?_⟩, ⟨by show 5 ≤ _; omega, fun g hg => ?_⟩, ?_⟩
  · obtain rfl := List.mem_singleton.1 ha
    show m.Envelope.From.length ≤ _
    omega
  · have := note_fields h g hg; omega
  · show (bodyN l).length ≤ _
    omega
theorem note_read {m : TMail} {k : Int} {l : List TTold} {x : Str} (h : NoteIn m k l x) : notice_Read (noteMsg m.Envelope k l x) = some (⟨k, m.Envelope.Id, l⟩, true, ⟨0, 0⟩) := by
  rw [notice_Read_eq _ (note_small h (.inl rfl)).2, note_msg h, read_note h.kind h.idn h.id57 h.told]
  rfl
end Go.Proofs.YtpclhpncmlbccaaGreatDoor

/- Trace fields: the closed example of the laws. -/
namespace Go.Proofs.YtpclhpncmlbccaaGreatDoor
open Go.RowKit
set_option linter.unusedVariables false
set_option maxHeartbeats 1000000
def stT0 : Str := [84, 104, 117, 44, 32, 48, 49, 32, 74, 97, 110, 32, 49, 57, 55, 48, 32, 48, 48, 58, 48, 48, 58, 48, 48, 32, 43, 48, 48, 48, 48]
theorem dateT_0 : dateT 4 1 0 1970 0 0 0 = stT0 := by
  have e0 : padD 0 2 = [48, 48] := by unfold padD; rw [decD_small (by omega)]; rfl
  have e1 : padD 1 2 = [48, 49] := by unfold padD; rw [decD_small (by omega)]; rfl
  have e2 : padD 1970 4 = [49, 57, 55, 48] := by
    unfold padD
    rw [decD_big (by omega), decD_big (u := 1970 / 10) (by omega), decD_big (u := 1970 / 10 / 10) (by omega), decD_small (u := 1970 / 10 / 10 / 10) (by omega), decD_small (u := 1970 / 10 / 10 % 10) (by omega), decD_small (u := 1970 / 10 % 10) (by omega), decD_small (u := 1970 % 10) (by omega)]
    rfl
  unfold dateT
  rw [e0, e1, e2]
  rfl
theorem whenP_0 : whenP 0 = some stT0 := by
  rcases R_When_in 0 (by omega) (by omega) with ⟨_, h⟩ | ⟨Y, M, g, hY1, hY2, hM, hN, hd, hw⟩
  · exfalso; omega
  · have hn := domI_nn Y M
    have hm12 := domI_mono Y (show M + 1 ≤ 12 by omega)
    have hys := befI_succ Y
    rw [domI_12] at hm12
    have e70 : befI 1971 = 719527 := by decide
    have hY : Y = 1970 := year_unique (n := 719162) ⟨by omega, by omega⟩ ⟨by rw [befI_1970]; omega, by show (719162 : Int) < befI 1971; rw [e70]; omega⟩
    subst hY
    rw [befI_1970] at hN
    have hg : g = 0 := by omega
    subst hg
    have hM0 : M = 0 := month_unique (y := 1970) (n := 0) hd ⟨by simp [domI], by decide⟩
    subst hM0
    unfold whenP
    rw [hw]
    show some (dateT 4 1 0 1970 0 0 0) = _
    rw [dateT_0]
theorem noM_small : smallM noM := ⟨⟨by decide, fun f hf => by cases hf⟩, by decide⟩
end Go.Proofs.YtpclhpncmlbccaaGreatDoor

/- Notices: the closed example of the laws. -/
namespace Go.Proofs.YtpclhpncmlbccaaGreatDoor
open Go.RowKit
set_option linter.unusedVariables false
set_option maxHeartbeats 1000000
def tM : TMail := ⟨⟨[115, 64, 120], [⟨[97, 64, 121], 1⟩], [55]⟩, ⟨[], []⟩⟩
def tL : List TTold := [⟨[97, 64, 121], 3⟩]
theorem tIn : NoteIn tM 1 tL stT0 :=
  ⟨by kernel_rfl, by decide, .inl rfl, by decide, ⟨by decide, by decide, fun t ht => by
    obtain rfl := List.mem_singleton.1 ht
    exact ⟨by kernel_rfl, by decide, by decide⟩⟩, by decide, by decide⟩
theorem tM_small : smallE tM.Envelope ∧ smallM tM.Message :=
  ⟨⟨by decide, by decide, by decide, fun a ha => by
    obtain rfl := List.mem_singleton.1 ha
    decide⟩, noM_small⟩
theorem tL_small : smallT tL := ⟨by decide, fun a ha => by
    obtain rfl := List.mem_singleton.1 ha
    decide⟩
theorem make_tM : makeP tM 1 tL 0 = (noteM tM.Envelope 1 tL stT0, ⟨0, 0⟩) := by
  have h : ∀ o : Option Str, o = some stT0 → (bif (mailF tM).Code != 0 then (noMail, mailF tM) else bif tM.Envelope.From == ([] : Str) then (noMail, ⟨8, -13⟩) else bif kindW 1 == ([] : Str) then (noMail, ⟨4, -14⟩) else
      bif decide (57 < tM.Envelope.Id.length) then (noMail, ⟨1, -16⟩) else bif (toldF tL).Code != 0 then (noMail, toldF tL) else match o with
        | none => (noMail, ⟨3, -2⟩)
        | some x => (noteM tM.Envelope 1 tL x, ⟨0, 0⟩)) = (noteM tM.Envelope 1 tL stT0, (⟨0, 0⟩ : TFault)) := by
    intro o ho
    subst ho
    have e1 : (mailF tM).Code = 0 := tIn.mail
    have e2 : (toldF tL).Code = 0 := by rw [toldF_of tIn.told]
    rw [e1, e2]
    rfl
  exact h _ whenP_0
theorem tM_note : noteM tM.Envelope 1 tL stT0 = ⟨⟨[], [⟨[115, 64, 120], 0⟩], [55, 46, 110, 49]⟩, noteMsg tM.Envelope 1 tL stT0⟩ := by
  unfold noteM idN
  rw [dec_kind (by decide)]
  rfl
theorem read_empty : notice_Read ⟨[], []⟩ = some (noN, false, ⟨0, 0⟩) := by
  show notice_Read noM = _
  rw [notice_Read_eq noM noM_small]
  kernel_rfl
theorem L_tells_eq : L_tells = some true := by
  have h1 : L_plain (([([97, 64, 121] : Str)] : List Str)) = some tM := L_plain_eq _ (by decide)
  have h2 : notice_Make tM 1 (([(TTold.mk (([97, 64, 121] : Str)) 3)] : List TTold)) 0 = some (noteM tM.Envelope 1 tL stT0, ⟨0, 0⟩) := by
    have := notice_Make_eq tM 1 tL 0 tM_small.1 tM_small.2 tL_small
    rw [make_tM] at this
    exact this
  have h3 : notice_Read (noteM tM.Envelope 1 tL stT0).Message = some (⟨1, [55], tL⟩, true, ⟨0, 0⟩) := note_read tIn
  unfold L_tells
  rw [h1]
  simp only [Option.bind_some]
  rw [h2]
  simp only [Option.bind_some]
  rw [h3, read_empty, tM_note]
  simp only [Option.bind_some]
  show _ = some true
  kernel_rfl
theorem smallT_of {l : List TTold} (h : bkL TTold.bk l ≤ 1048576) : smallT l := by
  refine ⟨?_, fun a ha => ?_⟩
  · have := bkL_len (bk := TTold.bk) (fun x => by unfold TTold.bk; omega) l; omega
  · have h5 := bkL_mem (bk := TTold.bk) ha; have h6 : TTold.bk a = a.Address.length + 1 + 1 + 1 := rfl; omega
end Go.Proofs.YtpclhpncmlbccaaGreatDoor

/- The law TraceMatchesSpec in plain Lean. -/
namespace Go.Proofs.YtpclhpncmlbccaaGreatDoor
open Go.RowKit
set_option linter.unusedVariables false
theorem stampP_small {m : TMessage} {b i : Str} {t : Int} (hm : smallM m) : smallM (stampP m b i t).1 := by
  unfold stampP
  cases hc : (msgF m).Code != 0 with
  | true => exact noM_small
  | false =>
    have hm0 : (msgF m).Code = 0 := by simpa using hc
    have h60 := msg_60 hm0
    simp only [cond_false]
    cases hn1 : nameP b with
    | false => exact noM_small
    | true =>
      cases hn2 : nameP i with
      | false => exact noM_small
      | true =>
        simp only [Bool.not_true, cond_false]
        cases (m.Fields.length : Int) == 60 with
        | true => exact noM_small
        | false =>
          simp only [cond_false]
          cases hw : whenP t with
          | none => exact noM_small
          | some x =>
            have hx := whenP_len hw
            dsimp only
            cases (msgF (stM m b i x)).Code != 0 with
            | true => exact noM_small
            | false => exact stM_small hm h60 (nameP_len hn1).2 (nameP_len hn2).2 (by omega)
end Go.Proofs.YtpclhpncmlbccaaGreatDoor

/- The law TraceLoopsEnd in plain Lean. -/
namespace Go.Proofs.YtpclhpncmlbccaaGreatDoor
open Go.RowKit
set_option linter.unusedVariables false
set_option maxHeartbeats 1000000
theorem nameP_no32 {s : Str} (h : nameP s = true) : (32 : UInt8) ∉ s := by
  intro hm
  unfold nameP at h
  simp only [Bool.and_eq_true, List.all_eq_true] at h
  have := h.2 _ hm
  exact absurd this (by decide)
theorem hostP_st {b i x : Str} (h : nameP b = true) : hostP (stV b i x) = b := by
  unfold hostP stV
  have e1 : splitC 32 (([98, 121, 32] : Str) ++ b ++ [32, 105, 100, 32] ++ i ++ [59, 32] ++ x) = [98, 121] :: b :: splitC 32 ([105, 100, 32] ++ i ++ [59, 32] ++ x) := by
    have a1 : (([98, 121, 32] : Str) ++ b ++ [32, 105, 100, 32] ++ i ++ [59, 32] ++ x) = ([98, 121] : Str) ++ 32 :: (b ++ 32 :: ([105, 100, 32] ++ i ++ [59, 32] ++ x)) := by simp
    rw [a1, splitC_noc (by decide), splitC_noc (nameP_no32 h)]
  rw [e1]
  simp [h]
/-- what the loop of the law holds: n stamps of the host are there -/
structure TL (m0 m : TMessage) (b : Str) (n : Nat) : Prop where
  small : smallM m
  body : m.Body = m0.Body
  many : n ≤ ((getP m.Fields rcv).map hostP).countP (· == b)
theorem TL.next {m0 m : TMessage} {b i x : Str} {n : Nat} {t : Int} (h : TL m0 m b n) (hn : nameP b = true) (hs : stampP m b i t = (stM m b i x, ⟨0, 0⟩)) : TL m0 (stM m b i x) b (n + 1) := by
  have h1 := stampP_small (b := b) (i := i) (t := t) h.small
  rw [hs] at h1
  refine ⟨h1, h.body, ?_⟩
  have e : getP (stM m b i x).Fields rcv = stV b i x :: getP m.Fields rcv := by
    show getP (⟨rcv, stV b i x⟩ :: m.Fields) rcv = _
    unfold getP sameP
    simp
  rw [e]
  have := h.many
  simp only [List.map_cons, List.countP_cons, hostP_st hn, beq_self_eq_true, if_true]
  omega
end Go.Proofs.YtpclhpncmlbccaaGreatDoor

/- Functions of the program as Lean functions: what they compute. Written by program. -/
namespace Go.Proofs.YtpclhpncmlbccaaGreatDoor
open Go.RowKit
set_option maxRecDepth 100000
set_option maxHeartbeats 40000000
set_option linter.unusedVariables false
end Go.Proofs.YtpclhpncmlbccaaGreatDoor

/- A replacer of bytes as a Lean function. -/
namespace Go.Proofs.YtpclhpncmlbccaaGreatDoor
open Go.RowKit
def cleanB (c : UInt8) : UInt8 := if c = 0 ∨ c = 13 then 32 else c
def strings_Replacer_Replace (s : Str) : Option Str := if s.length ≤ 4611686018427387904 then some (s.map cleanB) else none
end Go.Proofs.YtpclhpncmlbccaaGreatDoor

/- Library functions as Lean functions: ends taken away; a byte's place. -/
namespace Go.Proofs.YtpclhpncmlbccaaGreatDoor
open Go.RowKit
def asciiT (t : Str) : Bool := t.all fun b => decide (b.toNat < 128)
def strings_Trim (s t : Str) : Option Str := if s.length ≤ 9223372036854775807 ∧ t.length < 4294967281 ∧ asciiT t = true then some (Lib.trimS s t) else none
def strings_TrimRight (s t : Str) : Option Str := if s.length ≤ 9223372036854775807 ∧ t.length < 4294967281 ∧ asciiT t = true then some (Lib.trimRightS s t) else none
def bytes_IndexByte (l : List UInt8) (c : UInt8) : Option Int := some (Lib.indexByte l c)
end Go.Proofs.YtpclhpncmlbccaaGreatDoor

/- Functions of the program as Lean functions: what they compute. Written by program. -/
namespace Go.Proofs.YtpclhpncmlbccaaGreatDoor
open Go.RowKit
set_option maxRecDepth 100000
set_option maxHeartbeats 40000000
set_option linter.unusedVariables false
def bytes_TrimSuffix (a0 : List UInt8) (a1 : List UInt8) : Option (List UInt8) :=
  (bytes_HasSuffix a0 a1).bind fun v1 => (bif v1 then (cut a0 0 ((w64 ((a0.length : Int) - (a1.length : Int))))).bind fun v4 => some v4 else some a0)
def header_line (a0 : List UInt8) : Option (Str × Int) :=
  (bytes_IndexByte a0 ((10 : UInt8))).bind fun v1 => (bif decide (v1 < 0) then some ((a0, (a0.length : Int))) else (cut a0 0 v1).bind fun v4 => (bytes_TrimSuffix v4 (([(13 : UInt8)] : List UInt8))).bind fun v6 => some ((v6, (w64 (v1 + 1)))))
noncomputable def header_begins (a0 : Str) : Option (TField × Bool) :=
  (strings_Cut a0 (([58] : Str))).bind fun v1 => (strings_TrimRight v1.1 (([32, 9] : Str))).bind fun v3 => ((bif v1.2.2 then (header_name v3).bind fun v7 => some v7 else some false) : Option Bool).bind fun (j5 : Bool) => some (((TField.mk v3 v1.2.1), j5))
noncomputable def header_Read_l1 (a0 : List UInt8) (s4 : Int × (List TField)) : Option (Step (Int × (List TField)) (Int × (List TField))) :=
  (bif decide (s4.1 < (a0.length : Int)) then (cut a0 s4.1 ((a0.length : Int))).bind fun v8 => (header_line v8).bind fun v10 => (bif (v10.1 == ([] : Str)) then some (.out (((w64 (s4.1 + v10.2)), s4.2))) else ((idx v10.1 0).bind fun v14 => (basic_Blank v14).bind fun v16 => (bif v16 then some (decide (0 < (s4.2.length : Int))) else some false) : Option Bool).bind fun (j13 : Bool) => (bif j13 then (idx s4.2 ((w64 ((s4.2.length : Int) - 1)))).bind fun v20 => (idx s4.2 ((w64 ((s4.2.length : Int) - 1)))).bind fun v22 => (cat v22.Value v10.1).bind fun v24 => (idx s4.2 ((w64 ((s4.2.length : Int) - 1)))).bind fun v26 => (idx s4.2 ((w64 ((s4.2.length : Int) - 1)))).bind fun v28 => some (.cont ((w64 (s4.1 + v10.2)), (List.set s4.2 (Int.toNat ((w64 ((s4.2.length : Int) - 1)))) ((TField.mk v28.Name v24))))) else (header_begins v10.1).bind fun v30 => (bif (!v30.2) then some (.out ((s4.1, s4.2))) else (app 4398046511104 s4.2 (([v30.1] : List TField))).bind fun v33 => some (.cont ((w64 (s4.1 + v10.2)), v33))))) else some (.out ((s4.1, s4.2))))
def header_Read_l2 (b5 : Int × (List TField)) (s38 : Int × (List TField)) : Option (Step (Int × (List TField)) ((List TField) ⊕ ((List TField) × Int × TFault))) :=
  (bif decide (s38.1 < (b5.2.length : Int)) then (idx s38.2 s38.1).bind fun v44 => (idx s38.2 s38.1).bind fun v46 => (strings_Replacer_Replace v46.Value).bind fun v48 => (strings_Trim v48 (([32, 9] : Str))).bind fun v50 => (bif decide (4000 < (v50.length : Int)) then (basic_Fault 1 s38.1).bind fun v53 => some (.out (.inr (([], 0, v53)))) else (idx s38.2 s38.1).bind fun v55 => (idx s38.2 s38.1).bind fun v57 => some (.cont ((w64 (s38.1 + 1)), (List.set s38.2 (Int.toNat s38.1) ((TField.mk v57.Name v50)))))) else some (.out (.inl s38.2)))
noncomputable def header_Read (a0 : List UInt8) : Option ((List TField) × Int × TFault) :=
  (bif decide (12000 < (a0.length : Int)) then (basic_Fault 1 ((-1))).bind fun v2 => some (([], 0, v2)) else (iter (header_Read_l1 a0) ((0, ([] : List TField)))).bind fun b5 => (bif decide (60 < (b5.2.length : Int)) then (basic_Fault 2 ((-2))).bind fun v36 => some (([], 0, v36)) else (iter (header_Read_l2 b5) ((0, b5.2))).bind (Sum.elim (fun b39 => (basic_None).bind fun v59 => some ((b39, b5.1, v59))) (fun b40 => some ((b40.1, b40.2.1, b40.2.2))))))
def message_lines_l1 (a0 : List UInt8) (s1 : Int × (List UInt8)) : Option (Step (Int × (List UInt8)) (List UInt8)) :=
  (bif decide (s1.1 < (a0.length : Int)) then (((idx a0 s1.1).bind fun v7 => (bif ((v7.toNat : Int) == 13) then (bif decide ((w64 (s1.1 + 1)) < (a0.length : Int)) then (idx a0 ((w64 (s1.1 + 1)))).bind fun v11 => some (((v11.toNat : Int) == 10)) else some false) else some false) : Option Bool).bind fun (j6 : Bool) => (bif j6 then (app 140737488355328 s1.2 (([(13 : UInt8), (10 : UInt8)] : List UInt8))).bind fun v14 => some (((w64 (s1.1 + 1)), v14)) else ((idx a0 s1.1).bind fun v17 => (bif ((v17.toNat : Int) == 13) then some true else (idx a0 s1.1).bind fun v20 => some (((v20.toNat : Int) == 10))) : Option Bool).bind fun (j16 : Bool) => (bif j16 then (app 140737488355328 s1.2 (([(13 : UInt8), (10 : UInt8)] : List UInt8))).bind fun v23 => some ((s1.1, v23)) else (idx a0 s1.1).bind fun v25 => (app 140737488355328 s1.2 (([v25] : List UInt8))).bind fun v27 => some ((s1.1, v27)))) : Option (Int × (List UInt8))).bind fun (j5 : Int × (List UInt8)) => some (.cont ((w64 (j5.1 + 1)), j5.2)) else some (.out s1.2))
noncomputable def message_lines (a0 : List UInt8) : Option (List UInt8) :=
  (iter (message_lines_l1 a0) ((0, ([] : List UInt8)))).bind fun b2 => some b2
noncomputable def message_Read (a0 : List UInt8) : Option (TMessage × TFault) :=
  (header_Read a0).bind fun v1 => (basic_Failed v1.2.2).bind fun v3 => (bif v3 then some (((TMessage.mk ([]) ([])), v1.2.2)) else (cut a0 v1.2.1 ((a0.length : Int))).bind fun v6 => (message_lines v6).bind fun v8 => (message_Validate ((TMessage.mk v1.1 v8))).bind fun v10 => (basic_Failed v10).bind fun v12 => (bif v12 then some (((TMessage.mk ([]) ([])), v10)) else (basic_None).bind fun v15 => some (((TMessage.mk v1.1 v8), v15))))
def R_headLine_l1 (a0 : List UInt8) (s1 : Int) : Option (Step Int (Unit ⊕ (Str × Int))) :=
  (bif decide (s1 < (a0.length : Int)) then (idx a0 s1).bind fun v7 => (bif ((v7.toNat : Int) != 10) then some (.cont (w64 (s1 + 1))) else ((bif decide (0 < s1) then (idx a0 ((w64 (s1 - 1)))).bind fun v12 => some (((v12.toNat : Int) == 13)) else some false) : Option Bool).bind fun (j10 : Bool) => (bif j10 then (cut a0 0 ((w64 (s1 - 1)))).bind fun v15 => some (.out (.inr ((v15, (w64 (s1 + 1)))))) else (cut a0 0 s1).bind fun v17 => some (.out (.inr ((v17, (w64 (s1 + 1)))))))) else some (.out (.inl (()))))
noncomputable def R_headLine (a0 : List UInt8) : Option (Str × Int) :=
  (iter (R_headLine_l1 a0) 0).bind (Sum.elim (fun b2 => some ((a0, (a0.length : Int)))) (fun b3 => some ((b3.1, b3.2))))
def R_colon_l2 (a0 : Str) (s10 : Int) : Option (Step Int Int) :=
  ((bif decide (0 < s10) then (idx a0 ((w64 (s10 - 1)))).bind fun v15 => (R_blank v15).bind fun v17 => some v17 else some false) : Option Bool).bind fun (j13 : Bool) => (bif j13 then some (.cont (w64 (s10 - 1))) else some (.out s10))
noncomputable def R_colon_l1 (a0 : Str) (s1 : Int) : Option (Step Int (Unit ⊕ (Str × Str))) :=
  (bif decide (s1 < (a0.length : Int)) then (idx a0 s1).bind fun v7 => (bif ((v7.toNat : Int) != 58) then some (.cont (w64 (s1 + 1))) else (iter (R_colon_l2 a0) s1).bind fun b11 => (cut a0 0 b11).bind fun v20 => (R_FieldCode ((TField.mk v20 (([] : Str))))).bind fun v22 => (bif (v22 == 0) then (cut a0 0 b11).bind fun v25 => (cut a0 ((w64 (s1 + 1))) ((a0.length : Int))).bind fun v27 => some (.out (.inr ((v25, v27)))) else some (.out (.inr ((([] : Str), ([] : Str))))))) else some (.out (.inl (()))))
noncomputable def R_colon (a0 : Str) : Option (Str × Str) :=
  (iter (R_colon_l1 a0) 0).bind (Sum.elim (fun b2 => some ((([] : Str), ([] : Str)))) (fun b3 => some ((b3.1, b3.2))))
noncomputable def R_MessageOf_l1 (a0 : List UInt8) (s1 : Int × (List TField)) : Option (Step (Int × (List TField)) (Int × (List TField))) :=
  (bif decide (s1.1 < (a0.length : Int)) then (cut a0 s1.1 ((a0.length : Int))).bind fun v5 => (R_headLine v5).bind fun v7 => (bif (v7.1 == ([] : Str)) then some (.out (((w64 (s1.1 + v7.2)), s1.2))) else ((idx v7.1 0).bind fun v11 => (R_blank v11).bind fun v13 => (bif v13 then some (((w64 ((s1.2.length : Int) - 1)), decide (0 ≤ (w64 ((s1.2.length : Int) - 1))))) else some (((w64 ((s1.2.length : Int) - 1)), false))) : Option (Int × Bool)).bind fun (j10 : Int × Bool) => (bif j10.2 then (idx s1.2 j10.1).bind fun v17 => (idx s1.2 j10.1).bind fun v19 => (cat v19.Value v7.1).bind fun v21 => (idx s1.2 j10.1).bind fun v23 => (idx s1.2 j10.1).bind fun v25 => some (.cont ((w64 (s1.1 + v7.2)), (List.set s1.2 (Int.toNat j10.1) ((TField.mk v25.Name v21))))) else (R_colon v7.1).bind fun v27 => (bif (v27.1 == ([] : Str)) then some (.out ((s1.1, s1.2))) else (app 4398046511104 s1.2 (([(TField.mk v27.1 v27.2)] : List TField))).bind fun v30 => some (.cont ((w64 (s1.1 + v7.2)), v30))))) else some (.out ((s1.1, s1.2))))
end Go.Proofs.YtpclhpncmlbccaaGreatDoor

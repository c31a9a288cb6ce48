/- Part 5 of the proof of the law NoticeSurvivesTheWay: what it needs. -/
import Derived.Test.YtpclhpncmlbccaaGreatDoorKNoticeSurvivesTheWay4
import Derived.Test.YtpclhpncmlbccaaGreatDoorShelf
set_option linter.unusedVariables false
set_option linter.unusedSimpArgs false
/- Messages read, in plain Lean: a line of a header, and the field that it begins. -/
namespace Go.Proofs.YtpclhpncmlbccaaGreatDoor
open Go.RowKit
set_option linter.unusedVariables false
set_option maxHeartbeats 1000000
theorem bytes_HasSuffix_eq (s t : List UInt8) (hs : s.length ≤ 9223372036854775806) : bytes_HasSuffix s t = some (t.isSuffixOf s) := by
  unfold bytes_HasSuffix bytes_Equal
  by_cases h : t.length ≤ s.length
  · have : decide ((t.length : Int) ≤ (s.length : Int)) = true := by simp; omega
    rw [this, w64_ns _ _ h (by omega), cut_nl (by omega)]
    simp only [cond_true, Option.bind_some, Option.some.injEq]
    rw [Bool.eq_iff_iff, beq_iff_eq, List.isSuffixOf_iff_suffix, List.suffix_iff_eq_drop]
    constructor <;> exact fun h => h.symm
  · have : decide ((t.length : Int) ≤ (s.length : Int)) = false := by simp; omega
    rw [this]
    simp only [cond_false, Option.bind_some, Option.some.injEq]
    symm
    rw [Bool.eq_false_iff]
    intro hp
    exact h (List.isSuffixOf_iff_suffix.1 hp).length_le
def chop (s : List UInt8) : List UInt8 := if [13].isSuffixOf s then s.take (s.length - 1) else s
theorem TrimSuffix_eq (s : List UInt8) (hs : s.length ≤ 9223372036854775806) : bytes_TrimSuffix s [13] = some (chop s) := by
  unfold bytes_TrimSuffix chop
  rw [bytes_HasSuffix_eq s _ hs]
  cases h : [13].isSuffixOf s with
  | false => rfl
  | true =>
    have hl := (List.isSuffixOf_iff_suffix.1 h).length_le
    simp only [List.length_cons, List.length_nil] at hl
    simp only [Option.bind_some, cond_true, List.length_cons, List.length_nil]
    rw [show ((s.length : Int) - ((0 + 1 : Nat) : Int)) = ((s.length - 1 : Nat) : Int) by omega, w64_n _ (by omega), cut_0n (by omega)]
    rfl
def eol (b : List UInt8) : Nat := b.findIdx (· == 10)
theorem indexByte_find (c : UInt8) : ∀ b : List UInt8, Lib.indexByte b c = if b.findIdx (· == c) < b.length then ((b.findIdx (· == c) : Nat) : Int) else -1
  | [] => rfl
  | x :: b => by
    have ih := indexByte_find c b
    unfold Lib.indexByte
    rw [List.findIdx_cons, ih]
    cases hx : x == c with
    | true => simp
    | false =>
      simp only [Bool.false_eq_true, if_false, cond_false, List.length_cons]
      by_cases h : b.findIdx (· == c) < b.length
      · rw [if_pos h, if_neg (by simp), if_pos (by omega)]
        simp
      · rw [if_neg h, if_pos (show ((-1 : Int) == -1) = true from rfl), if_neg (by omega)]
def lineP (b : List UInt8) : List UInt8 × Nat := if eol b < b.length then (chop (b.take (eol b)), eol b + 1) else (b, b.length)
theorem header_line_eq (b : List UInt8) (hb : b.length ≤ 1048576) : header_line b = some ((lineP b).1, ((lineP b).2 : Int)) := by
  unfold header_line lineP bytes_IndexByte
  simp only [Option.bind_some]
  rw [indexByte_find, show b.findIdx (· == 10) = eol b from rfl]
  by_cases h : eol b < b.length
  · rw [if_pos h, if_pos h, decide_eq_false (by omega), cond_false, cut_0n (by omega)]
    simp only [Option.bind_some]
    rw [TrimSuffix_eq _ (by simp; omega)]
    simp only [Option.bind_some]
    rw [w64_nl _ _ (show eol b + OfNat.ofNat 1 ≤ _ by show eol b + 1 ≤ _; omega)]
  · rw [if_neg h, if_neg h]
    rfl
theorem last_take {b : List UInt8} {i : Nat} (hi : i < b.length) : [13].isSuffixOf (b.take i) = (decide (0 < i) && (b[i - 1]?).elim false (· == 13)) := by
  cases i with
  | zero => simp
  | succ i =>
    rw [List.take_add_one, List.getElem?_eq_getElem (by omega : i < b.length)]
    simp only [Option.toList_some, Nat.succ_sub_one, Nat.zero_lt_succ, decide_true, Bool.true_and, Nat.add_sub_cancel]
    rw [List.getElem?_eq_getElem (by omega : i < b.length)]
    simp only [Option.elim_some]
    rw [Bool.eq_iff_iff, List.isSuffixOf_iff_suffix, beq_iff_eq]
    constructor
    · rintro ⟨t, ht⟩
      have := (List.append_inj' ht rfl).2
      simpa using this.symm
    · intro h
      rw [h]
      exact ⟨_, rfl⟩
theorem first_find {R : Type} (c : UInt8) (r : Nat → R) : ∀ (l : List UInt8) (n : Nat), firstI (fun i x => if x == c then some (r i) else none) n l = if l.findIdx (· == c) < l.length then some (r (n + l.findIdx (· == c))) else none
  | [], n => rfl
  | x :: l, n => by
    unfold firstI
    rw [List.findIdx_cons]
    cases hx : x == c with
    | true => simp
    | false =>
      simp only [Bool.false_eq_true, if_false, cond_false, List.length_cons]
      rw [first_find c r l (n + 1)]
      by_cases h : l.findIdx (· == c) < l.length
      · rw [if_pos h, if_pos (by omega), show n + 1 + l.findIdx (· == c) = n + (l.findIdx (· == c) + 1) by omega]
      · rw [if_neg h, if_neg (by omega)]
theorem R_headLine_eq (b : List UInt8) (hb : b.length ≤ 1048576) : R_headLine b = some ((lineP b).1, ((lineP b).2 : Int)) := by
  unfold R_headLine
  rw [iter_first b (fun i x => if x == 10 then some (chop (b.take i), ((i + 1 : Nat) : Int)) else none) (.inl ()) .inr]
  · rw [first_find]
    unfold lineP
    rw [show b.findIdx (· == 10) = eol b from rfl]
    by_cases h : eol b < b.length
    · rw [if_pos h, if_pos h]
      simp
    · rw [if_neg h, if_neg h]
      rfl
  · unfold R_headLine_l1
    rw [dec_len]; rfl
  · intro i c hc
    have hi := lt_get hc
    unfold R_headLine_l1
    rw [dec_lt hc, idx_get hc]
    simp only [cond_true, Option.bind_some]
    rw [u8_ne c 10 (by decide)]
    cases h10 : c == 10 with
    | false =>
      simp only [bne, h10, Bool.not_false, cond_true, Bool.false_eq_true, if_false, Option.elim_none]
      rw [sc i (by omega)]
    | true =>
      simp only [bne, h10, Bool.not_true, cond_false, if_true, Option.elim_some]
      have hch : chop (b.take i) = if (decide (0 < i) && (b[i - 1]?).elim false (· == 13)) then b.take (i - 1) else b.take i := by
        unfold chop
        rw [last_take hi]
        split
        · rw [List.length_take, Nat.min_eq_left (by omega), List.take_take, Nat.min_eq_left (by omega)]
        · rfl
      cases i with
      | zero =>
        rw [hch]
        rfl
      | succ i =>
        have e1 : decide ((0 : Int) < ((i + 1 : Nat) : Int)) = true := by simp
        have e2 : w64 (((i + 1 : Nat) : Int) - 1) = ((i : Nat) : Int) := by rw [show (((i + 1 : Nat) : Int) - 1) = ((i : Nat) : Int) by omega, w64_n _ (by omega)]
        rw [e1, e2, idx_nat, List.getElem?_eq_getElem (by omega : i < b.length)]
        simp only [cond_true, Option.bind_some]
        rw [u8_eq _ 13 (by decide), cut_0n (by omega), cut_0n (by omega), hch]
        simp only [Nat.add_sub_cancel, List.getElem?_eq_getElem (by omega : i < b.length), Option.elim_some, Nat.zero_lt_succ, decide_true, Bool.true_and]
        rw [sc (i + 1) (by omega)]
        cases b[i] == 13 <;> rfl
theorem lineP_pos {b : List UInt8} (h : b ≠ []) : 1 ≤ (lineP b).2 ∧ (lineP b).2 ≤ b.length ∧ (lineP b).1.length ≤ b.length := by
  have := List.length_pos_iff.2 h
  unfold lineP
  split
  · refine ⟨by simp, by simp; omega, ?_⟩
    unfold chop
    split <;> simp <;> omega
  · exact ⟨this, Nat.le_refl _, Nat.le_refl _⟩
end Go.Proofs.YtpclhpncmlbccaaGreatDoor

/- Messages read, in plain Lean: the field that a line begins. -/
namespace Go.Proofs.YtpclhpncmlbccaaGreatDoor
open Go.RowKit
set_option linter.unusedVariables false
set_option maxHeartbeats 1000000
def rtrim (l : List UInt8) : List UInt8 := (l.reverse.dropWhile blankC).reverse
theorem set_blank : (fun x => ([32, 9] : List UInt8).contains x) = blankC := by
  funext x
  simp [blankC, List.contains, List.elem]
  cases h1 : x == 32 <;> cases h2 : x == 9 <;> simp_all
theorem TrimRight_eq (s : Str) (hs : s.length ≤ 9223372036854775807) : strings_TrimRight s [32, 9] = some (rtrim s) := by
  unfold strings_TrimRight Lib.trimRightS rtrim
  rw [if_pos ⟨hs, by decide, rfl⟩, set_blank]
theorem index_find (c : UInt8) : ∀ b : List UInt8, Lib.index b [c] = if b.findIdx (· == c) < b.length then ((b.findIdx (· == c) : Nat) : Int) else -1
  | [] => rfl
  | x :: b => by
    have ih := index_find c b
    unfold Lib.index
    rw [List.findIdx_cons, ih]
    have hp : ([c] : List UInt8).isPrefixOf (x :: b) = (x == c) := by
      simp only [List.isPrefixOf, Bool.and_true]
      rw [Bool.eq_iff_iff, beq_iff_eq, beq_iff_eq]
      exact eq_comm
    rw [hp]
    cases hx : x == c with
    | true => simp
    | false =>
      simp only [Bool.false_eq_true, if_false, cond_false, List.length_cons]
      by_cases h : b.findIdx (· == c) < b.length
      · rw [if_pos h, if_neg (by simp), if_pos (by omega)]
        simp
      · rw [if_neg h, if_pos (show ((-1 : Int) == -1) = true from rfl), if_neg (by omega)]
def colI (s : Str) : Nat := s.findIdx (· == 58)
def colP (s : Str) : Str × Str × Bool := if colI s < s.length then (rtrim (s.take (colI s)), s.drop (colI s + 1), fnP (rtrim (s.take (colI s)))) else (rtrim s, [], false)
theorem rtrim_len (s : Str) : (rtrim s).length ≤ s.length := by
  unfold rtrim
  rw [List.length_reverse]
  have := (List.dropWhile_sublist blankC (l := s.reverse)).length_le
  simpa using this
theorem cut_colon (s : Str) : Lib.cut s [58] = if colI s < s.length then (s.take (colI s), s.drop (colI s + 1), true) else (s, [], false) := by
  unfold Lib.cut
  rw [index_find, show s.findIdx (· == 58) = colI s from rfl]
  by_cases h : colI s < s.length
  · rw [if_pos h, if_pos h, if_pos (by omega)]
    simp
  · rw [if_neg h, if_neg h, if_neg (by omega)]
theorem header_begins_eq (s : Str) (hs : s.length ≤ 1048576) : header_begins s = some (⟨(colP s).1, (colP s).2.1⟩, (colP s).2.2) := by
  unfold header_begins strings_Cut
  rw [if_pos (by omega)]
  simp only [Option.bind_some]
  rw [cut_colon]
  unfold colP
  by_cases h : colI s < s.length
  · rw [if_pos h, if_pos h]
    dsimp only
    rw [TrimRight_eq _ (by simp; omega)]
    simp only [Option.bind_some, cond_true]
    rw [header_name_eq _ (by have := rtrim_len (s.take (colI s)); simp at this; omega)]
    rfl
  · rw [if_neg h, if_neg h]
    dsimp only
    rw [TrimRight_eq _ (by omega)]
    rfl
theorem code_name (n : Str) (hn : n.length ≤ 1048576) : (codeP ⟨n, []⟩ == 0) = fnP n := by
  have h1 := header_name_eq n hn
  unfold header_name at h1
  rw [fold_Fold_eq n [] hn (by simp)] at h1
  simp only [Option.bind_some, basic_Failed_eq, Option.some.injEq] at h1
  rw [← h1]
  show (codeP ⟨n, []⟩ == 0) = !(codeP ⟨n, []⟩ != 0)
  simp [bne]
theorem rtrim_snoc (l : Str) (x : UInt8) : rtrim (l ++ [x]) = if blankC x then rtrim l else l ++ [x] := by
  unfold rtrim
  rw [List.reverse_append, List.reverse_cons, List.reverse_nil, List.nil_append, List.singleton_append, List.dropWhile_cons]
  split
  · rfl
  · simp
theorem colon_loop (s : Str) (hs : s.length ≤ 1048576) (i : Nat) (hi : i ≤ s.length) : ∃ k : Nat, iter (R_colon_l2 s) (i : Int) = some (k : Int) ∧ k ≤ i ∧ s.take k = rtrim (s.take i) := by
  obtain ⟨r, h1, k, h2, h3, h4⟩ := iter_rec (body := R_colon_l2 s) (fun n => ∃ m : Nat, n = (m : Int) ∧ m ≤ i ∧ rtrim (s.take m) = rtrim (s.take i)) (fun n => n.toNat) (fun _ r => ∃ k : Nat, r = (k : Int) ∧ k ≤ i ∧ s.take k = rtrim (s.take i)) (by
    rintro _ ⟨m, rfl, hm, he⟩
    cases m with
    | zero => exact .inl ⟨0, rfl, 0, rfl, Nat.zero_le _, he⟩
    | succ m =>
      have hml : m < s.length := by omega
      have e1 : decide ((0 : Int) < ((m + 1 : Nat) : Int)) = true := by simp
      have e2 : w64 (((m + 1 : Nat) : Int) - 1) = ((m : Nat) : Int) := by rw [show (((m + 1 : Nat) : Int) - 1) = ((m : Nat) : Int) by omega, w64_n _ (by omega)]
      have hb : R_colon_l2 s ((m + 1 : Nat) : Int) = some (bif blankC s[m] then .cont (m : Int) else .out ((m + 1 : Nat) : Int)) := by
        unfold R_colon_l2
        rw [e1, e2, idx_nat, List.getElem?_eq_getElem hml]
        simp only [cond_true, Option.bind_some, R_blank_eq]
        cases blankC s[m] <;> rfl
      have ht : s.take (m + 1) = s.take m ++ [s[m]] := by rw [List.take_add_one, List.getElem?_eq_getElem hml]; rfl
      rw [ht, rtrim_snoc] at he
      rw [hb]
      cases hx : blankC s[m] with
      | true =>
        rw [hx, if_pos rfl] at he
        exact .inr ⟨(m : Int), rfl, ⟨m, rfl, by omega, he⟩, by simp, fun _ h => h⟩
      | false =>
        rw [hx, if_neg (by simp)] at he
        exact .inl ⟨((m + 1 : Nat) : Int), rfl, m + 1, rfl, hm, by rw [ht]; exact he⟩) (i : Int) ⟨i, rfl, Nat.le_refl _, rfl⟩
  subst h2
  exact ⟨k, h1, h3, h4⟩
theorem R_colon_eq (s : Str) (hs : s.length ≤ 1048576) : R_colon s = some (bif (colP s).2.2 then ((colP s).1, (colP s).2.1) else ([], [])) := by
  unfold R_colon
  rw [iter_first s (fun i x => if x == 58 then some (bif fnP (rtrim (s.take i)) then (rtrim (s.take i), s.drop (i + 1)) else (([] : Str), ([] : Str))) else none) (.inl ()) .inr]
  · rw [first_find]
    unfold colP
    rw [show s.findIdx (· == 58) = colI s from rfl]
    by_cases h : colI s < s.length
    · rw [if_pos h, if_pos h]
      simp only [Nat.zero_add, Option.bind_some, Option.elim_some, Sum.elim_inr]
    · rw [if_neg h, if_neg h]
      rfl
  · unfold R_colon_l1
    rw [dec_len]; rfl
  · intro i c hc
    have hi := lt_get hc
    unfold R_colon_l1
    rw [dec_lt hc, idx_get hc]
    simp only [cond_true, Option.bind_some]
    rw [u8_ne c 58 (by decide)]
    cases h10 : c == 58 with
    | false =>
      simp only [bne, h10, Bool.not_false, cond_true, Bool.false_eq_true, if_false, Option.elim_none]
      rw [sc i (by omega)]
    | true =>
      simp only [bne, h10, Bool.not_true, cond_false, if_true, Option.elim_some]
      obtain ⟨k, h1, h2, h3⟩ := colon_loop s hs i (by omega)
      rw [h1]
      simp only [Option.bind_some]
      rw [cut_0n (by omega), h3]
      simp only [Option.bind_some]
      rw [R_FieldCode_eq ⟨rtrim (s.take i), []⟩ (by have := rtrim_len (s.take i); simp at this ⊢; omega) (by simp)]
      simp only [Option.bind_some]
      rw [code_name _ (by have := rtrim_len (s.take i); simp at this ⊢; omega), sc i (by omega), cut_nl (by omega)]
      cases fnP (rtrim (s.take i)) <;> rfl
theorem colP_ok {s : Str} (h : (colP s).2.2 = true) : (colP s).1 ≠ [] := by
  unfold colP at h ⊢
  split
  · rename_i hc
    rw [if_pos hc] at h
    intro he
    have h : fnP (rtrim (s.take (colI s))) = true := h
    have he : rtrim (s.take (colI s)) = [] := he
    rw [he] at h
    cases h
  · rename_i hc
    rw [if_neg hc] at h
    cases h
theorem colP_len (s : Str) : (colP s).1.length ≤ s.length ∧ (colP s).2.1.length ≤ s.length := by
  unfold colP
  split
  · refine ⟨?_, by simp⟩
    have := rtrim_len (s.take (colI s))
    simp at this ⊢
    omega
  · exact ⟨rtrim_len s, by simp⟩
end Go.Proofs.YtpclhpncmlbccaaGreatDoor

/- Messages read, in plain Lean: values cleaned, and bodies. -/
namespace Go.Proofs.YtpclhpncmlbccaaGreatDoor
open Go.RowKit
set_option linter.unusedVariables false
set_option maxHeartbeats 1000000
def ltrim (l : List UInt8) : List UInt8 := l.dropWhile blankC
theorem rtrim_cons (x : UInt8) (l : Str) : rtrim (x :: l) = if blankC x = true ∧ rtrim l = [] then [] else x :: rtrim l := by
  unfold rtrim
  rw [List.reverse_cons, List.dropWhile_append]
  cases h : (l.reverse.dropWhile blankC).isEmpty with
  | true =>
    have h0 : l.reverse.dropWhile blankC = [] := List.isEmpty_iff.1 h
    rw [h0, List.dropWhile_cons]
    cases hx : blankC x <;> simp
  | false =>
    have h0 : l.reverse.dropWhile blankC ≠ [] := fun e => by rw [e] at h; cases h
    simp [h0]
theorem trim_comm : ∀ l : Str, ltrim (rtrim l) = rtrim (ltrim l)
  | [] => rfl
  | x :: l => by
    have ih := trim_comm l
    rw [rtrim_cons]
    cases hx : blankC x with
    | false =>
      rw [if_neg (by simp)]
      unfold ltrim
      rw [List.dropWhile_cons_of_neg (by simp [hx]), List.dropWhile_cons_of_neg (by simp [hx]), rtrim_cons, if_neg (by simp [hx])]
    | true =>
      rw [show ltrim (x :: l) = ltrim l by unfold ltrim; rw [List.dropWhile_cons_of_pos hx], ← ih]
      split
      · rename_i h
        rw [h.2]
      · unfold ltrim
        rw [List.dropWhile_cons_of_pos hx]
def cleanV (v : Str) : Str := rtrim (ltrim (v.map cleanB))
theorem cleanV_len (v : Str) : (cleanV v).length ≤ v.length := by
  unfold cleanV ltrim
  have h1 := rtrim_len ((v.map cleanB).dropWhile blankC)
  have h2 := (List.dropWhile_sublist blankC (l := v.map cleanB)).length_le
  simp at h2
  omega
theorem Trim_eq (v : Str) (hs : v.length ≤ 1048576) : ((strings_Replacer_Replace v).bind fun v48 => strings_Trim v48 [32, 9]) = some (cleanV v) := by
  unfold strings_Replacer_Replace strings_Trim Lib.trimS Lib.trimLeftS Lib.trimRightS
  rw [if_pos (by omega)]
  simp only [Option.bind_some]
  rw [if_pos ⟨by simp; omega, by decide, rfl⟩, set_blank]
  show some (ltrim (rtrim (v.map cleanB))) = _
  rw [trim_comm]
  rfl
/-- line ends made whole -/
def bodyL : Nat → List UInt8 → List UInt8
  | 0, _ => []
  | _ + 1, [] => []
  | n + 1, c :: r => if c = 13 then 13 :: 10 :: bodyL n (if r.head? = some 10 then r.drop 1 else r) else if c = 10 then 13 :: 10 :: bodyL n r else c :: bodyL n r
theorem bodyL_len : ∀ (n : Nat) (l : List UInt8), (bodyL n l).length ≤ 2 * n
  | 0, _ => by simp [bodyL]
  | n + 1, [] => by simp [bodyL]
  | n + 1, c :: r => by
    unfold bodyL
    split
    · have := bodyL_len n (if r.head? = some 10 then r.drop 1 else r)
      simp only [List.length_cons]; omega
    · have := bodyL_len n r
      split <;> simp only [List.length_cons] <;> omega
theorem bodyL_more : ∀ (n m : Nat) (l : List UInt8), l.length ≤ n → l.length ≤ m → bodyL n l = bodyL m l
  | 0, m, l, h, _ => by
    obtain rfl := List.eq_nil_of_length_eq_zero (by omega : l.length = 0)
    cases m <;> rfl
  | n + 1, m, [], _, _ => by cases m <;> rfl
  | n + 1, 0, c :: r, _, h => by simp at h
  | n + 1, m + 1, c :: r, h1, h2 => by
    simp only [List.length_cons] at h1 h2
    unfold bodyL
    have hle : (if r.head? = some 10 then r.drop 1 else r).length ≤ r.length := by
      split
      · simp
      · exact Nat.le_refl _
    have e1 := bodyL_more n m (if r.head? = some 10 then r.drop 1 else r) (by omega) (by omega)
    have e2 := bodyL_more n m r (by omega) (by omega)
    rw [e1, e2]
/-- a loop over bytes from a place on -/
theorem body_iter (b : List UInt8) (hb : b.length ≤ 1048576) {body : Int × List UInt8 → Option (Step (Int × List UInt8) (List UInt8))}
    (h0 : ∀ a, body ((b.length : Int), a) = some (.out a))
    (h1 : ∀ (i : Nat) c a, b[i]? = some c → a.length ≤ 3000000 → body ((i : Int), a) = some (.cont (if c = 13 then (((if b[i + 1]? = some 10 then i + 2 else i + 1 : Nat) : Int), a ++ [13, 10]) else if c = 10 then (((i + 1 : Nat) : Int), a ++ [13, 10]) else (((i + 1 : Nat) : Int), a ++ [c])))) :
    ∀ (n i : Nat) (a : List UInt8), i + n = b.length → a.length ≤ 2 * i → iter body ((i : Int), a) = some (a ++ bodyL n (b.drop i)) := by
  intro n
  induction n using Nat.strongRecOn with
  | _ n ih =>
    intro i a hn ha
    cases n with
    | zero =>
      obtain rfl : i = b.length := by omega
      rw [iter_out (h0 a)]
      simp [bodyL]
    | succ n =>
      have hi : i < b.length := by omega
      have hd : b.drop i = b[i] :: b.drop (i + 1) := List.drop_eq_getElem_cons hi
      have hs := h1 i b[i] a (List.getElem?_eq_getElem hi) (by omega)
      rw [iter_cont hs, hd]
      unfold bodyL
      by_cases h13 : b[i] = 13
      · rw [if_pos h13, if_pos h13]
        have hh : (b.drop (i + 1)).head? = b[i + 1]? := by rw [List.head?_drop]
        rw [hh]
        by_cases h10 : b[i + 1]? = some 10
        · rw [if_pos h10, if_pos h10]
          have hi1 := (List.getElem?_eq_some_iff.1 h10).1
          have := ih (n - 1) (by omega) (i + 2) (a ++ [13, 10]) (by omega) (by simp; omega)
          rw [this, List.drop_drop, bodyL_more (n - 1) n _ (by simp; omega) (by simp; omega)]
          simp
        · rw [if_neg h10, if_neg h10]
          have := ih n (by omega) (i + 1) (a ++ [13, 10]) (by omega) (by simp; omega)
          rw [this]
          simp
      · rw [if_neg h13, if_neg h13]
        by_cases h10 : b[i] = 10
        · rw [if_pos h10, if_pos h10, ih n (by omega) (i + 1) (a ++ [13, 10]) (by omega) (by simp; omega)]
          simp
        · rw [if_neg h10, if_neg h10, ih n (by omega) (i + 1) (a ++ [b[i]]) (by omega) (by simp; omega)]
          simp
theorem beq_dec (c k : UInt8) : (c == k) = decide (c = k) := by rw [Bool.eq_iff_iff]; simp
theorem next_lf (b : List UInt8) (i : Nat) (hb : b.length ≤ 1048576) (hi : i < b.length) : (bif decide (w64 ((i : Int) + 1) < (b.length : Int)) then (idx b (w64 ((i : Int) + 1))).bind fun v11 => some ((v11.toNat : Int) == 10) else some false) = some (decide (b[i + 1]? = some 10)) := by
  rw [sc i (by omega)]
  by_cases h : i + 1 < b.length
  · rw [decide_eq_true (by omega), idx_nat, List.getElem?_eq_getElem h]
    simp only [cond_true, Option.bind_some]
    rw [u8_eq _ 10 (by decide), beq_dec]
    congr 1
    rw [Bool.eq_iff_iff]
    simp
  · rw [decide_eq_false (by omega), List.getElem?_eq_none (by omega)]
    rfl
theorem message_lines_eq (b : List UInt8) (hb : b.length ≤ 1048576) : message_lines b = some (bodyL b.length b) := by
  unfold message_lines
  have := body_iter b hb (body := message_lines_l1 b) (fun a => by unfold message_lines_l1; rw [dec_len]; rfl) (fun i c a hc ha => by
    have hi := lt_get hc
    unfold message_lines_l1
    dsimp only
    rw [dec_lt hc, idx_get hc, next_lf b i hb hi]
    simp only [cond_true, Option.bind_some]
    rw [u8_eq c 13 (by decide), u8_eq c 10 (by decide), beq_dec, beq_dec]
    rw [app_ok (show a.length + ([13, 10] : List UInt8).length ≤ _ by simp; omega), app_ok (show a.length + [c].length ≤ _ by simp; omega)]
    by_cases h13 : c = 13
    · rw [if_pos h13, decide_eq_true h13]
      simp only [cond_true, Option.bind_some]
      by_cases h10 : b[i + 1]? = some 10
      · rw [if_pos h10, decide_eq_true h10]
        simp only [cond_true, Option.bind_some]
        rw [sc i (by omega), sc (i + 1) (by omega)]
      · rw [if_neg h10, decide_eq_false h10]
        simp only [cond_false, Option.bind_some]
        rw [sc i (by omega)]
    · rw [if_neg h13, decide_eq_false h13]
      simp only [cond_false, Option.bind_some]
      by_cases h10 : c = 10
      · rw [if_pos h10, decide_eq_true h10]
        simp only [cond_true, Option.bind_some]
        rw [sc i (by omega)]
      · rw [if_neg h10, decide_eq_false h10]
        simp only [cond_false, Option.bind_some]
        rw [sc i (by omega)]) b.length 0 [] (by omega) (by simp)
  rw [show ((0 : Int)) = ((0 : Nat) : Int) from rfl, this]
  rfl
end Go.Proofs.YtpclhpncmlbccaaGreatDoor

/- Messages read, in plain Lean: headers, and whole messages: program and reference. -/
namespace Go.Proofs.YtpclhpncmlbccaaGreatDoor
open Go.RowKit
set_option linter.unusedVariables false
set_option maxHeartbeats 1000000
/-- a loop of plain steps -/
def loopP {S R : Type} (step : S → S ⊕ R) (dflt : R) : Nat → S → R
  | 0, _ => dflt
  | n + 1, s => match step s with | .inl s' => loopP step dflt n s' | .inr r => r
theorem iter_loop {S R A B : Type} (enc : S → A) (out : R → B) (step : S → S ⊕ R) (dflt : R) (Inv : S → Prop) (m : S → Nat) {body : A → Option (Step A B)}
    (h : ∀ s, Inv s → body (enc s) = some (Sum.elim (fun s' => .cont (enc s')) (fun r => .out (out r)) (step s)) ∧ ∀ s', step s = .inl s' → Inv s' ∧ m s' < m s) :
    ∀ (n : Nat) (s : S), Inv s → m s < n → iter body (enc s) = some (out (loopP step dflt n s)) := by
  intro n
  induction n with
  | zero => intro s _ h2; omega
  | succ n ih =>
    intro s hs hm
    obtain ⟨h1, h2⟩ := h s hs
    unfold loopP
    cases hst : step s with
    | inl s' =>
      rw [hst] at h1
      obtain ⟨h3, h4⟩ := h2 s' hst
      rw [iter_cont h1]
      exact ih s' h3 (by omega)
    | inr r =>
      rw [hst] at h1
      exact iter_out h1
theorem loopP_inv {S R : Type} (step : S → S ⊕ R) (dflt : R) (Inv : S → Prop) (Post : R → Prop) (m : S → Nat)
    (h : ∀ s, Inv s → (∀ s', step s = .inl s' → Inv s' ∧ m s' < m s) ∧ ∀ r, step s = .inr r → Post r) : ∀ (n : Nat) (s : S), Inv s → m s < n → Post (loopP step dflt n s) := by
  intro n
  induction n with
  | zero => intro s _ h2; omega
  | succ n ih =>
    intro s hs hm
    obtain ⟨h1, h2⟩ := h s hs
    unfold loopP
    cases hst : step s with
    | inl s' => exact ih s' (h1 s' hst).1 (by have := (h1 s' hst).2; omega)
    | inr r => exact h2 r hst
def addLast (l : List TField) (t : Str) : List TField := match l[l.length - 1]? with
  | some f => l.set (l.length - 1) ⟨f.Name, f.Value ++ t⟩
  | none => l
def hstep (b : List UInt8) (s : Nat × List TField) : (Nat × List TField) ⊕ (Nat × List TField) :=
  if s.1 < b.length then
    match (lineP (b.drop s.1)).1 with
    | [] => .inr (s.1 + (lineP (b.drop s.1)).2, s.2)
    | c :: _ => if blankC c = true ∧ s.2 ≠ [] then .inl (s.1 + (lineP (b.drop s.1)).2, addLast s.2 (lineP (b.drop s.1)).1)
        else if (colP (lineP (b.drop s.1)).1).2.2 = true then .inl (s.1 + (lineP (b.drop s.1)).2, s.2 ++ [⟨(colP (lineP (b.drop s.1)).1).1, (colP (lineP (b.drop s.1)).1).2.1⟩])
        else .inr s
  else .inr s
def HInv (b : List UInt8) (s : Nat × List TField) : Prop := s.1 ≤ b.length ∧ s.2.length ≤ s.1 ∧ ∀ f ∈ s.2, f.Name.length ≤ s.1 ∧ f.Value.length ≤ s.1
theorem lineP_len (b : List UInt8) : (lineP b).1.length ≤ (lineP b).2 := by
  unfold lineP
  split
  · unfold chop
    split <;> simp <;> omega
  · exact Nat.le_refl _
theorem last_some {l : List TField} (h : l ≠ []) : ∃ f, l[l.length - 1]? = some f ∧ f ∈ l := by
  have := List.length_pos_iff.2 h
  exact ⟨l[l.length - 1]'(by omega), List.getElem?_eq_getElem (by omega), List.getElem_mem _⟩
theorem hstep_inv {b : List UInt8} {s : Nat × List TField} (h : HInv b s) : (∀ s', hstep b s = .inl s' → HInv b s' ∧ b.length - s'.1 < b.length - s.1) ∧ ∀ r, hstep b s = .inr r → HInv b r := by
  obtain ⟨h1, h2, h3⟩ := h
  unfold hstep
  by_cases hl : s.1 < b.length
  · rw [if_pos hl]
    have hne : b.drop s.1 ≠ [] := by
      intro e
      have := congrArg List.length e
      simp at this; omega
    obtain ⟨p1, p2, p3⟩ := lineP_pos hne
    have p4 := lineP_len (b.drop s.1)
    rw [List.length_drop] at p2
    generalize lineP (b.drop s.1) = L at p1 p2 p3 p4
    obtain ⟨t, n⟩ := L
    dsimp only at p1 p2 p3 p4 ⊢
    cases t with
    | nil =>
      refine ⟨fun s' e => (by cases e), fun r e => ?_⟩
      cases e
      exact ⟨by show s.1 + n ≤ _; omega, by show s.2.length ≤ s.1 + n; omega, fun f hf => by have := h3 f hf; show _ ≤ s.1 + n ∧ _ ≤ s.1 + n; omega⟩
    | cons c t =>
      dsimp only
      by_cases hb : blankC c = true ∧ s.2 ≠ []
      · rw [if_pos hb]
        refine ⟨fun s' e => ?_, fun r e => by cases e⟩
        cases e
        obtain ⟨f, hf, hm⟩ := last_some hb.2
        have hset : addLast s.2 (c :: t) = s.2.set (s.2.length - 1) ⟨f.Name, f.Value ++ (c :: t)⟩ := by unfold addLast; rw [hf]
        refine ⟨⟨by show s.1 + n ≤ _; omega, ?_, fun g hg => ?_⟩, by show b.length - (s.1 + n) < _; omega⟩
        · show (addLast s.2 (c :: t)).length ≤ s.1 + n
          rw [hset, List.length_set]; omega
        · have hg : g ∈ addLast s.2 (c :: t) := hg
          rw [hset] at hg
          show _ ≤ s.1 + n ∧ _ ≤ s.1 + n
          rcases List.mem_or_eq_of_mem_set hg with h4 | rfl
          · have := h3 g h4; omega
          · have := h3 f hm
            simp only [List.length_append]
            omega
      · rw [if_neg hb]
        by_cases hc : (colP (c :: t)).2.2 = true
        · rw [if_pos hc]
          refine ⟨fun s' e => ?_, fun r e => by cases e⟩
          cases e
          obtain ⟨q1, q2⟩ := colP_len (c :: t)
          refine ⟨⟨by show s.1 + n ≤ _; omega, by simp; omega, fun g hg => ?_⟩, by show b.length - (s.1 + n) < _; omega⟩
          rcases List.mem_append.1 hg with h4 | h4
          · have := h3 g h4
            show _ ≤ s.1 + n ∧ _ ≤ s.1 + n
            omega
          · rw [List.mem_singleton] at h4
            subst h4
            show _ ≤ s.1 + n ∧ _ ≤ s.1 + n
            dsimp only
            omega
        · rw [if_neg hc]
          exact ⟨fun s' e => (by cases e), fun r e => (by cases e; exact ⟨h1, h2, h3⟩)⟩
  · rw [if_neg hl]
    exact ⟨fun s' e => (by cases e), fun r e => (by cases e; exact ⟨h1, h2, h3⟩)⟩
def encH (s : Nat × List TField) : Int × List TField := ((s.1 : Int), s.2)
theorem last_idx {l : List TField} (h : l ≠ []) (hl : l.length ≤ 1048576) : w64 ((l.length : Int) - 1) = ((l.length - 1 : Nat) : Int) := by
  have := List.length_pos_iff.2 h
  rw [show ((l.length : Int) - 1) = ((l.length - 1 : Nat) : Int) by omega, w64_n _ (by omega)]
theorem head_body (b : List UInt8) (hb : b.length ≤ 12000) (s : Nat × List TField) (h : HInv b s) : header_Read_l1 b (encH s) = some (Sum.elim (fun s' => .cont (encH s')) (fun r => .out (encH r)) (hstep b s)) := by
  obtain ⟨h1, h2, h3⟩ := h
  unfold header_Read_l1 hstep encH
  by_cases hl : s.1 < b.length
  · rw [if_pos hl, decide_eq_true (by omega)]
    have hne : b.drop s.1 ≠ [] := by
      intro e
      have := congrArg List.length e
      simp at this; omega
    obtain ⟨p1, p2, p3⟩ := lineP_pos hne
    have p4 := lineP_len (b.drop s.1)
    have hline := header_line_eq (b.drop s.1) (by simp; omega)
    rw [List.length_drop] at p2 p3
    simp only [cond_true]
    rw [cut_nl (by omega)]
    simp only [Option.bind_some]
    rw [hline]
    generalize lineP (b.drop s.1) = L at p1 p2 p3 p4
    obtain ⟨t, n⟩ := L
    dsimp only at p1 p2 p3 p4 ⊢
    simp only [Option.bind_some]
    rw [w64_nn _ _ (by omega)]
    cases t with
    | nil => rfl
    | cons c t =>
      rw [show ((c :: t) == ([] : Str)) = false from rfl, show idx (c :: t) 0 = some c from rfl]
      simp only [cond_false, Option.bind_some, basic_Blank_eq]
      have e0 : (bif blankC c then some (decide ((0 : Int) < (s.2.length : Int))) else some false) = some (decide (blankC c = true ∧ s.2 ≠ [])) := by
        cases blankC c with
        | false => rfl
        | true =>
          simp only [cond_true, Option.some.injEq]
          rw [Bool.eq_iff_iff]
          simp [List.length_pos_iff]
      rw [e0]
      simp only [Option.bind_some]
      by_cases hbl : blankC c = true ∧ s.2 ≠ []
      · rw [if_pos hbl, decide_eq_true hbl]
        obtain ⟨f, hf, hm⟩ := last_some hbl.2
        have hv := h3 f hm
        simp only [cond_true]
        rw [last_idx hbl.2 (by omega), idx_nat, hf]
        simp only [Option.bind_some]
        rw [cat_ok (by omega)]
        simp only [Option.bind_some]
        unfold addLast
        rw [hf]
        rfl
      · rw [if_neg hbl, decide_eq_false hbl]
        simp only [cond_false]
        rw [header_begins_eq _ (by omega)]
        simp only [Option.bind_some]
        cases hc : (colP (c :: t)).2.2 with
        | false => rfl
        | true =>
          rw [if_pos rfl]
          simp only [Bool.not_true, cond_false]
          rw [app_ok (by simp; omega)]
          rfl
  · rw [if_neg hl, decide_eq_false (by omega)]
    rfl
theorem ref_body (b : List UInt8) (hb : b.length ≤ 12000) (s : Nat × List TField) (h : HInv b s) : R_MessageOf_l1 b (encH s) = some (Sum.elim (fun s' => .cont (encH s')) (fun r => .out (encH r)) (hstep b s)) := by
  obtain ⟨h1, h2, h3⟩ := h
  unfold R_MessageOf_l1 hstep encH
  by_cases hl : s.1 < b.length
  · rw [if_pos hl, decide_eq_true (by omega)]
    have hne : b.drop s.1 ≠ [] := by
      intro e
      have := congrArg List.length e
      simp at this; omega
    obtain ⟨p1, p2, p3⟩ := lineP_pos hne
    have p4 := lineP_len (b.drop s.1)
    have hline := R_headLine_eq (b.drop s.1) (by simp; omega)
    rw [List.length_drop] at p2 p3
    simp only [cond_true]
    rw [cut_nl (by omega)]
    simp only [Option.bind_some]
    rw [hline]
    generalize lineP (b.drop s.1) = L at p1 p2 p3 p4
    obtain ⟨t, n⟩ := L
    dsimp only at p1 p2 p3 p4 ⊢
    simp only [Option.bind_some]
    rw [w64_nn _ _ (by omega)]
    cases t with
    | nil => rfl
    | cons c t =>
      rw [show ((c :: t) == ([] : Str)) = false from rfl, show idx (c :: t) 0 = some c from rfl]
      simp only [cond_false, Option.bind_some, R_blank_eq]
      by_cases hs : s.2 = []
      · have e1 : w64 ((s.2.length : Int) - 1) = -1 := by rw [hs]; rfl
        rw [e1, if_neg (fun e => e.2 hs)]
        have e0 : (bif blankC c then some ((-1 : Int), decide ((0 : Int) ≤ -1)) else some (-1, false)) = some (-1, false) := by cases blankC c <;> rfl
        rw [e0]
        simp only [Option.bind_some, cond_false]
        rw [R_colon_eq _ (by omega)]
        simp only [Option.bind_some]
        cases hc : (colP (c :: t)).2.2 with
        | false => rfl
        | true =>
          have hn := colP_ok hc
          rw [if_pos rfl]
          simp only [cond_true]
          rw [beq_eq_false_iff_ne.2 hn]
          simp only [cond_false]
          rw [app_ok (by simp; omega)]
          rfl
      · rw [last_idx hs (by omega)]
        have e0 : (bif blankC c then some (((s.2.length - 1 : Nat) : Int), decide ((0 : Int) ≤ ((s.2.length - 1 : Nat) : Int))) else some (((s.2.length - 1 : Nat) : Int), false)) = some (((s.2.length - 1 : Nat) : Int), blankC c) := by
          cases blankC c with
          | false => rfl
          | true => simp only [cond_true]; rw [decide_eq_true (by omega)]
        rw [e0]
        simp only [Option.bind_some]
        cases hbl : blankC c with
        | true =>
          rw [if_pos ⟨rfl, hs⟩]
          obtain ⟨f, hf, hm⟩ := last_some hs
          have hv := h3 f hm
          simp only [cond_true]
          rw [idx_nat, hf]
          simp only [Option.bind_some]
          rw [cat_ok (by omega)]
          simp only [Option.bind_some]
          unfold addLast
          rw [hf]
          rfl
        | false =>
          rw [if_neg (by simp)]
          simp only [cond_false]
          rw [R_colon_eq _ (by omega)]
          simp only [Option.bind_some]
          cases hc : (colP (c :: t)).2.2 with
          | false => rfl
          | true =>
            have hn := colP_ok hc
            rw [if_pos rfl]
            simp only [cond_true]
            rw [beq_eq_false_iff_ne.2 hn]
            simp only [cond_false]
            rw [app_ok (by simp; omega)]
            rfl
  · rw [if_neg hl, decide_eq_false (by omega)]
    rfl
def headP (b : List UInt8) : Nat × List TField := loopP (hstep b) (0, []) (b.length + 1) (0, [])
theorem hinv0 (b : List UInt8) : HInv b (0, []) := ⟨Nat.zero_le _, Nat.le_refl _, fun f hf => by cases hf⟩
theorem headP_inv (b : List UInt8) : HInv b (headP b) := loopP_inv (hstep b) (0, []) (HInv b) (HInv b) (fun s => b.length - s.1) (fun s hs => hstep_inv hs) _ _ (hinv0 b) (by show b.length - 0 < _; omega)
theorem head_loop (b : List UInt8) (hb : b.length ≤ 12000) : iter (header_Read_l1 b) ((0, ([] : List TField))) = some (encH (headP b)) ∧ iter (R_MessageOf_l1 b) ((0, ([] : List TField))) = some (encH (headP b)) :=
  ⟨iter_loop encH encH (hstep b) (0, []) (HInv b) (fun s => b.length - s.1) (fun s hs => ⟨head_body b hb s hs, (hstep_inv hs).1⟩) _ (0, []) (hinv0 b) (by show b.length - 0 < _; omega),
   iter_loop encH encH (hstep b) (0, []) (HInv b) (fun s => b.length - s.1) (fun s hs => ⟨ref_body b hb s hs, (hstep_inv hs).1⟩) _ (0, []) (hinv0 b) (by show b.length - 0 < _; omega)⟩
def cleanF (f : TField) : TField := ⟨f.Name, cleanV f.Value⟩
end Go.Proofs.YtpclhpncmlbccaaGreatDoor

/- Messages read, in plain Lean: whole messages: program and reference. -/
namespace Go.Proofs.YtpclhpncmlbccaaGreatDoor
open Go.RowKit
set_option linter.unusedVariables false
set_option maxHeartbeats 1000000
def mixF (l : List TField) (i : Nat) : List TField := (l.take i).map cleanF ++ l.drop i
theorem mixF_at {l : List TField} {i : Nat} {x : TField} (h : l[i]? = some x) : (mixF l i)[i]? = some x := by
  have hi := (List.getElem?_eq_some_iff.1 h).1
  unfold mixF
  rw [List.getElem?_append_right (by simp; omega)]
  simp only [List.length_map, List.length_take, List.getElem?_drop]
  rw [show i + (i - min i l.length) = i by omega]
  exact h
theorem mixF_succ {l : List TField} {i : Nat} {x : TField} (h : l[i]? = some x) : (mixF l i).set i (cleanF x) = mixF l (i + 1) := by
  have hi := (List.getElem?_eq_some_iff.1 h).1
  have hx := (List.getElem?_eq_some_iff.1 h).2
  unfold mixF
  rw [List.set_append_right _ _ (by simp; omega)]
  simp only [List.length_map, List.length_take]
  rw [show i - min i l.length = 0 by omega, List.take_add_one, h, List.drop_eq_getElem_cons hi, hx]
  simp
theorem mixF_all (l : List TField) : mixF l l.length = l.map cleanF := by simp [mixF]
theorem mixF_zero (l : List TField) : mixF l 0 = l := by simp [mixF]
def vstep (l : List TField) (i : Nat) : Nat ⊕ Option Nat := match l[i]? with
  | some f => if 4000 < (cleanV f.Value).length then .inr (some i) else .inl (i + 1)
  | none => .inr none
def vout (l : List TField) : Option Nat → (List TField) ⊕ ((List TField) × Int × TFault)
  | none => .inl (l.map cleanF)
  | some i => .inr ([], 0, ⟨1, (i : Int)⟩)
def valsP (l : List TField) : Option Nat := loopP (vstep l) none (l.length + 1) 0
theorem vals_prog (p : Int × List TField) (hl : p.2.length ≤ 1048576) (hv : ∀ f ∈ p.2, f.Value.length ≤ 1048576) : iter (header_Read_l2 p) ((0, p.2)) = some (vout p.2 (valsP p.2)) := by
  have h := iter_loop (fun i : Nat => ((i : Int), mixF p.2 i)) (vout p.2) (vstep p.2) none (fun i => i ≤ p.2.length) (fun i => p.2.length - i) (body := header_Read_l2 p) (fun i hi => ?_) (p.2.length + 1) 0 (Nat.zero_le _) (by omega)
  · rw [mixF_zero] at h
    exact h
  · unfold header_Read_l2 vstep
    cases hf : p.2[i]? with
    | none =>
      have : i = p.2.length := by have := List.getElem?_eq_none_iff.1 hf; omega
      subst this
      dsimp only
      rw [decide_eq_false (by omega), mixF_all]
      exact ⟨rfl, fun s' e => by cases e⟩
    | some f =>
      have hi2 := lt_get hf
      have hfv := hv f (List.mem_of_getElem? hf)
      dsimp only
      rw [decide_eq_true (by omega), idx_get (mixF_at hf)]
      simp only [cond_true, Option.bind_some]
      have ht := Trim_eq f.Value hfv
      have hlt : (cleanV f.Value).length ≤ 1048576 := Nat.le_trans (cleanV_len _) hfv
      cases hr : strings_Replacer_Replace f.Value with
      | none => rw [hr] at ht; cases ht
      | some v =>
        rw [hr] at ht
        simp only [Option.bind_some] at ht ⊢
        rw [ht]
        simp only [Option.bind_some]
        by_cases h4 : 4000 < (cleanV f.Value).length
        · rw [if_pos h4, decide_eq_true (by omega)]
          exact ⟨rfl, fun s' e => by cases e⟩
        · rw [if_neg h4, decide_eq_false (by omega)]
          simp only [cond_false]
          rw [sc i (by omega), Int.toNat_natCast]
          refine ⟨?_, fun s' e => by cases e; exact ⟨by omega, by omega⟩⟩
          rw [show (⟨f.Name, cleanV f.Value⟩ : TField) = cleanF f from rfl, mixF_succ hf]
          rfl
theorem valsP_spec (l : List TField) : (valsP l = none → ∀ f ∈ l, (cleanF f).Value.length ≤ 4000) ∧ (valsP l ≠ none → ∃ f ∈ l, 4000 < (cleanF f).Value.length) := by
  refine loopP_inv (vstep l) none (fun i => i ≤ l.length ∧ ∀ j f, j < i → l[j]? = some f → (cleanF f).Value.length ≤ 4000) (fun r => (r = none → ∀ f ∈ l, (cleanF f).Value.length ≤ 4000) ∧ (r ≠ none → ∃ f ∈ l, 4000 < (cleanF f).Value.length)) (fun i => l.length - i) ?_ _ 0 ⟨Nat.zero_le _, fun j f h => by omega⟩ (by omega)
  rintro i ⟨hi, hj⟩
  unfold vstep
  cases hf : l[i]? with
  | none =>
    refine ⟨fun s' e => (by cases e), fun r e => ?_⟩
    cases e
    refine ⟨fun _ f hm => ?_, fun h => absurd rfl h⟩
    obtain ⟨j, hjf⟩ := List.getElem?_of_mem hm
    have := List.getElem?_eq_none_iff.1 hf
    exact hj j f (by have := lt_get hjf; omega) hjf
  | some f =>
    dsimp only
    by_cases h4 : 4000 < (cleanV f.Value).length
    · rw [if_pos h4]
      refine ⟨fun s' e => (by cases e), fun r e => ?_⟩
      cases e
      exact ⟨fun h => (by cases h), fun _ => ⟨f, List.mem_of_getElem? hf, h4⟩⟩
    · rw [if_neg h4]
      refine ⟨fun s' e => ?_, fun r e => by cases e⟩
      cases e
      have := lt_get hf
      refine ⟨⟨by omega, fun j g hji hg => ?_⟩, by omega⟩
      by_cases e : j = i
      · subst e
        rw [hf] at hg
        cases hg
        exact Nat.le_of_not_lt h4
      · exact hj j g (by omega) hg
def zeroM : TMessage := ⟨[], []⟩
def rawM (b : List UInt8) : TMessage := ⟨(headP b).2.map cleanF, bodyL (b.drop (headP b).1).length (b.drop (headP b).1)⟩
def readP (b : List UInt8) : TMessage × Bool :=
  if 60 < (headP b).2.length then (zeroM, false) else if (msgF (rawM b)).Code = 0 then (rawM b, true) else (zeroM, false)
theorem rawM_small (b : List UInt8) (hb : b.length ≤ 12000) : smallM (rawM b) := by
  obtain ⟨h1, h2, h3⟩ := headP_inv b
  refine ⟨⟨by show ((headP b).2.map cleanF).length ≤ _; simp; omega, fun f hf => ?_⟩, ?_⟩
  · have hf : f ∈ (headP b).2.map cleanF := hf
    obtain ⟨g, hg, rfl⟩ := List.mem_map.1 hf
    have := h3 g hg
    have h4 := cleanV_len g.Value
    show g.Name.length ≤ _ ∧ (cleanV g.Value).length ≤ _
    omega
  · show (bodyL _ _).length ≤ _
    have := bodyL_len (b.drop (headP b).1).length (b.drop (headP b).1)
    simp at this ⊢
    omega
theorem message_Read_eq (b : List UInt8) (hb : b.length ≤ 12000) : ∃ f : TFault, message_Read b = some ((readP b).1, f) ∧ (f.Code != 0) = !(readP b).2 := by
  obtain ⟨h1, h2, h3⟩ := headP_inv b
  unfold message_Read header_Read
  rw [decide_eq_false (by omega), (head_loop b hb).1]
  simp only [cond_false, Option.bind_some, encH]
  unfold readP
  by_cases h60 : 60 < (headP b).2.length
  · rw [if_pos h60, decide_eq_true (by omega)]
    exact ⟨⟨2, -2⟩, rfl, rfl⟩
  · rw [if_neg h60, decide_eq_false (by omega)]
    simp only [cond_false]
    rw [vals_prog ((((headP b).1 : Nat) : Int), (headP b).2) (by show (headP b).2.length ≤ _; omega) (fun f hf => by have := h3 f hf; omega)]
    simp only [Option.bind_some]
    obtain ⟨v1, v2⟩ := valsP_spec (headP b).2
    cases hv : valsP (headP b).2 with
    | none =>
      simp only [vout, Sum.elim_inl, basic_None_eq, Option.bind_some, basic_Failed_eq]
      rw [show ((0 : Int) != 0) = false from rfl]
      simp only [cond_false]
      rw [cut_nl h1]
      simp only [Option.bind_some]
      rw [message_lines_eq _ (by simp; omega)]
      simp only [Option.bind_some]
      rw [show (⟨(headP b).2.map cleanF, bodyL (b.drop (headP b).1).length (b.drop (headP b).1)⟩ : TMessage) = rawM b from rfl, message_Validate_eq _ (rawM_small b hb)]
      simp only [Option.bind_some]
      by_cases h0 : (msgF (rawM b)).Code = 0
      · rw [if_pos h0, h0]
        exact ⟨⟨0, 0⟩, rfl, rfl⟩
      · rw [if_neg h0, bne_iff_ne.2 h0]
        exact ⟨msgF (rawM b), rfl, by rw [bne_iff_ne.2 h0]; rfl⟩
    | some i =>
      have h0 : ¬ (msgF (rawM b)).Code = 0 := by
        intro h0
        obtain ⟨f, hf, h4⟩ := v2 (by rw [hv]; simp)
        have hh : (headF (rawM b).Fields).Code = 0 := by
          by_cases hz : (headF (rawM b).Fields).Code = 0
          · exact hz
          · unfold msgF at h0
            rw [if_pos (by simp [hz])] at h0
            exact h0
        have := (codeP_ok ((headF_code _ hh).2.2 (cleanF f) (List.mem_map.2 ⟨f, hf, rfl⟩))).2.1
        omega
      rw [if_neg h0]
      exact ⟨⟨1, (i : Int)⟩, rfl, rfl⟩
end Go.Proofs.YtpclhpncmlbccaaGreatDoor

/- Messages that are written and read again, in plain Lean. -/
namespace Go.Proofs.YtpclhpncmlbccaaGreatDoor
open Go.RowKit
set_option linter.unusedVariables false
set_option maxHeartbeats 1000000
theorem body_rt : ∀ (k : Nat) (l : List UInt8) (c n : Nat), l.length ≤ k → bodyP c l = none → l.length ≤ n → bodyL n l = l
  | _, [], c, n, _, _, _ => by cases n <;> rfl
  | k, [x], c, n, _, h, hn => by
    unfold bodyP at h
    have hx : (x == 13 || x == 10) = false := by
      cases hq : x == 13 || x == 10 with
      | false => rfl
      | true => rw [if_pos hq] at h; cases h
    simp only [Bool.or_eq_false_iff, beq_eq_false_iff_ne] at hx
    cases n with
    | zero => simp at hn
    | succ n =>
      unfold bodyL
      rw [if_neg hx.1, if_neg hx.2]
      cases n <;> rfl
  | 0, x :: y :: r, c, n, hk, _, _ => by simp at hk
  | k + 1, x :: y :: r, c, n, hk, h, hn => by
    unfold bodyP at h
    cases n with
    | zero => simp at hn
    | succ n =>
      simp only [List.length_cons] at hk hn
      by_cases h1 : (x == 13 && y == 10) = true
      · rw [if_pos h1] at h
        simp only [Bool.and_eq_true, beq_iff_eq] at h1
        obtain ⟨rfl, rfl⟩ := h1
        unfold bodyL
        rw [if_pos rfl, if_pos (by rfl), show (10 :: r : List UInt8).drop 1 = r from rfl, body_rt k r 0 n (by omega) h (by omega)]
      · rw [if_neg h1] at h
        have hx : (x == 13 || x == 10) = false := by
          cases hq : x == 13 || x == 10 with
          | false => rfl
          | true => rw [if_pos hq] at h; cases h
        rw [hx] at h
        simp only [Bool.or_eq_false_iff, beq_eq_false_iff_ne] at hx
        have h9 : bodyP (c + 1) (y :: r) = none := by
          by_cases h9 : 998 < c + 1
          · rw [if_pos h9] at h; simp at h
          · rw [if_neg h9] at h; simpa using h
        unfold bodyL
        rw [if_neg hx.1, if_neg hx.2, body_rt k (y :: r) (c + 1) n (by simp only [List.length_cons]; omega) h9 (by simp only [List.length_cons]; omega)]
theorem lineP_at (l r : List UInt8) (h : (10 : UInt8) ∉ l) : lineP (l ++ 13 :: 10 :: r) = (l, l.length + 2) := by
  have e : eol (l ++ 13 :: 10 :: r) = l.length + 1 := by
    unfold eol
    rw [List.findIdx_append]
    have h1 : l.findIdx (· == 10) = l.length := List.findIdx_eq_length.2 fun x hx => by
      rw [beq_eq_false_iff_ne]
      intro e; subst e; exact h hx
    rw [h1, if_neg (by omega)]
    simp [List.findIdx_cons]
    omega
  unfold lineP
  rw [e, if_pos (by simp)]
  have e2 : (l ++ 13 :: 10 :: r).take (l.length + 1) = l ++ [13] := by
    rw [show l ++ 13 :: 10 :: r = (l ++ [13]) ++ 10 :: r by simp, List.take_left' (by simp)]
  rw [e2]
  have e3 : chop (l ++ [13]) = l := by
    unfold chop
    rw [if_pos (List.isSuffixOf_iff_suffix.2 ⟨l, rfl⟩)]
    simp
  rw [e3]
theorem rtrim_id {l : Str} (h : ∀ b, l.getLast? = some b → blankC b = false) : rtrim l = l := by
  rcases List.eq_nil_or_concat l with rfl | ⟨p, x, rfl⟩
  · rfl
  · rw [List.concat_eq_append] at h ⊢
    rw [rtrim_snoc, h x (by simp)]
    rfl
theorem ltrim_id {l : Str} (h : ∀ b, l.head? = some b → blankC b = false) : ltrim l = l := by
  cases l with
  | nil => rfl
  | cons x l => unfold ltrim; rw [List.dropWhile_cons, h x rfl]; rfl
theorem clean_id {v : Str} (h : ∀ c ∈ v, endC c = false) : v.map cleanB = v := by
  have : v.map cleanB = v.map id := List.map_congr_left fun c hc => by
    have := h c hc
    unfold endC at this
    simp only [Bool.or_eq_false_iff, beq_eq_false_iff_ne] at this
    unfold cleanB
    rw [if_neg (fun e => e.elim this.2 this.1.1)]
    rfl
  rw [this, List.map_id]
theorem clean_rt {v : Str} (h : valP v = true) : cleanV (32 :: v) = v := by
  unfold valP at h
  simp only [Bool.and_eq_true, Bool.not_eq_true', List.any_eq_false, Bool.not_eq_true] at h
  obtain ⟨h1, h2⟩ := h
  unfold cleanV
  have e : (32 :: v : Str).map cleanB = 32 :: v := by
    rw [List.map_cons, clean_id h1]; rfl
  rw [e]
  have e2 : ltrim (32 :: v) = ltrim v := by unfold ltrim; rw [List.dropWhile_cons]; rfl
  have hed : ∀ a b, v.head? = some a → v.getLast? = some b → blankC a = false ∧ blankC b = false := fun a b ha hb => by
    unfold edgeP at h2
    rw [ha, hb] at h2
    simpa using h2
  have e3 : ltrim v = v := ltrim_id fun b hb => by
    have hne : v ≠ [] := fun e => by rw [e] at hb; cases hb
    exact (hed b _ hb (List.getLast?_eq_some_getLast hne)).1
  have e4 : rtrim v = v := rtrim_id fun b hb => by
    cases hv : v with
    | nil => rw [hv] at hb; cases hb
    | cons x t => exact (hed x b (by rw [hv]; rfl) hb).2
  rw [e2, e3, e4]
theorem br_blank {t : Str} {f c : Nat} (h : br t f c = true) : ∃ b r, t.drop c = b :: r ∧ blankC b = true := by
  obtain ⟨h1, h2, h3⟩ := br_lt h
  rw [br_at h2 h1] at h
  simp only [Bool.and_eq_true] at h
  exact ⟨t[c], t.drop (c + 1), List.drop_eq_getElem_cons h1, h.2.1⟩
theorem cut_br {t : Str} {f : Nat} (h : cutP t f ≠ 0) : br t f (cutP t f) = true := by
  rcases cutP_is t f with h1 | h1
  · exact absurd h1.1 h
  · exact h1.1
theorem lines_blank : ∀ (n : Nat) (t : Str) (f : Nat), t.length ≤ n → (∃ b r, t = b :: r ∧ blankC b = true) → ∀ l ∈ linesOf t f, ∃ b r, l = b :: r ∧ blankC b = true
  | 0, t, f, hn, ⟨b, r, e, _⟩ => by rw [e] at hn; simp at hn
  | n + 1, t, f, hn, ⟨b, r, e, hb⟩ => fun l hl => by
    by_cases h78 : 78 < t.length
    · by_cases hc : cutP t f = 0
      · rw [linesOf_end (.inr hc), List.mem_singleton] at hl
        exact ⟨b, r, hl.trans e, hb⟩
      · have hp := cutP_pos hc
        rw [linesOf_long h78 hc] at hl
        rcases List.mem_cons.1 hl with h1 | h1
        · obtain ⟨k, hk⟩ : ∃ k, cutP t f = k + 1 := ⟨cutP t f - 1, by omega⟩
          rw [hk, e] at h1
          exact ⟨b, r.take k, by rw [h1]; rfl, hb⟩
        · exact lines_blank n (t.drop (cutP t f)) 1 (by simp; omega) (br_blank (cut_br hc)) l h1
    · rw [linesOf_end (.inl h78), List.mem_singleton] at hl
      exact ⟨b, r, hl.trans e, hb⟩
theorem flP_shape (n v : Str) : ∃ (v1 : Str) (L : List Str), flP n v = (n ++ 58 :: 32 :: v1) :: L ∧ v1 ++ L.flatten = v ∧ ∀ l ∈ L, ∃ b r, l = b :: r ∧ blankC b = true := by
  have ht : txt n v = n ++ 58 :: 32 :: v := by unfold txt; simp
  unfold flP
  by_cases h78 : 78 < (txt n v).length
  · by_cases hc : cutP (txt n v) (n.length + 2) = 0
    · rw [linesOf_end (.inr hc), ht]
      exact ⟨v, [], rfl, by simp, by simp⟩
    · have hb := cut_br hc
      obtain ⟨h1, h2, h3⟩ := br_lt hb
      have hj := (linesOf_join _ (txt n v) (n.length + 2) (Nat.le_refl _)).1
      rw [linesOf_long h78 hc] at hj ⊢
      have e : (txt n v).take (cutP (txt n v) (n.length + 2)) = n ++ 58 :: 32 :: v.take (cutP (txt n v) (n.length + 2) - (n.length + 2)) := by
        rw [show txt n v = (n ++ [58, 32]) ++ v by rw [ht]; simp, List.take_append]
        rw [List.take_of_length_le (by simp; rw [← ht]; exact h3)]
        simp
      refine ⟨_, _, by rw [e], ?_, lines_blank _ _ 1 (Nat.le_refl _) (br_blank hb)⟩
      rw [List.flatten_cons, e, ht, List.append_assoc] at hj
      have := List.append_cancel_left hj
      simpa [ht] using this
  · rw [linesOf_end (.inl h78), ht]
    exact ⟨v, [], rfl, by simp, by simp⟩
theorem fn_parts {n : Str} (h : fnP n = true) : n ≠ [] ∧ ∀ c ∈ n, fnC c = true := by
  unfold fnP at h
  simp only [Bool.and_eq_true, bne_iff_ne, ne_eq, List.all_eq_true] at h
  exact ⟨h.1.1, h.2⟩
theorem fnC_no {c : UInt8} (h : fnC c = true) : c ≠ 58 ∧ c ≠ 10 ∧ c ≠ 13 ∧ blankC c = false := by
  unfold fnC at h
  simp only [Bool.and_eq_true, decide_eq_true_eq, bne_iff_ne] at h
  have h33 : (33 : UInt8).toNat ≤ c.toNat := UInt8.le_iff_toNat_le.1 h.1.1
  have k : (33 : UInt8).toNat = 33 := rfl
  refine ⟨h.2, ?_, ?_, ?_⟩
  · rintro rfl; exact absurd h33 (by decide)
  · rintro rfl; exact absurd h33 (by decide)
  · unfold blankC
    rw [Bool.or_eq_false_iff, beq_eq_false_iff_ne, beq_eq_false_iff_ne]
    constructor
    · rintro rfl; exact absurd h33 (by decide)
    · rintro rfl; exact absurd h33 (by decide)
theorem colP_at {n v1 : Str} (h : fnP n = true) : colP (n ++ 58 :: 32 :: v1) = (n, 32 :: v1, true) := by
  obtain ⟨h1, h2⟩ := fn_parts h
  have e : colI (n ++ 58 :: 32 :: v1) = n.length := by
    unfold colI
    rw [List.findIdx_append]
    have h3 : n.findIdx (· == 58) = n.length := List.findIdx_eq_length.2 fun x hx => by
      rw [beq_eq_false_iff_ne]; exact (fnC_no (h2 x hx)).1
    rw [h3, if_neg (by omega)]
    simp [List.findIdx_cons]
  have er : rtrim n = n := rtrim_id fun b hb => (fnC_no (h2 b (List.mem_of_getLast? hb))).2.2.2
  unfold colP
  rw [e, if_pos (by simp), List.take_left' rfl, er, h]
  have : (n ++ 58 :: 32 :: v1).drop (n.length + 1) = 32 :: v1 := by
    rw [show n ++ 58 :: 32 :: v1 = (n ++ [58]) ++ 32 :: v1 by simp, List.drop_left' (by simp)]
  rw [this]
def crs (l : Str) : List UInt8 := l ++ [13, 10]
theorem addLast_snoc (fs : List TField) (f : TField) (t : Str) : addLast (fs ++ [f]) t = fs ++ [⟨f.Name, f.Value ++ t⟩] := by
  unfold addLast
  have e : (fs ++ [f])[(fs ++ [f]).length - 1]? = some f := by simp
  rw [e]
  simp
theorem loop_cont {b : List UInt8} {s s' : Nat × List TField} (d : Nat × List TField) (n : Nat) (h : hstep b s = .inl s') : loopP (hstep b) d (n + 1) s = loopP (hstep b) d n s' := by
  rw [loopP, h]
theorem conts_rt (b : List UInt8) (d : Nat × List TField) (n : Nat) (fs : List TField) : ∀ (L : List Str) (p r : List UInt8) (f : TField), (∀ l ∈ L, (10 : UInt8) ∉ l ∧ ∃ c t, l = c :: t ∧ blankC c = true) → b = p ++ (L.flatMap crs ++ r) →
    loopP (hstep b) d (n + L.length) (p.length, fs ++ [f]) = loopP (hstep b) d n ((p ++ L.flatMap crs).length, fs ++ [⟨f.Name, f.Value ++ L.flatten⟩])
  | [], p, r, f, _, _ => by simp
  | l :: L, p, r, f, hL, hb => by
    obtain ⟨h10, c, t, e, hc⟩ := hL l (by simp)
    have hb2 : b = (p ++ crs l) ++ (L.flatMap crs ++ r) := by rw [hb]; simp
    have hd : b.drop p.length = l ++ 13 :: 10 :: (L.flatMap crs ++ r) := by
      rw [hb, List.drop_left' rfl]
      simp [crs]
    have hs : hstep b (p.length, fs ++ [f]) = .inl ((p ++ crs l).length, fs ++ [⟨f.Name, f.Value ++ l⟩]) := by
      unfold hstep
      dsimp only
      rw [if_pos (by rw [hb, List.flatMap_cons]; simp [crs]; omega), hd, lineP_at _ _ h10]
      dsimp only
      rw [e]
      dsimp only
      rw [if_pos ⟨hc, by simp⟩, ← e, addLast_snoc]
      simp [crs]
    rw [List.length_cons, show n + (L.length + 1) = (n + L.length) + 1 by omega, loop_cont d _ hs, conts_rt b d n fs L (p ++ crs l) r ⟨f.Name, f.Value ++ l⟩ (fun x hx => hL x (by simp [hx])) hb2]
    simp
theorem field_rt (b : List UInt8) (d : Nat × List TField) (n : Nat) (fs : List TField) (f : TField) (hf : codeP f = 0) (p r : List UInt8) (hb : b = p ++ ((flP f.Name f.Value).flatMap crs ++ r)) :
    loopP (hstep b) d (n + (flP f.Name f.Value).length) (p.length, fs) = loopP (hstep b) d n ((p ++ (flP f.Name f.Value).flatMap crs).length, fs ++ [⟨f.Name, 32 :: f.Value⟩]) := by
  rw [codeP_eq] at hf
  unfold codeQ at hf
  have hn : fnP f.Name = true := by
    cases e : fnP f.Name with
    | true => rfl
    | false => rw [e, if_pos (by simp)] at hf; exact absurd hf (by decide)
  rw [hn, if_neg (by simp)] at hf
  have hv4 : ¬ 4000 < f.Value.length := fun e => by rw [if_pos e] at hf; exact absurd hf (by decide)
  rw [if_neg hv4] at hf
  have hv : valP f.Value = true := by
    cases e : valP f.Value with
    | true => rfl
    | false => rw [e, if_pos (by simp)] at hf; exact absurd hf (by decide)
  obtain ⟨h1, h2⟩ := fn_parts hn
  have hj := (linesOf_join _ (txt f.Name f.Value) (f.Name.length + 2) (Nat.le_refl _)).1
  have no10 : (10 : UInt8) ∉ txt f.Name f.Value := by
    intro h
    unfold txt at h
    rcases List.mem_append.1 h with h | h
    · rcases List.mem_append.1 h with h | h
      · exact (fnC_no (h2 _ h)).2.1 rfl
      · simp at h
    · unfold valP at hv
      simp only [Bool.and_eq_true, Bool.not_eq_true', List.any_eq_false] at hv
      exact hv.1 _ h rfl
  have no10l : ∀ l ∈ flP f.Name f.Value, (10 : UInt8) ∉ l := fun l hl h => no10 (by
    rw [← hj]
    exact List.mem_flatten.2 ⟨l, hl, h⟩)
  obtain ⟨v1, L, e1, e2, e3⟩ := flP_shape f.Name f.Value
  rw [e1] at hb no10l ⊢
  have hfirst := no10l _ (List.mem_cons_self ..)
  have hb2 : b = (p ++ crs (f.Name ++ 58 :: 32 :: v1)) ++ (L.flatMap crs ++ r) := by rw [hb]; simp
  have hd : b.drop p.length = (f.Name ++ 58 :: 32 :: v1) ++ 13 :: 10 :: (L.flatMap crs ++ r) := by
    rw [hb, List.drop_left' rfl]
    simp [crs]
  have hs : hstep b (p.length, fs) = .inl ((p ++ crs (f.Name ++ 58 :: 32 :: v1)).length, fs ++ [⟨f.Name, 32 :: v1⟩]) := by
    unfold hstep
    dsimp only
    rw [if_pos (by rw [hb, List.flatMap_cons]; simp [crs]; omega), hd, lineP_at _ _ hfirst]
    dsimp only
    obtain ⟨c, t, hct⟩ : ∃ c t, f.Name = c :: t := List.exists_cons_of_ne_nil h1
    have hc : blankC c = false := (fnC_no (h2 c (by rw [hct]; simp))).2.2.2
    have e4 : f.Name ++ 58 :: 32 :: v1 = c :: (t ++ 58 :: 32 :: v1) := by rw [hct]; rfl
    rw [e4]
    dsimp only
    rw [← e4, if_neg (by rw [hc]; simp), colP_at hn, if_pos rfl]
    simp [crs]
    omega
  rw [List.length_cons, show n + (L.length + 1) = (n + L.length) + 1 by omega, loop_cont d _ hs, conts_rt b d n fs L _ r ⟨f.Name, 32 :: v1⟩ (fun l hl => ⟨no10l l (by simp [hl]), e3 l hl⟩) hb2]
  rw [← e2]
  simp
def linesF (f : TField) : List UInt8 := (flP f.Name f.Value).flatMap crs
theorem addF_eq (a : List UInt8) (f : TField) : addF a f = a ++ linesF f := by
  unfold addF linesF
  have key : ∀ (L : List Str) (a : List UInt8), L.foldl addL a = a ++ L.flatMap crs := by
    intro L
    induction L with
    | nil => intro a; simp
    | cons l L ih => intro a; rw [List.foldl_cons, ih]; simp [addL, crs]
  exact key _ a
theorem fields_eq (L : List TField) (a : List UInt8) : L.foldl addF a = a ++ L.flatMap linesF := by
  induction L generalizing a with
  | nil => simp
  | cons f L ih => rw [List.foldl_cons, ih, addF_eq]; simp
theorem bytesP_eq (m : TMessage) : bytesP m = m.Fields.flatMap linesF ++ 13 :: 10 :: m.Body := by
  unfold bytesP
  rw [fields_eq]
  simp
def countL (L : List TField) : Nat := (L.map fun f => (flP f.Name f.Value).length).sum
theorem fields_rt (b : List UInt8) (d : Nat × List TField) (n : Nat) : ∀ (L : List TField) (fs : List TField) (p r : List UInt8), (∀ f ∈ L, codeP f = 0) → b = p ++ (L.flatMap linesF ++ r) →
    loopP (hstep b) d (n + countL L) (p.length, fs) = loopP (hstep b) d n ((p ++ L.flatMap linesF).length, fs ++ L.map fun f => ⟨f.Name, 32 :: f.Value⟩)
  | [], fs, p, r, _, _ => by simp [countL]
  | f :: L, fs, p, r, hL, hb => by
    have hb2 : b = (p ++ linesF f) ++ (L.flatMap linesF ++ r) := by rw [hb]; simp
    have e : countL (f :: L) = countL L + (flP f.Name f.Value).length := by unfold countL; simp; omega
    rw [e, show n + (countL L + (flP f.Name f.Value).length) = (n + countL L) + (flP f.Name f.Value).length by omega]
    rw [field_rt b d (n + countL L) fs f (hL f (by simp)) p (L.flatMap linesF ++ r) (by rw [hb]; simp [linesF])]
    have := fields_rt b d n L (fs ++ [⟨f.Name, 32 :: f.Value⟩]) (p ++ linesF f) r (fun g hg => hL g (by simp [hg])) hb2
    unfold linesF at this ⊢
    rw [this]
    simp
theorem crs_len (L : List Str) : L.length ≤ (L.flatMap crs).length := by
  induction L with
  | nil => simp
  | cons l L ih => simp [crs] at ih ⊢; omega
theorem countL_len (L : List TField) : countL L ≤ (L.flatMap linesF).length := by
  induction L with
  | nil => simp [countL]
  | cons f L ih =>
    have := crs_len (flP f.Name f.Value)
    unfold countL at ih ⊢
    simp only [List.map_cons, List.sum_cons, List.flatMap_cons, List.length_append]
    unfold linesF at ih ⊢
    omega
theorem head_rt {m : TMessage} (h : ∀ f ∈ m.Fields, codeP f = 0) : headP (bytesP m) = ((m.Fields.flatMap linesF).length + 2, m.Fields.map fun f => ⟨f.Name, 32 :: f.Value⟩) := by
  unfold headP
  have hb := bytesP_eq m
  have hl := countL_len m.Fields
  have hlen : (bytesP m).length = (m.Fields.flatMap linesF).length + 2 + m.Body.length := by rw [hb]; simp; omega
  rw [show (bytesP m).length + 1 = ((bytesP m).length - countL m.Fields) + 1 + countL m.Fields by omega]
  rw [show ((0, []) : Nat × List TField) = (([] : List UInt8).length, []) from rfl]
  rw [fields_rt (bytesP m) _ _ m.Fields [] [] (13 :: 10 :: m.Body) h (by rw [hb]; rfl)]
  simp only [List.nil_append]
  have hs : hstep (bytesP m) ((m.Fields.flatMap linesF).length, m.Fields.map fun f => ⟨f.Name, 32 :: f.Value⟩) = .inr ((m.Fields.flatMap linesF).length + 2, m.Fields.map fun f => ⟨f.Name, 32 :: f.Value⟩) := by
    unfold hstep
    dsimp only
    have hd : (bytesP m).drop (m.Fields.flatMap linesF).length = [] ++ 13 :: 10 :: m.Body := by
      rw [hb, List.drop_left' rfl]; rfl
    rw [if_pos (by omega), hd, lineP_at [] _ (by simp)]
    rfl
  rw [loopP, hs]
theorem msg_parts {m : TMessage} (h : (msgF m).Code = 0) : m.Fields.length ≤ 60 ∧ (∀ f ∈ m.Fields, codeP f = 0) ∧ (bytesP m).length ≤ 12000 ∧ bodyP 0 m.Body = none := by
  unfold msgF at h
  have hh : (headF m.Fields).Code = 0 := by
    by_cases hz : (headF m.Fields).Code = 0
    · exact hz
    · rw [if_pos (by simpa using hz)] at h
      exact h
  obtain ⟨q1, q2, q3⟩ := headF_code _ hh
  rw [hh, if_neg (by decide)] at h
  have hl : ¬ 12000 < (bytesP m).length := fun e => by rw [if_pos e] at h; exact absurd h (by decide)
  rw [if_neg hl] at h
  refine ⟨by omega, q3, by omega, ?_⟩
  unfold bodyF at h
  cases hb : bodyP 0 m.Body with
  | none => rfl
  | some x =>
    rw [hb] at h
    cases x <;> exact absurd h (by decide)
theorem rawM_rt {m : TMessage} (h : (msgF m).Code = 0) : rawM (bytesP m) = m := by
  obtain ⟨h1, h2, h3, h4⟩ := msg_parts h
  unfold rawM
  rw [head_rt h2]
  dsimp only
  have hd : (bytesP m).drop ((m.Fields.flatMap linesF).length + 2) = m.Body := by
    rw [bytesP_eq, show m.Fields.flatMap linesF ++ 13 :: 10 :: m.Body = (m.Fields.flatMap linesF ++ [13, 10]) ++ m.Body by simp, List.drop_left' (by simp)]
  rw [hd, body_rt _ m.Body 0 _ (Nat.le_refl _) h4 (Nat.le_refl _), List.map_map]
  have : m.Fields.map (cleanF ∘ fun f => ⟨f.Name, 32 :: f.Value⟩) = m.Fields.map id := List.map_congr_left fun f hf => by
    have hc := h2 f hf
    have hv : valP f.Value = true := by
      rw [codeP_eq] at hc
      unfold codeQ at hc
      cases e : valP f.Value with
      | true => rfl
      | false =>
        rw [e] at hc
        split at hc
        · exact absurd hc (by decide)
        split at hc
        · exact absurd hc (by decide)
        · rw [if_pos (by decide)] at hc
          exact absurd hc (by decide)
    show cleanF ⟨f.Name, 32 :: f.Value⟩ = f
    unfold cleanF
    rw [clean_rt hv]
  rw [this, List.map_id]
theorem readP_rt {m : TMessage} (h : (msgF m).Code = 0) : readP (bytesP m) = (m, true) := by
  obtain ⟨h1, h2, h3, h4⟩ := msg_parts h
  unfold readP
  rw [rawM_rt h, head_rt h2, if_neg (by simp; omega), if_pos h]
end Go.Proofs.YtpclhpncmlbccaaGreatDoor

/- Notices that are written, read and traced, in plain Lean. -/
namespace Go.Proofs.YtpclhpncmlbccaaGreatDoor
open Go.RowKit
set_option linter.unusedVariables false
set_option maxHeartbeats 1000000
theorem write_msg {m : TMessage} (hm : (msgF m).Code = 0) (h2 : smallM m) : message_Write m = some (bytesP m, ⟨0, 0⟩) := by
  have hh : (headF m.Fields).Code = 0 := by
    unfold msgF at hm
    by_cases hz : (headF m.Fields).Code = 0
    · exact hz
    · rw [if_pos (by simpa using hz)] at hm
      exact hm
  obtain ⟨q1, q2, q3⟩ := headF_code _ hh
  unfold message_Write
  rw [message_Validate_eq _ h2]
  simp only [Option.bind_some, basic_Failed_eq, basic_None_eq, hm, message_write_eq m h2.2 (by omega) q3]
  rfl
theorem get_st (m : TMessage) (b i x : Str) : getP (stM m b i x).Fields fNote = getP m.Fields fNote := by
  have h : sameP rcv fNote = false := by decide +kernel
  unfold stM getP
  rw [List.filter_cons_of_neg (by rw [h]; decide)]
theorem read_st (m : TMessage) (b i x : Str) : readN (stM m b i x) = readN m := by
  unfold readN
  rw [get_st]
  rfl
theorem stampP_good {m : TMessage} {b i : Str} {t : Int} (h : (stampP m b i t).2.Code = 0) : ∃ x, stampP m b i t = (stM m b i x, ⟨0, 0⟩) ∧ (msgF (stM m b i x)).Code = 0 := by
  unfold stampP at h ⊢
  cases hc : (msgF m).Code != 0 with
  | true => rw [hc] at h; exact absurd h (by simpa using hc)
  | false =>
    rw [hc] at h
    simp only [cond_false] at h ⊢
    cases hn1 : nameP b with
    | false => rw [hn1] at h; exact absurd h (show (10 : Int) ≠ 0 by decide)
    | true =>
      rw [hn1] at h
      cases hn2 : nameP i with
      | false => rw [hn2] at h; exact absurd h (show (10 : Int) ≠ 0 by decide)
      | true =>
        rw [hn2] at h
        simp only [Bool.not_true, cond_false] at h ⊢
        cases h6 : (m.Fields.length : Int) == 60 with
        | true => rw [h6] at h; exact absurd h (show (2 : Int) ≠ 0 by decide)
        | false =>
          rw [h6] at h
          simp only [cond_false] at h ⊢
          cases hw : whenP t with
          | none => rw [hw] at h; exact absurd h (show (3 : Int) ≠ 0 by decide)
          | some x =>
            rw [hw] at h
            dsimp only at h ⊢
            cases hz : (msgF (stM m b i x)).Code != 0 with
            | true => rw [hz] at h; exact absurd h (by simpa using hz)
            | false => exact ⟨x, rfl, by simpa using hz⟩
theorem read_way {m : TMail} {k : Int} {l : List TTold} {x : Str} (h : NoteIn m k l x) {b : Str} {t : Int} (hz : (stampP (noteMsg m.Envelope k l x) b [49] t).2.Code = 0) :
    notice_Read (stampP (noteMsg m.Envelope k l x) b [49] t).1 = some (⟨k, m.Envelope.Id, l⟩, true, ⟨0, 0⟩) := by
  have hs := stampP_small (b := b) (i := [49]) (t := t) (note_small h (.inl rfl)).2
  obtain ⟨y, h1, h2⟩ := stampP_good hz
  rw [h1] at hs ⊢
  rw [notice_Read_eq _ hs, h2, read_st, read_note h.kind h.idn h.id57 h.told]
  rfl
end Go.Proofs.YtpclhpncmlbccaaGreatDoor

/- Functions of the program as Lean functions: what they compute. Written by program. -/
namespace Go.Proofs.YtpclhpncmlbccaaGreatDoor
open Go.RowKit
set_option maxRecDepth 100000
set_option maxHeartbeats 40000000
set_option linter.unusedVariables false
end Go.Proofs.YtpclhpncmlbccaaGreatDoor

/- Functions of the program as Lean functions: what they compute. Written by program. -/
namespace Go.Proofs.YtpclhpncmlbccaaGreatDoor
open Go.RowKit
set_option maxRecDepth 100000
set_option maxHeartbeats 40000000
set_option linter.unusedVariables false
end Go.Proofs.YtpclhpncmlbccaaGreatDoor

/- Functions of the program as Lean functions: what they compute. Written by program. -/
namespace Go.Proofs.YtpclhpncmlbccaaGreatDoor
open Go.RowKit
set_option maxRecDepth 100000
set_option maxHeartbeats 40000000
set_option linter.unusedVariables false
end Go.Proofs.YtpclhpncmlbccaaGreatDoor

/- Functions of the program as Lean functions: what they compute. Written by program. -/
namespace Go.Proofs.YtpclhpncmlbccaaGreatDoor
open Go.RowKit
set_option maxRecDepth 100000
set_option maxHeartbeats 40000000
set_option linter.unusedVariables false
def L_sameNotice_l1 (a0 : TNotice) (a1 : TNotice) (s5 : Int) : Option (Step Int (Unit ⊕ Bool)) :=
  (bif decide (s5 < (a0.Told.length : Int)) then (idx a0.Told s5).bind fun v11 => (idx a1.Told s5).bind fun v13 => (bif (!(allEq [(v11.Address == v13.Address), (v11.Result == v13.Result)])) then some (.out (.inr false)) else some (.cont (w64 (s5 + 1)))) else some (.out (.inl (()))))
noncomputable def L_sameNotice (a0 : TNotice) (a1 : TNotice) : Option Bool :=
  ((bif (a0.Kind != a1.Kind) then some true else (bif (a0.Id != a1.Id) then some true else some (((a0.Told.length : Int) != (a1.Told.length : Int))))) : Option Bool).bind fun (j1 : Bool) => (bif j1 then some false else (iter (L_sameNotice_l1 a0 a1) 0).bind (Sum.elim (fun b6 => some true) (fun b7 => some b7)))
noncomputable def L_NoticeSurvivesTheWay (a0 : TMail) (a1 : Int) (a2 : List TTold) (a3 : Int) (a4 : Str) : Option Bool :=
  (notice_Make a0 a1 a2 a3).bind fun v1 => ((L_tells).bind fun v4 => (bif (!v4) then some true else some ((v1.2.Code != 0))) : Option Bool).bind fun (j3 : Bool) => (bif j3 then ((L_tells).bind fun v9 => (bif v9 then some (((v1.1.Envelope.To.length : Int) == 0)) else some false) : Option Bool).bind fun (j8 : Bool) => some j8 else (message_Write v1.1.Message).bind fun v12 => (message_Read v12.1).bind fun v14 => ((bif (v12.2.Code != 0) then some true else some ((v14.2.Code != 0))) : Option Bool).bind fun (j16 : Bool) => (bif j16 then some false else (trace_Stamp v14.1 a4 (([49] : Str)) a3).bind fun v19 => ((bif (v19.2.Code != 0) then some ((v14.1.Fields, v14.1.Body)) else some ((v19.1.Fields, v19.1.Body))) : Option ((List TField) × (List UInt8))).bind fun (j21 : (List TField) × (List UInt8)) => (notice_Read ((TMessage.mk j21.1 j21.2))).bind fun v23 => ((bif (v23.2.2.Code == 0) then (bif v23.2.1 then (bif (v23.1.Kind == a1) then (bif (v23.1.Id == a0.Envelope.Id) then (L_sameNotice v23.1 ((TNotice.mk a1 a0.Envelope.Id a2))).bind fun v30 => some v30 else some false) else some false) else some false) else some false) : Option Bool).bind fun (j25 : Bool) => some j25))
end Go.Proofs.YtpclhpncmlbccaaGreatDoor

/- The law NoticeSurvivesTheWay in plain Lean. -/
namespace Go.Proofs.YtpclhpncmlbccaaGreatDoor
open Go.RowKit
set_option linter.unusedVariables false
theorem same_notice (n : TNotice) (h : n.Told.length ≤ 1048576) : L_sameNotice n n = some true := by
  unfold L_sameNotice
  simp only [bne_self_eq_false, cond_false, Option.bind_some]
  rw [iter_first n.Told (fun _ _ => (none : Option Bool)) (.inl ()) .inr]
  · rw [firstI_none.2 (fun _ _ _ => rfl)]; rfl
  · unfold L_sameNotice_l1; rw [dec_len]; rfl
  · intro i t ht
    have hi := lt_get ht
    unfold L_sameNotice_l1
    rw [dec_lt ht, idx_get ht]
    simp only [cond_true, Option.bind_some, beq_self_eq_true, sc i (by omega)]
    rfl
theorem make_bad {m : TMail} {k : Int} {l : List TTold} {now : Int} (h : (makeP m k l now).2.Code ≠ 0) : (makeP m k l now).1 = noMail := by
  unfold makeP at h ⊢
  cases h1 : (mailF m).Code != 0 with
  | true => rfl
  | false =>
    cases h2 : m.Envelope.From == ([] : Str) with
    | true => rfl
    | false =>
      cases h3 : kindW k == ([] : Str) with
      | true => rfl
      | false =>
        cases h4 : decide (57 < m.Envelope.Id.length) with
        | true => rfl
        | false =>
          cases h5 : (toldF l).Code != 0 with
          | true => rfl
          | false =>
            cases h6 : whenP now with
            | none => rfl
            | some x => rw [h1, h2, h3, h4, h5, h6] at h; exact absurd rfl h
theorem L_NoticeSurvivesTheWay_true (a0 : TMail) (a1 : Int) (a2 : List TTold) (a3 : Int) (a4 : Str) (o0 : TMail.ok a0) (o1 : ok64 a1) (o2 : (okL TTold.ok) a2) (o3 : ok64 a3) (o4 : okStr a4) (hk : TMail.bk a0 + (fun _ => 1) a1 + (bkL TTold.bk) a2 + (fun _ => 1) a3 + (fun s => s.length + 1) a4 ≤ 1048576) : L_NoticeSurvivesTheWay a0 a1 a2 a3 a4 = some true := by
  dsimp only at hk
  have hb : TMail.bk a0 = TEnvelope.bk a0.Envelope + TMessage.bk a0.Message + 1 := rfl
  have h1 : smallE a0.Envelope := smallE_of (by omega)
  have h2 : smallM a0.Message := smallM_of (by omega)
  have h3 : smallT a2 := smallT_of (by omega)
  unfold L_NoticeSurvivesTheWay
  rw [notice_Make_eq _ _ _ _ h1 h2 h3, L_tells_eq]
  simp only [Option.bind_some, Bool.not_true, cond_false, cond_true]
  by_cases hc : (makeP a0 a1 a2 a3).2.Code = 0
  · obtain ⟨x, hx, he, hin⟩ := make_in hc
    have hm : (msgF (noteMsg a0.Envelope a1 a2 x)).Code = 0 := by rw [note_msg hin]
    have hsm := (note_small hin (.inl rfl)).2
    obtain ⟨f, hr, hf⟩ := message_Read_eq (bytesP (noteMsg a0.Envelope a1 a2 x)) (msg_parts hm).2.2.1
    rw [readP_rt hm] at hr hf
    rw [he]
    simp only [noteM]
    rw [write_msg hm hsm]
    simp only [Option.bind_some, bne_self_eq_false, cond_false]
    rw [hr]
    simp only [Option.bind_some]
    rw [hf]
    simp only [Bool.not_true, cond_false]
    rw [trace_Stamp_eq _ _ _ _ hsm (by omega) (by decide)]
    simp only [Option.bind_some]
    have key : ∀ z : TMessage, notice_Read z = some (⟨a1, a0.Envelope.Id, a2⟩, true, ⟨0, 0⟩) → ((notice_Read (TMessage.mk z.Fields z.Body)).bind fun v23 => ((bif (v23.2.2.Code == 0) then (bif v23.2.1 then (bif (v23.1.Kind == a1) then (bif (v23.1.Id == a0.Envelope.Id) then (L_sameNotice v23.1 ((TNotice.mk a1 a0.Envelope.Id a2))).bind fun v30 => some v30 else some false) else some false) else some false) else some false) : Option Bool).bind fun (j25 : Bool) => some j25) = some true := by
      intro z hz
      rw [show TMessage.mk z.Fields z.Body = z from rfl, hz]
      simp only [Option.bind_some, beq_self_eq_true, cond_true]
      rw [same_notice _ h3.1]
      rfl
    cases hz : (stampP (noteMsg a0.Envelope a1 a2 x) a4 [49] a3).2.Code != 0 with
    | true =>
      simp only [cond_true, Option.bind_some]
      exact key (noteMsg a0.Envelope a1 a2 x) (note_read hin)
    | false =>
      simp only [cond_false, Option.bind_some]
      exact key (stampP (noteMsg a0.Envelope a1 a2 x) a4 [49] a3).1 (read_way hin (by simpa using hz))
  · have hc1 : ((makeP a0 a1 a2 a3).2.Code != 0) = true := by simpa using hc
    rw [hc1, make_bad hc]
    rfl
end Go.Proofs.YtpclhpncmlbccaaGreatDoor

namespace Go.Proofs.YtpclhpncmlbccaaGreatDoor
open Go.RowKit
set_option maxRecDepth 100000
set_option maxHeartbeats 40000000
set_option linter.unusedVariables false
theorem L_sameNotice_run (a0 : TNotice) (a1 : TNotice) (r : Bool) (hr : L_sameNotice a0 a1 = some r) : Run Tryz.prog 10 [.agg [.i a0.Kind, .s a0.Id, .l TTold.pc a0.Told], .agg [.i a1.Kind, .s a1.Id, .l TTold.pc a1.Told]] (.bo r) := by
 unfold L_sameNotice at hr
 refine rf (fn := Tryz.f10) ⟨Tryz.func10, rfl, by kernel_rfl⟩ rfl (fun _ => rfl) fun g0 hg => ?_
 refine rn tk 8 rfl ?_
 refine jb hr (fun j1 => [(2, .ptr 2 0), (3, .ptr 3 0), (26, .bo j1)]) (fun j1 => [(3, .cells [.i a1.Kind, .s a1.Id, .l TTold.pc a1.Told]), (2, .cells [.i a0.Kind, .s a0.Id, .l TTold.pc a0.Told])]) (fun j1 hr => ?_) (fun j1 hr => ?_)
 ·
  refine rn tk 7 rfl ?_
  refine bs 11 hr rfl (fun c2 hr => ?_) (fun c2 hr => ?_)
  ·
   refine rn tk 16 rfl ?_
   cases hr
   exact jn _ rfl rfl rfl
  ·
   refine rn tk 7 rfl ?_
   refine bs 18 hr rfl (fun c3 hr => ?_) (fun c3 hr => ?_)
   ·
    refine rn tk 9 rfl ?_
    cases hr
    exact jn _ rfl rfl rfl
   ·
    refine rn tk 2 rfl ?_
    refine ug rfl rfl rfl ?_
    refine wn tk rfl rfl rfl ?_
    refine rn tk 2 rfl ?_
    refine ug rfl rfl rfl ?_
    refine wn tk rfl rfl rfl ?_
    refine rn tk 3 rfl ?_
    cases hr
    exact jn _ rfl rfl rfl
 ·
  refine ac 26 hr rfl (fun c4 hr => ?_) (fun c4 hr => ?_)
  ·
   refine rn tk 7 rfl ?_
   cases hr
   exact kr tk (.inr rfl) rfl rfl
  ·
   refine rn tk 9 rfl ?_
   refine al2 hr (fun s5 => [(2, .ptr 2 0), (3, .ptr 3 0), (5, .i s5)]) (fun s5 => [(3, .cells [.i a1.Kind, .s a1.Id, .l TTold.pc a1.Told]), (2, .cells [.i a0.Kind, .s a0.Id, .l TTold.pc a0.Told])]) (.exit 0) (fun b6 => []) (fun b6 => []) .ret (fun b7 => [(4, .bo b7)]) (fun b7 => []) rfl rfl (fun s5 x9 hr => ?_) (fun b6 hr => ?_) (fun b7 hr => ?_)
   ·
    unfold L_sameNotice_l1 at hr
    refine rn tk 6 rfl ?_
    refine wn tk rfl rfl rfl ?_
    refine rn tk 3 rfl ?_
    refine ac 31 hr rfl (fun c10 hr => ?_) (fun c10 hr => ?_)
    ·
     refine rn tk 5 rfl ?_
     obtain ⟨v11, h12, hr⟩ := bind_some hr
     obtain ⟨v13, h14, hr⟩ := bind_some hr
     refine dr 10 [(43, .agg [.s v13.Address, .i v13.Result]), (42, .ep [pS v13.Address, pI v13.Result]), (41, .i s5), (40, .l TTold.pc a1.Told), (39, .ptr 3 2), (38, .agg [.s v11.Address, .i v11.Result]), (37, .ep [pS v11.Address, pI v11.Result]), (36, .i s5), (35, .l TTold.pc a0.Told), (34, .ptr 2 2)] mixed (by kernel_rfl) rfl rfl (pq tk rfl (.plain rfl) (pq tk rfl (.plain rfl) (pq tk rfl (.plain rfl) (.run (.plain rfl) (opG_q (ev_idx (f := TTold.pc) rfl rfl ty_s_api_Told ty_api_Told rfl h12)) (pq tk rfl (.plain rfl) (pq tk rfl (.plain rfl) (pq tk rfl (.plain rfl) (pq tk rfl (.plain rfl) (.run (.plain rfl) (opG_q (ev_idx (f := TTold.pc) rfl rfl ty_s_api_Told ty_api_Told rfl h14)) (pq tk rfl (.plain rfl) .nil)))))))))) rfl ?_
     refine wq (ev_structne rfl rfl ty_api_Told cmp_api_Told (.str rfl (by decide) ty_string (.int rfl (by decide) ty_int .nil))) rfl rfl rfl ?_
     refine rn tk 2 rfl ?_
     refine ac 44 hr rfl (fun c15 hr => ?_) (fun c15 hr => ?_)
     ·
      refine rn tk 8 rfl ?_
      cases hr
      exact ato rfl rfl rfl rfl
     ·
      refine rn tk 8 rfl ?_
      cases hr
      exact atc rfl rfl
    ·
     refine rn tk 2 rfl ?_
     cases hr
     exact ato rfl rfl rfl rfl
   ·
    refine rn tk 8 rfl ?_
    cases hr
    exact kr tk (.inr rfl) rfl rfl
   ·
    refine rn tk 2 rfl ?_
    cases hr
    exact kr tk (.inr rfl) rfl rfl
theorem L_plain_run (a0 : List Str) (r : TMail) (hr : L_plain a0 = some r) : Run Tryz.prog 24 [.l cS a0] (.agg [.s r.Envelope.From, .l TRecipient.pc r.Envelope.To, .s r.Envelope.Id, .l TField.pc r.Message.Fields, .l cU r.Message.Body]) := by
 unfold L_plain at hr
 refine rf (fn := Tryz.f24) ⟨Tryz.func24, rfl, by kernel_rfl⟩ rfl (fun _ => rfl) fun g0 hg => ?_
 refine rn tk 10 rfl ?_
 refine awpl_adoptC 1003 (o := 3) (j := 1) 67 2 rfl rfl rfl rfl (hO ?_)
 refine rn tk 1 rfl ?_
 refine awpl_adoptC 2003 (o := 3) (j := 1) 67 2 rfl rfl rfl rfl (hO ?_)
 refine rn tk 9 rfl ?_
 refine al1 hr (fun s1 => [(0, .l cS a0), (2, .ptr 2 0), (3, .ptr 3 0), (4, .i s1.1)]) (fun s1 => [(2003, .row 67 false 2 (List.map TRecipient.pc s1.2)), (3, .cells [.s (([115, 64, 120] : Str)), .hs 2003 0, .s (([55] : Str)), .l TField.pc ([]), .l cU ([])]), (2, .cells [.s (([] : Str)), .l TRecipient.pc ([]), .s (([] : Str)), .l TField.pc ([]), .l cU ([])])]) (.exit 0) (fun b2 => [(2, .ptr 2 0), (3, .ptr 3 0)]) (fun b2 => [(2003, .row 67 false 2 (List.map TRecipient.pc b2)), (3, .cells [.s (([115, 64, 120] : Str)), .hs 2003 0, .s (([55] : Str)), .l TField.pc ([]), .l cU ([])]), (2, .cells [.s (([] : Str)), .l TRecipient.pc ([]), .s (([] : Str)), .l TField.pc ([]), .l cU ([])])]) rfl rfl (fun s1 x3 hr => ?_) (fun b2 hr => ?_)
 ·
  unfold L_plain_l1 at hr
  refine rn tk 5 rfl ?_
  refine wn tk rfl rfl rfl ?_
  refine rn tk 3 rfl ?_
  refine ac 10 hr rfl (fun c4 hr => ?_) (fun c4 hr => ?_)
  ·
   refine rn tk 4 rfl ?_
   obtain ⟨v5, h6, hr⟩ := bind_some hr
   refine dr 9 [(21, .l TRecipient.pc (([(TRecipient.mk v5 1)] : List TRecipient))), (20, .agg [.s v5, .i 1]), (19, .s v5), (18, .ep [pS v5]), (17, .i s1.1), (16, .l cS a0), (15, .hs 2003 0), (14, .ptr 3 1), (13, .ptr 3 0)] mixed (by kernel_rfl) rfl rfl (pq tk rfl (.plain rfl) (pq tk rfl (.plain rfl) (pq tk rfl (.plain rfl) (pq tk rfl (.plain rfl) (pq tk rfl (.plain rfl) (.run (.plain rfl) (opG_q (ev_idx (f := cS) rfl rfl ty_s_string ty_string rfl h6)) (pq tk rfl (.plain rfl) (pq tk rfl (.plain rfl) (.run (.plain rfl) (opG_lit (F := TRecipient.pc) (l := ([(TRecipient.mk v5 1)] : List TRecipient)) ty_s_api_Recipient ty_api_Recipient rfl (fun _ => rfl) rfl rfl) .nil))))))))) rfl ?_
   obtain ⟨v7, h8, hr⟩ := bind_some hr
   refine wa tk h8 rfl rfl rfl rfl (fun _ => rfl) rfl rfl ?_
   refine rn tk 11 rfl ?_
   cases hr
   exact atc rfl rfl
  ·
   refine rn tk 2 rfl ?_
   cases hr
   exact ato rfl rfl rfl rfl
 ·
  refine rn tk 8 rfl ?_
  refine awp_pubC (o := 2) (j := 1) (F := TRecipient.pc) (l := b2) rfl rfl rfl (hC ?_)
  refine rn tk 1 rfl ?_
  cases hr
  exact kr tk (.inr rfl) rfl rfl
theorem basic_Failed_run (a0 : TFault) (r : Bool) (hr : basic_Failed a0 = some r) : Run Tryz.prog 12 [.agg [.i a0.Code, .i a0.Index]] (.bo r) := by
 unfold basic_Failed at hr
 refine rf (fn := Tryz.f12) ⟨Tryz.func12, rfl, by kernel_rfl⟩ rfl (fun _ => rfl) fun g0 hg => ?_
 refine rn tk 15 rfl ?_
 cases hr
 exact kr tk (.inr rfl) rfl rfl
theorem basic_Fault_run (a0 : Int) (a1 : Int) (r : TFault) (hr : basic_Fault a0 a1 = some r) : Run Tryz.prog 13 [.i a0, .i a1] (.agg [.i r.Code, .i r.Index]) := by
 unfold basic_Fault at hr
 refine rf (fn := Tryz.f13) ⟨Tryz.func13, rfl, by kernel_rfl⟩ rfl (fun _ => rfl) fun g0 hg => ?_
 refine rn tk 14 rfl ?_
 cases hr
 exact kr tk (.inr rfl) rfl rfl
theorem basic_None_run  (r : TFault) (hr : basic_None = some r) : Run Tryz.prog 23 [] (.agg [.i r.Code, .i r.Index]) := by
 unfold basic_None at hr
 refine rf (fn := Tryz.f23) ⟨Tryz.func23, rfl, by kernel_rfl⟩ rfl (fun _ => rfl) fun g0 hg => ?_
 refine rn tk 12 rfl ?_
 cases hr
 exact kr tk (.inr rfl) rfl rfl
theorem basic_Time_run (a0 : Int) (r : Bool) (hr : basic_Time a0 = some r) : Run Tryz.prog 39 [.i a0] (.bo r) := by
  unfold basic_Time at hr
  refine run_of_awp (fn := Tryz.f39) ⟨Tryz.func39, rfl, by kernel_rfl⟩ rfl (fun _ => rfl) fun g0 hg => ?_
  refine awp_seq ?_
  refine awp_region ?_
  refine awpl_op rfl (opTo_q (d := 2) rfl rfl ev_assign) ?_
  refine awpl_nil ?_
  refine kthen_normal ?_
  obtain ⟨j1, hx, hy⟩ := bind_some hr
  refine awp_join (fun j1 => [(2, .bo j1)]) (fun j1 => []) (fun z => j1 = z) ?_ ?_
  · have hr := hx
    clear hx hy
    refine awp_region ?_
    refine awpl_op rfl (opTo_q (d := 3) rfl rfl ev_move) ?_
    refine awpl_op rfl (opTo_q (d := 4) rfl rfl (ev_geq rfl rfl)) ?_
    refine awpl_op rfl (opTo_q (d := 5) rfl rfl ev_move) ?_
    refine bool_split (decide ((-68719476736) ≤ a0)) (fun c2 => ?_) (fun c2 => ?_)
    · replace hr := cond_t c2 hr
      refine awpl_yes (d := 5) rfl rfl rfl c2 (opTo_q (d := 6) rfl rfl ev_move) ?_
      refine awpl_yes (d := 5) rfl rfl rfl c2 (opTo_q (d := 7) rfl rfl (ev_leq rfl rfl)) ?_
      refine awpl_op rfl (opTo_q (d := 8) rfl rfl (ev_pick_t rfl c2)) ?_
      refine awpl_op rfl (opTo_q (d := 2) rfl rfl ev_assign) ?_
      refine awpl_nil ?_
      cases hr
      exact joinK_normal _ rfl (frLe_cons rfl frLe_nil) stoLe_nil
    · replace hr := cond_f c2 hr
      refine awpl_no (d := 5) rfl rfl rfl c2 ?_
      refine awpl_no (d := 5) rfl rfl rfl c2 ?_
      refine awpl_op rfl (opTo_q (d := 8) rfl rfl (ev_pick_f rfl c2)) ?_
      refine awpl_op rfl (opTo_q (d := 2) rfl rfl ev_assign) ?_
      refine awpl_nil ?_
      cases hr
      exact joinK_normal _ rfl (frLe_cons rfl frLe_nil) stoLe_nil
  · rintro _ rfl
    have hr := hy
    clear hx hy
    refine awp_ret ?_
    cases hr
    exact kret' rfl (.cons (res_tmp rfl) .nil) rfl
theorem dates_before_run (a0 : Int) (r : Int) (hr : dates_before a0 = some r) : Run Tryz.prog 72 [.i a0] (.i r) := by
 unfold dates_before at hr
 refine rf (fn := Tryz.f72) ⟨Tryz.func72, rfl, by kernel_rfl⟩ rfl (fun _ => rfl) fun g0 hg => ?_
 refine rn tk 17 rfl ?_
 refine wq (ev_iquo rfl rfl rfl) rfl rfl rfl ?_
 refine rn tk 2 rfl ?_
 refine wq (ev_iquo rfl rfl rfl) rfl rfl rfl ?_
 refine rn tk 2 rfl ?_
 refine wq (ev_iquo rfl rfl rfl) rfl rfl rfl ?_
 refine rn tk 5 rfl ?_
 cases hr
 exact kr tk (.inr rfl) rfl rfl
theorem dates_leap_run (a0 : Int) (r : Bool) (hr : dates_leap a0 = some r) : Run Tryz.prog 109 [.i a0] (.bo r) := by
 unfold dates_leap at hr
 refine rf (fn := Tryz.f109) ⟨Tryz.func109, rfl, by kernel_rfl⟩ rfl (fun _ => rfl) fun g0 hg => ?_
 refine rn tk 5 rfl ?_
 refine jb hr (fun j1 => [(2, .bo j1)]) (fun j1 => []) (fun j1 hr => ?_) (fun j1 hr => ?_)
 ·
  refine rn tk 2 rfl ?_
  refine wq (ev_irem rfl rfl rfl) rfl rfl rfl ?_
  refine rn tk 2 rfl ?_
  refine bs 6 hr rfl (fun c2 hr => ?_) (fun c2 hr => ?_)
  ·
   refine rn tk 1 rfl ?_
   refine ug rfl rfl rfl ?_
   refine wq (ev_irem rfl rfl rfl) rfl rfl rfl ?_
   refine rn tk 2 rfl ?_
   refine bs 10 hr rfl (fun c3 hr => ?_) (fun c3 hr => ?_)
   ·
    refine rn tk 7 rfl ?_
    cases hr
    exact jn _ rfl rfl rfl
   ·
    refine rn tk 1 rfl ?_
    refine ug rfl rfl rfl ?_
    refine wq (ev_irem rfl rfl rfl) rfl rfl rfl ?_
    refine rn tk 5 rfl ?_
    cases hr
    exact jn _ rfl rfl rfl
  ·
   refine rn tk 11 rfl ?_
   cases hr
   exact jn _ rfl rfl rfl
 ·
  refine rn tk 1 rfl ?_
  cases hr
  exact kr tk (.inr rfl) rfl rfl
theorem dates_length_run (a0 : Int) (a1 : Int) (r : Int) (hr : dates_length a0 a1 = some r) : Run Tryz.prog 73 [.i a0, .i a1] (.i r) := by
 unfold dates_length at hr
 refine rf (fn := Tryz.f73) ⟨Tryz.func73, rfl, by kernel_rfl⟩ rfl (fun _ => rfl) fun g0 hg => ?_
 refine rn tk 7 rfl ?_
 refine wq (ev_buildA (cs := [.i 31, .i 28, .i 31, .i 30, .i 31, .i 30, .i 31, .i 31, .i 30, .i 31, .i 30, .i 31]) ty__12_int ty_int (.inr ⟨rfl, rfl⟩) (by kernel_rfl)) rfl rfl rfl ?_
 refine rn tk 2 rfl ?_
 obtain ⟨v1, h2, hr⟩ := bind_some hr
 refine wq (ev_aidx (f := cI) (L := ([31, 28, 31, 30, 31, 30, 31, 31, 30, 31, 30, 31] : List Int)) rfl rfl ty__12_int ty_int rfl rfl (fun _ => rfl) h2 rfl) rfl rfl rfl ?_
 refine rn tk 3 rfl ?_
 refine jb hr (fun j3 => [(5, .i j3)]) (fun j3 => []) (fun j3 hr => ?_) (fun j3 hr => ?_)
 ·
  refine jb hr (fun j4 => [(5, .i v1), (15, .bo j4)]) (fun j4 => []) (fun j4 hr => ?_) (fun j4 hr => ?_)
  ·
   refine rn tk 4 rfl ?_
   refine bs 12 hr rfl (fun c5 hr => ?_) (fun c5 hr => ?_)
   ·
    refine rn tk 1 rfl ?_
    obtain ⟨v6, h7, hr⟩ := bind_some hr
    refine ug rfl rfl rfl ?_
    refine cl (dates_leap_run _ _ h7) rfl rfl ?_
    refine rn tk 2 rfl ?_
    cases hr
    exact jn _ rfl rfl rfl
   ·
    refine rn tk 4 rfl ?_
    cases hr
    exact jn _ rfl rfl rfl
  ·
   refine ac 15 hr rfl (fun c8 hr => ?_) (fun c8 hr => ?_)
   ·
    refine rn tk 5 rfl ?_
    cases hr
    exact jn _ rfl rfl rfl
   ·
    refine rn tk 1 rfl ?_
    cases hr
    exact jn _ rfl rfl rfl
 ·
  refine rn tk 7 rfl ?_
  cases hr
  exact kr tk (.inr rfl) rfl rfl
theorem dates_day_run (a0 : Int) (a1 : Int) (a2 : Int) (r : Int) (hr : dates_day a0 a1 a2 = some r) : Run Tryz.prog 42 [.i a0, .i a1, .i a2] (.i r) := by
 unfold dates_day at hr
 refine rf (fn := Tryz.f42) ⟨Tryz.func42, rfl, by kernel_rfl⟩ rfl (fun _ => rfl) fun g0 hg => ?_
 refine rn tk 8 rfl ?_
 obtain ⟨v1, h2, hr⟩ := bind_some hr
 refine cl (dates_before_run _ _ h2) rfl rfl ?_
 obtain ⟨v3, h4, hr⟩ := bind_some hr
 refine cl (dates_before_run _ _ h4) rfl rfl ?_
 refine rn tk 14 rfl ?_
 refine al1 hr (fun s5 => [(0, .i a0), (1, .i a1), (7, .i s5.1), (8, .i s5.2)]) (fun s5 => []) (.exit 0) (fun b6 => [(7, .i b6)]) (fun b6 => []) rfl rfl (fun s5 x7 hr => ?_) (fun b6 hr => ?_)
 ·
  unfold dates_day_l1 at hr
  refine rn tk 8 rfl ?_
  refine ac 18 hr rfl (fun c8 hr => ?_) (fun c8 hr => ?_)
  ·
   refine rn tk 8 rfl ?_
   obtain ⟨v9, h10, hr⟩ := bind_some hr
   refine cl (dates_length_run _ _ _ h10) rfl rfl ?_
   refine rn tk 10 rfl ?_
   cases hr
   exact atc rfl rfl
  ·
   refine rn tk 2 rfl ?_
   cases hr
   exact ato rfl rfl rfl rfl
 ·
  refine rn tk 9 rfl ?_
  cases hr
  exact kr tk (.inr rfl) rfl rfl
theorem dates_split_run (a0 : Int) (a1 : Int) (r : Int × Int) (hr : dates_split a0 a1 = some r) : Run Tryz.prog 41 [.i a0, .i a1] (.tup [.i r.1, .i r.2]) := by
 unfold dates_split at hr
 refine rf (fn := Tryz.f41) ⟨Tryz.func41, rfl, by kernel_rfl⟩ rfl (fun _ => rfl) fun g0 hg => ?_
 refine rn tk 10 rfl ?_
 obtain ⟨v1, h2, hr⟩ := bind_some hr
 refine wq (ev_irem rfl rfl (nz_spec h2)) rfl rfl rfl ?_
 refine rn tk 3 rfl ?_
 obtain ⟨v3, h4, hr⟩ := bind_some hr
 refine wq (ev_irem rfl rfl (nz_spec h4)) rfl rfl rfl ?_
 refine rn tk 9 rfl ?_
 obtain ⟨v5, h6, hr⟩ := bind_some hr
 refine wq (ev_iquo rfl rfl (nz_spec h6)) rfl rfl rfl ?_
 refine rn tk 6 rfl ?_
 cases hr
 exact kr tk (.inr rfl) rfl rfl
theorem dates_within_run (a0 : Int) (a1 : Int) (a2 : Int) (r : Bool) (hr : dates_within a0 a1 a2 = some r) : Run Tryz.prog 40 [.i a0, .i a1, .i a2] (.bo r) := by
 unfold dates_within at hr
 refine rf (fn := Tryz.f40) ⟨Tryz.func40, rfl, by kernel_rfl⟩ rfl (fun _ => rfl) fun g0 hg => ?_
 refine rn tk 5 rfl ?_
 refine jb hr (fun j1 => [(6, .bo j1)]) (fun j1 => []) (fun j1 hr => ?_) (fun j1 hr => ?_)
 ·
  refine rn tk 5 rfl ?_
  refine bs 10 hr rfl (fun c2 hr => ?_) (fun c2 hr => ?_)
  ·
   refine rn tk 6 rfl ?_
   cases hr
   exact jn _ rfl rfl rfl
  ·
   refine rn tk 6 rfl ?_
   cases hr
   exact jn _ rfl rfl rfl
 ·
  refine rn tk 1 rfl ?_
  cases hr
  exact kr tk (.inr rfl) rfl rfl
theorem dates_Civil_run (a0 : Int) (a1 : Int) (r : TDate × TFault) (hr : dates_Civil a0 a1 = some r) : Run Tryz.prog 17 [.i a0, .i a1] (.tup [.agg [.i r.1.Year, .i r.1.Month, .i r.1.Day, .i r.1.Hour, .i r.1.Minute, .i r.1.Second, .i r.1.Zone], .agg [.i r.2.Code, .i r.2.Index]]) := by
 unfold dates_Civil at hr
 refine rf (fn := Tryz.f17) ⟨Tryz.func17, rfl, by kernel_rfl⟩ rfl (fun _ => rfl) fun g0 hg => ?_
 refine rn tk 10 rfl ?_
 obtain ⟨v1, h2, hr⟩ := bind_some hr
 refine cl (basic_Time_run _ _ h2) rfl rfl ?_
 refine rn tk 3 rfl ?_
 refine ac 13 hr rfl (fun c3 hr => ?_) (fun c3 hr => ?_)
 ·
  refine rn tk 3 rfl ?_
  obtain ⟨v4, h5, hr⟩ := bind_some hr
  refine cl (basic_Fault_run _ _ _ h5) rfl rfl ?_
  refine rn tk 6 rfl ?_
  cases hr
  exact kr tk (.inr rfl) rfl rfl
 ·
  refine rn tk 6 rfl ?_
  obtain ⟨v6, h7, hr⟩ := bind_some hr
  refine cl (dates_within_run _ _ _ _ h7) rfl rfl ?_
  refine rn tk 3 rfl ?_
  refine ac 18 hr rfl (fun c8 hr => ?_) (fun c8 hr => ?_)
  ·
   refine rn tk 3 rfl ?_
   obtain ⟨v9, h10, hr⟩ := bind_some hr
   refine cl (basic_Fault_run _ _ _ h10) rfl rfl ?_
   refine rn tk 6 rfl ?_
   cases hr
   exact kr tk (.inr rfl) rfl rfl
  ·
   refine rn tk 8 rfl ?_
   obtain ⟨v11, h12, hr⟩ := bind_some hr
   refine cl (dates_split_run _ _ _ h12) rfl rfl ?_
   refine rn tk 8 rfl ?_
   refine jb hr (fun j13 => [(1, .i a1), (4, .ptr 4 0), (5, .ptr 5 0), (6, .i v11.1), (7, .i v11.2), (36, .bo j13)]) (fun j13 => [(5, .cells [.i 0, .i 0]), (4, .cells [.i 0, .i 0, .i 0, .i 0, .i 0, .i 0, .i 0])]) (fun j13 hr => ?_) (fun j13 hr => ?_)
   ·
    refine rn tk 2 rfl ?_
    obtain ⟨v14, h15, hr⟩ := bind_some hr
    refine cl (dates_day_run _ _ _ _ h15) rfl rfl ?_
    refine rn tk 2 rfl ?_
    refine bs 32 hr rfl (fun c16 hr => ?_) (fun c16 hr => ?_)
    ·
     refine rn tk 5 rfl ?_
     cases hr
     exact jn _ rfl rfl rfl
    ·
     refine rn tk 1 rfl ?_
     obtain ⟨v17, h18, hr⟩ := bind_some hr
     refine ug rfl rfl rfl ?_
     refine cl (dates_day_run _ _ _ _ h18) rfl rfl ?_
     refine rn tk 3 rfl ?_
     cases hr
     exact jn _ rfl rfl rfl
   ·
    refine ac 36 hr rfl (fun c19 hr => ?_) (fun c19 hr => ?_)
    ·
     refine rn tk 3 rfl ?_
     obtain ⟨v20, h21, hr⟩ := bind_some hr
     refine cl (basic_Fault_run _ _ _ h21) rfl rfl ?_
     refine rn tk 6 rfl ?_
     cases hr
     exact kr tk (.inr rfl) rfl rfl
    ·
     refine rn tk 14 rfl ?_
     refine al1 hr (fun s22 => [(1, .i a1), (4, .ptr 4 0), (5, .ptr 5 0), (6, .i v11.1), (7, .i v11.2), (8, .i s22.1), (9, .i s22.2)]) (fun s22 => [(5, .cells [.i 0, .i 0]), (4, .cells [.i 0, .i 0, .i 0, .i 0, .i 0, .i 0, .i 0])]) (.exit 0) (fun b23 => [(1, .i a1), (4, .ptr 4 0), (5, .ptr 5 0), (6, .i v11.1), (7, .i v11.2), (8, .i b23)]) (fun b23 => [(5, .cells [.i 0, .i 0]), (4, .cells [.i 0, .i 0, .i 0, .i 0, .i 0, .i 0, .i 0])]) rfl rfl (fun s22 x24 hr => ?_) (fun b23 hr => ?_)
     ·
      unfold dates_Civil_l1 at hr
      refine rn tk 7 rfl ?_
      refine ac 40 hr rfl (fun c25 hr => ?_) (fun c25 hr => ?_)
      ·
       refine rn tk 2 rfl ?_
       refine jb hr (fun j26 => [(1, .i a1), (4, .ptr 4 0), (5, .ptr 5 0), (6, .i v11.1), (7, .i v11.2), (8, .i j26), (9, .i s22.2)]) (fun j26 => [(5, .cells [.i 0, .i 0]), (4, .cells [.i 0, .i 0, .i 0, .i 0, .i 0, .i 0, .i 0])]) (fun j26 hr => ?_) (fun j26 hr => ?_)
       ·
        refine rn tk 1 rfl ?_
        refine jb hr (fun j27 => [(1, .i a1), (4, .ptr 4 0), (5, .ptr 5 0), (6, .i v11.1), (7, .i v11.2), (8, .i s22.1), (9, .i s22.2), (54, .bo j27)]) (fun j27 => [(5, .cells [.i 0, .i 0]), (4, .cells [.i 0, .i 0, .i 0, .i 0, .i 0, .i 0, .i 0])]) (fun j27 hr => ?_) (fun j27 hr => ?_)
        ·
         refine rn tk 6 rfl ?_
         refine bs 47 hr rfl (fun c28 hr => ?_) (fun c28 hr => ?_)
         ·
          refine rn tk 3 rfl ?_
          obtain ⟨v29, h30, hr⟩ := bind_some hr
          refine ug rfl rfl rfl ?_
          refine cl (dates_day_run _ _ _ _ h30) rfl rfl ?_
          refine rn tk 4 rfl ?_
          cases hr
          exact jn _ rfl rfl rfl
         ·
          refine rn tk 8 rfl ?_
          cases hr
          exact jn _ rfl rfl rfl
        ·
         refine ac 54 hr rfl (fun c31 hr => ?_) (fun c31 hr => ?_)
         ·
          refine rn tk 7 rfl ?_
          cases hr
          exact jn _ rfl rfl rfl
         ·
          refine rn tk 2 rfl ?_
          cases hr
          exact jn _ rfl rfl rfl
       ·
        refine rn tk 2 rfl ?_
        refine wq (ev_iquo rfl rfl rfl) rfl rfl rfl ?_
        refine rn tk 2 rfl ?_
        cases hr
        exact atc rfl rfl
      ·
       refine rn tk 2 rfl ?_
       cases hr
       exact ato rfl rfl rfl rfl
     ·
      refine rn tk 9 rfl ?_
      refine al1 hr (fun s32 => [(1, .i a1), (4, .ptr 4 0), (5, .ptr 5 0), (6, .i v11.1), (7, .i v11.2), (8, .i b23), (10, .i s32)]) (fun s32 => [(5, .cells [.i 0, .i 0]), (4, .cells [.i 0, .i 0, .i 0, .i 0, .i 0, .i 0, .i 0])]) (.exit 2) (fun b33 => [(1, .i a1), (4, .ptr 4 0), (5, .ptr 5 0), (6, .i v11.1), (7, .i v11.2), (8, .i b23), (10, .i b33)]) (fun b33 => [(5, .cells [.i 0, .i 0]), (4, .cells [.i 0, .i 0, .i 0, .i 0, .i 0, .i 0, .i 0])]) rfl rfl (fun s32 x34 hr => ?_) (fun b33 hr => ?_)
      ·
       unfold dates_Civil_l2 at hr
       refine rn tk 5 rfl ?_
       obtain ⟨v35, h36, hr⟩ := bind_some hr
       refine cl (dates_day_run _ _ _ _ h36) rfl rfl ?_
       refine rn tk 4 rfl ?_
       refine ac 62 hr rfl (fun c37 hr => ?_) (fun c37 hr => ?_)
       ·
        refine rn tk 9 rfl ?_
        cases hr
        exact atc rfl rfl
       ·
        refine rn tk 2 rfl ?_
        cases hr
        exact ato rfl rfl rfl rfl
      ·
       refine rn tk 9 rfl ?_
       obtain ⟨v38, h39, hr⟩ := bind_some hr
       refine cl (dates_day_run _ _ _ _ h39) rfl rfl ?_
       refine rn tk 3 rfl ?_
       refine wq (ev_iquo rfl rfl rfl) rfl rfl rfl ?_
       refine rn tk 1 rfl ?_
       refine wq (ev_iquo rfl rfl rfl) rfl rfl rfl ?_
       refine wq (ev_irem rfl rfl rfl) rfl rfl rfl ?_
       refine rn tk 1 rfl ?_
       refine wq (ev_irem rfl rfl rfl) rfl rfl rfl ?_
       refine rn tk 2 rfl ?_
       obtain ⟨v40, h41, hr⟩ := bind_some hr
       refine cl (basic_None_run _ h41) rfl rfl ?_
       refine rn tk 5 rfl ?_
       cases hr
       exact kr tk (.inr rfl) rfl rfl
end Go.Proofs.YtpclhpncmlbccaaGreatDoor

/- Library functions compute what their Lean functions do: texts joined and repeated. -/
namespace Go.Proofs.YtpclhpncmlbccaaGreatDoor
open Go.RowKit
set_option maxRecDepth 100000
theorem old_below {g : G} {w' : World} (h : Below g.w.heap.size g.w w') : Old (fun _ => False) g ⟨w', g.u, g.loc⟩ :=
  ⟨h.os, h.tape, h.output, ⟨h.size, fun _ _ => Nat.le_refl _, fun k i hk _ => by simp only [World.cell?]; rw [h.block k hk], fun r hr => (h.block r (blk_lt hr)).trans hr⟩, fun k hk _ => ⟨h.block k hk, rfl⟩⟩
theorem str_argJ {g : G} {s : Str} {v : Value} (h : Rel g (.s s) v) : v = .string (strB s) := rel_b h
/-- texts, where they lie -/
theorem str_cells {g : G} {l : List Str} {v : Value} (h : Rel g (.l cS l) v) : ∃ ad cap, v = .slice ad l.length cap ∧ l.length ≤ cap ∧ (l ≠ [] → ∃ b off, ad = some ⟨b, off, none⟩ ∧ b < g.w.heap.size ∧ ∀ (i : Nat) s, l[i]? = some s → g.w.cell? ⟨b, off + i, none⟩ = some (.string (strB s))) := by
  cases h with
  | pv h =>
    generalize hE : l.map cS = elems at h
    have hEl : elems.length = l.length := by rw [← hE]; simp
    unfold pL at h
    rw [hE] at h
    cases h with
    | @sl _ _ a cap size b off val hn h0 hc hz ha hu hcell h =>
      refine ⟨a, cap, by rw [hEl], by omega, fun hne => ?_⟩
      have hne' : elems ≠ [] := by rw [← hE]; simpa using hne
      refine ⟨b, off, ha hne', (hu hne').2, fun i s hi => ?_⟩
      have hget : elems[i]? = some (cS s) := by rw [← hE]; simp [hi]
      have hs1 : size = 1 := by
        have := hz _ (List.mem_of_getElem? hget)
        simpa [cS] using this.symm
      subst hs1
      have hlt : i < elems.length := (List.getElem?_eq_some_iff.1 hget).1
      rw [hcell i (by omega)]
      have := h i 0 _ (.b (.string (strB s))) hget rfl
      simp only [Nat.mul_one, Nat.add_zero] at this
      have e := rel_b (g := g) (.pv this)
      rw [e]
theorem strings_Join_run (l : List Str) (s : Str) (r : Str) (hr : strings_Join l s = some r) : Run Tryz.prog 45 [.l cS l, .s s] (.s r) := by
  unfold strings_Join at hr
  split at hr
  case isFalse => cases hr
  rename_i hlen
  cases hr
  refine ⟨⟨_, _, ⟨Tryz.func45, rfl, by kernel_rfl⟩⟩, fun g vs hw hg ha => ?_⟩
  obtain ⟨hsz, hrel⟩ := ha
  obtain ⟨vl⟩ := vs
  match vl, hsz with
  | [x, y], _ =>
    have h0 : Rel g (.l cS l) x := hrel 0 _ rfl
    obtain rfl := str_argJ (hrel 1 _ rfl)
    obtain ⟨ad, cap, rfl, hcap, hcell⟩ := str_cells h0
    refine callsIn_wide.2 ?_
    suffices hs : Calls Tryz.prog 45 #[.slice ad l.length cap, .string (strB s)] g.w fun e w' => e = .returned (.string (strB (Lib.join l s))) ∧ Below g.w.heap.size g.w w' by
      refine hs.mono ?_
      rintro e w' ⟨rfl, hb⟩
      exact ⟨⟨w', g.u, g.loc⟩, _, rfl, rfl, old_below hb, fun k hk => hw k (Nat.le_trans hb.size hk), rfl, .pv (.b rfl)⟩
    cases l with
    | nil => exact (Tryz.strings_Join_none ad cap (strB s) g.w).mono fun e w' ⟨he, hw⟩ => ⟨he, hw ▸ Below.refl _ _⟩
    | cons a l =>
      obtain ⟨b, off, rfl, hb, hc⟩ := hcell (by simp)
      have e1 : ((a :: l).map strB).map (·.data.toList) = a :: l := by
        rw [List.map_map]
        conv => rhs; rw [← List.map_id (a :: l)]
        exact List.map_congr_left fun x _ => rfl
      have := Tryz.strings_Join b off cap ((a :: l).map strB) (strB s) g.w (fun j x hx => by
        simp only [List.getElem?_map, Option.map_eq_some_iff] at hx
        obtain ⟨y, hy, rfl⟩ := hx
        exact hc j y hy) hb (by rw [List.length_map]; exact hlen.1) (by rw [List.length_map]; exact hcap) (by rw [e1]; exact hlen.2)
      rw [e1, List.length_map] at this
      exact this
end Go.Proofs.YtpclhpncmlbccaaGreatDoor

namespace Go.Proofs.YtpclhpncmlbccaaGreatDoor
open Go.RowKit
set_option maxRecDepth 100000
set_option maxHeartbeats 40000000
set_option linter.unusedVariables false
theorem dates_Validate_run (a0 : TDate) (r : TFault) (hr : dates_Validate a0 = some r) : Run Tryz.prog 74 [.agg [.i a0.Year, .i a0.Month, .i a0.Day, .i a0.Hour, .i a0.Minute, .i a0.Second, .i a0.Zone]] (.agg [.i r.Code, .i r.Index]) := by
 unfold dates_Validate at hr
 refine rf (fn := Tryz.f74) ⟨Tryz.func74, rfl, by kernel_rfl⟩ rfl (fun _ => rfl) fun g0 hg => ?_
 refine rn tk 6 rfl ?_
 refine jb hr (fun j1 => [(2, .ptr 2 0), (3, .bo j1)]) (fun j1 => [(2, .cells [.i 0, .i 0])]) (fun j1 hr => ?_) (fun j1 hr => ?_)
 ·
  obtain ⟨v2, h3, hr⟩ := bind_some hr
  refine bool_split v2 (fun c4 => ?_) (fun c4 => ?_)
  ·
   replace hr := cond_t c4 hr
   obtain ⟨v5, h6, hr⟩ := bind_some hr
   refine bool_split v5 (fun c7 => ?_) (fun c7 => ?_)
   ·
    replace hr := cond_t c7 hr
    obtain ⟨v8, h9, hr⟩ := bind_some hr
    refine dr 18 [(21, .i v8), (20, .i ((min ((max a0.Month 1)) 12))), (19, .i ((max a0.Month 1))), (18, .i a0.Month), (17, .ptr 1 1), (16, .i a0.Year), (15, .ptr 1 0), (14, .i a0.Day), (13, .ptr 1 2), (12, .bo v5), (11, .bo v5), (10, .bo v5), (9, .i a0.Month), (8, .ptr 1 1), (7, .bo v2), (6, .bo v2), (5, .i a0.Year), (4, .ptr 1 0)] mixed (by kernel_rfl) rfl rfl (pq tk rfl (.plain rfl) (pq tk rfl (.plain rfl) (.run (.plain rfl) (opG_call (dates_within_run a0.Year 1 4000 v2 h3) rfl) (pq tk rfl (.plain rfl) (pq tk rfl (.yes (d := 7) rfl rfl rfl c4) (pq tk rfl (.yes (d := 7) rfl rfl rfl c4) (.run (.yes (d := 7) rfl rfl rfl c4) (opG_call (dates_within_run a0.Month 1 12 v5 h6) rfl) (.run (.plain rfl) (opG_q (ev_pick_t rfl c4)) (pq tk rfl (.plain rfl) (pq tk rfl (.yes (d := 12) rfl rfl rfl c7) (pq tk rfl (.yes (d := 12) rfl rfl rfl c7) (pq tk rfl (.yes (d := 12) rfl rfl rfl c7) (pq tk rfl (.yes (d := 12) rfl rfl rfl c7) (pq tk rfl (.yes (d := 12) rfl rfl rfl c7) (pq tk rfl (.yes (d := 12) rfl rfl rfl c7) (.run (.yes (d := 12) rfl rfl rfl c7) (opG_q (ev_max rfl rfl)) (.run (.yes (d := 12) rfl rfl rfl c7) (opG_q (ev_min rfl rfl)) (.run (.yes (d := 12) rfl rfl rfl c7) (opG_call (dates_length_run a0.Year ((min ((max a0.Month 1)) 12)) v8 h9) rfl) .nil)))))))))))))))))) rfl ?_
    refine kn 12 c7 rfl ?_
    obtain ⟨v10, h11, hr⟩ := bind_some hr
    refine ug rfl rfl rfl ?_
    refine cl (dates_within_run _ _ _ _ h11) rfl rfl ?_
    refine rn tk 2 rfl ?_
    refine bs 24 hr rfl (fun c12 hr => ?_) (fun c12 hr => ?_)
    ·
     refine rn tk 2 rfl ?_
     obtain ⟨v13, h14, hr⟩ := bind_some hr
     refine ug rfl rfl rfl ?_
     refine cl (dates_within_run _ _ _ _ h14) rfl rfl ?_
     refine rn tk 2 rfl ?_
     refine bs 29 hr rfl (fun c15 hr => ?_) (fun c15 hr => ?_)
     ·
      refine rn tk 2 rfl ?_
      obtain ⟨v16, h17, hr⟩ := bind_some hr
      refine ug rfl rfl rfl ?_
      refine cl (dates_within_run _ _ _ _ h17) rfl rfl ?_
      refine rn tk 2 rfl ?_
      refine bs 34 hr rfl (fun c18 hr => ?_) (fun c18 hr => ?_)
      ·
       refine rn tk 2 rfl ?_
       obtain ⟨v19, h20, hr⟩ := bind_some hr
       refine ug rfl rfl rfl ?_
       refine cl (dates_within_run _ _ _ _ h20) rfl rfl ?_
       refine rn tk 2 rfl ?_
       refine bs 39 hr rfl (fun c21 hr => ?_) (fun c21 hr => ?_)
       ·
        refine rn tk 2 rfl ?_
        obtain ⟨v22, h23, hr⟩ := bind_some hr
        refine ug rfl rfl rfl ?_
        refine cl (dates_within_run _ _ _ _ h23) rfl rfl ?_
        refine rn tk 3 rfl ?_
        cases hr
        exact jn _ rfl rfl rfl
       ·
        refine rn tk 6 rfl ?_
        cases hr
        exact jn _ rfl rfl rfl
      ·
       refine rn tk 11 rfl ?_
       cases hr
       exact jn _ rfl rfl rfl
     ·
      refine rn tk 16 rfl ?_
      cases hr
      exact jn _ rfl rfl rfl
    ·
     refine rn tk 21 rfl ?_
     cases hr
     exact jn _ rfl rfl rfl
   ·
    replace hr := cond_f c7 hr
    refine dr 18 [(21, .tup []), (20, .tup []), (19, .tup []), (18, .tup []), (17, .tup []), (16, .tup []), (15, .tup []), (14, .tup []), (13, .tup []), (12, .bo v5), (11, .bo v5), (10, .bo v5), (9, .i a0.Month), (8, .ptr 1 1), (7, .bo v2), (6, .bo v2), (5, .i a0.Year), (4, .ptr 1 0)] mixed (by kernel_rfl) rfl rfl (pq tk rfl (.plain rfl) (pq tk rfl (.plain rfl) (.run (.plain rfl) (opG_call (dates_within_run a0.Year 1 4000 v2 h3) rfl) (pq tk rfl (.plain rfl) (pq tk rfl (.yes (d := 7) rfl rfl rfl c4) (pq tk rfl (.yes (d := 7) rfl rfl rfl c4) (.run (.yes (d := 7) rfl rfl rfl c4) (opG_call (dates_within_run a0.Month 1 12 v5 h6) rfl) (.run (.plain rfl) (opG_q (ev_pick_t rfl c4)) (pq tk rfl (.plain rfl) (.skip (.no (d := 12) rfl rfl rfl c7) (.skip (.no (d := 12) rfl rfl rfl c7) (.skip (.no (d := 12) rfl rfl rfl c7) (.skip (.no (d := 12) rfl rfl rfl c7) (.skip (.no (d := 12) rfl rfl rfl c7) (.skip (.no (d := 12) rfl rfl rfl c7) (.skip (.no (d := 12) rfl rfl rfl c7) (.skip (.no (d := 12) rfl rfl rfl c7) (.skip (.no (d := 12) rfl rfl rfl c7) .nil)))))))))))))))))) rfl ?_
    refine kn 12 c7 rfl ?_
    refine rn tk 24 rfl ?_
    cases hr
    exact jn _ rfl rfl rfl
  ·
   replace hr := cond_f c4 hr
   refine dr 18 [(21, .tup []), (20, .tup []), (19, .tup []), (18, .tup []), (17, .tup []), (16, .tup []), (15, .tup []), (14, .tup []), (13, .tup []), (12, .bo false), (11, .bo false), (10, .tup []), (9, .tup []), (8, .tup []), (7, .bo v2), (6, .bo v2), (5, .i a0.Year), (4, .ptr 1 0)] mixed (by kernel_rfl) rfl rfl (pq tk rfl (.plain rfl) (pq tk rfl (.plain rfl) (.run (.plain rfl) (opG_call (dates_within_run a0.Year 1 4000 v2 h3) rfl) (pq tk rfl (.plain rfl) (.skip (.no (d := 7) rfl rfl rfl c4) (.skip (.no (d := 7) rfl rfl rfl c4) (.skip (.no (d := 7) rfl rfl rfl c4) (.run (.plain rfl) (opG_q (ev_pick_f rfl c4)) (pq tk rfl (.plain rfl) (.skip (.no (d := 12) rfl rfl rfl rfl) (.skip (.no (d := 12) rfl rfl rfl rfl) (.skip (.no (d := 12) rfl rfl rfl rfl) (.skip (.no (d := 12) rfl rfl rfl rfl) (.skip (.no (d := 12) rfl rfl rfl rfl) (.skip (.no (d := 12) rfl rfl rfl rfl) (.skip (.no (d := 12) rfl rfl rfl rfl) (.skip (.no (d := 12) rfl rfl rfl rfl) (.skip (.no (d := 12) rfl rfl rfl rfl) .nil)))))))))))))))))) rfl ?_
   refine rn tk 24 rfl ?_
   cases hr
   exact jn _ rfl rfl rfl
 ·
  refine rn tk 7 rfl ?_
  refine ac 45 hr rfl (fun c24 hr => ?_) (fun c24 hr => ?_)
  ·
   refine rn tk 2 rfl ?_
   obtain ⟨v25, h26, hr⟩ := bind_some hr
   refine cl (basic_Fault_run _ _ _ h26) rfl rfl ?_
   refine rn tk 5 rfl ?_
   cases hr
   exact kr tk (.inr rfl) rfl rfl
  ·
   refine rn tk 4 rfl ?_
   obtain ⟨v27, h28, hr⟩ := bind_some hr
   refine cl (basic_None_run _ h28) rfl rfl ?_
   refine rn tk 4 rfl ?_
   cases hr
   exact kr tk (.inr rfl) rfl rfl
theorem dates_Weekday_run (a0 : TDate) (r : Int × TFault) (hr : dates_Weekday a0 = some r) : Run Tryz.prog 43 [.agg [.i a0.Year, .i a0.Month, .i a0.Day, .i a0.Hour, .i a0.Minute, .i a0.Second, .i a0.Zone]] (.tup [.i r.1, .agg [.i r.2.Code, .i r.2.Index]]) := by
 unfold dates_Weekday at hr
 refine rf (fn := Tryz.f43) ⟨Tryz.func43, rfl, by kernel_rfl⟩ rfl (fun _ => rfl) fun g0 hg => ?_
 refine rn tk 11 rfl ?_
 obtain ⟨v1, h2, hr⟩ := bind_some hr
 refine cl (dates_Validate_run _ _ h2) rfl rfl ?_
 refine rn tk 7 rfl ?_
 obtain ⟨v3, h4, hr⟩ := bind_some hr
 refine cl (basic_Failed_run _ _ h4) rfl rfl ?_
 refine rn tk 2 rfl ?_
 refine ac 10 hr rfl (fun c5 hr => ?_) (fun c5 hr => ?_)
 ·
  refine rn tk 1 rfl ?_
  refine dr 2 [(2, .i 0), (11, .agg [.i v1.Code, .i v1.Index])] mixed (by kernel_rfl) rfl rfl (pq tk rfl (.plain rfl) (pq tk rfl (.plain rfl) .nil)) rfl ?_
  refine rn tk 5 rfl ?_
  cases hr
  exact kr tk (.inr rfl) rfl rfl
 ·
  refine rn tk 10 rfl ?_
  obtain ⟨v6, h7, hr⟩ := bind_some hr
  refine cl (dates_day_run _ _ _ _ h7) rfl rfl ?_
  refine rn tk 1 rfl ?_
  obtain ⟨v8, h9, hr⟩ := bind_some hr
  refine cl (dates_split_run _ _ _ h9) rfl rfl ?_
  refine rn tk 10 rfl ?_
  obtain ⟨v10, h11, hr⟩ := bind_some hr
  refine cl (basic_None_run _ h11) rfl rfl ?_
  refine rn tk 5 rfl ?_
  cases hr
  exact kr tk (.inr rfl) rfl rfl
theorem dates_months_run  (r : Str × Str × Str × Str × Str × Str × Str × Str × Str × Str × Str × Str) (hr : dates_months = some r) : Run Tryz.prog 47 [] (.agg [.s r.1, .s r.2.1, .s r.2.2.1, .s r.2.2.2.1, .s r.2.2.2.2.1, .s r.2.2.2.2.2.1, .s r.2.2.2.2.2.2.1, .s r.2.2.2.2.2.2.2.1, .s r.2.2.2.2.2.2.2.2.1, .s r.2.2.2.2.2.2.2.2.2.1, .s r.2.2.2.2.2.2.2.2.2.2.1, .s r.2.2.2.2.2.2.2.2.2.2.2]) := by
 unfold dates_months at hr
 refine rf (fn := Tryz.f47) ⟨Tryz.func47, rfl, by kernel_rfl⟩ rfl (fun _ => rfl) fun g0 hg => ?_
 refine rn tk 7 rfl ?_
 refine wq (ev_buildA (cs := [.s (([74, 97, 110] : Str)), .s (([70, 101, 98] : Str)), .s (([77, 97, 114] : Str)), .s (([65, 112, 114] : Str)), .s (([77, 97, 121] : Str)), .s (([74, 117, 110] : Str)), .s (([74, 117, 108] : Str)), .s (([65, 117, 103] : Str)), .s (([83, 101, 112] : Str)), .s (([79, 99, 116] : Str)), .s (([78, 111, 118] : Str)), .s (([68, 101, 99] : Str))]) ty__12_string ty_string (.inr ⟨rfl, rfl⟩) (by kernel_rfl)) rfl rfl rfl ?_
 refine rn tk 4 rfl ?_
 cases hr
 exact kr tk (.inr rfl) rfl rfl
end Go.Proofs.YtpclhpncmlbccaaGreatDoor

/- Library functions compute what their Lean functions do: texts repeated. -/
namespace Go.Proofs.YtpclhpncmlbccaaGreatDoor
open Go.RowKit
set_option maxRecDepth 100000
theorem old_belowP {g : G} {w' : World} (h : Below g.w.heap.size g.w w') : Old (fun _ => False) g ⟨w', g.u, g.loc⟩ :=
  ⟨h.os, h.tape, h.output, ⟨h.size, fun _ _ => Nat.le_refl _, fun k i hk _ => by simp only [World.cell?]; rw [h.block k hk], fun r hr => (h.block r (blk_lt hr)).trans hr⟩, fun k hk _ => ⟨h.block k hk, rfl⟩⟩
theorem str_argP {g : G} {s : Str} {v : Value} (h : Rel g (.s s) v) : v = .string (strB s) := rel_b h
theorem strings_Repeat_run (s : Str) (n : Int) (r : Str) (hr : strings_Repeat s n = some r) : Run Tryz.prog 75 [.s s, .i n] (.s r) := by
  unfold strings_Repeat at hr
  split at hr
  case isFalse => cases hr
  rename_i hlen
  cases hr
  refine ⟨⟨_, _, ⟨Tryz.func75, rfl, by kernel_rfl⟩⟩, fun g vs hw hg ha => ?_⟩
  obtain ⟨hsz, hrel⟩ := ha
  obtain ⟨vl⟩ := vs
  match vl, hsz with
  | [x, y], _ =>
    obtain rfl := str_argP (hrel 0 _ rfl)
    have e2 : y = .int .i64 n := rel_b (hrel 1 _ rfl)
    subst e2
    have e3 : ((n.toNat : Nat) : Int) = n := by omega
    have h := Tryz.strings_Repeat (strB s) n.toNat g.w (by omega) (by rw [strB_size]; exact hlen.2.2)
    rw [e3] at h
    refine callsIn_wide.2 (h.mono ?_)
    rintro e w' ⟨rfl, hb⟩
    exact ⟨⟨w', g.u, g.loc⟩, _, rfl, rfl, old_belowP hb, fun k hk => hw k (Nat.le_trans hb.size hk), rfl, .pv (.b rfl)⟩
end Go.Proofs.YtpclhpncmlbccaaGreatDoor

/- Numerals of the library: the functions compute what their Lean functions do. -/
namespace Go.Proofs.YtpclhpncmlbccaaGreatDoor
open Go.RowKit
set_option maxRecDepth 100000
theorem pow_tab {g : G} (hg : Gl g) : Lib.TabIs Tryz.prog g.w "internal/strconv.uint64pow10" .u64 Lib.pow10Tab := by
  obtain ⟨t, fz, h⟩ := hg.2.1 (1, (Lib.pow10Tab.map fun z => Value.int .u64 z).toArray) (by simp [globK])
  have hn : Tryz.prog.globalNamed "internal/strconv.uint64pow10" = some 1 := by kernel_rfl
  unfold Lib.TabIs World.var?
  rw [hn]
  simp only [Option.bind_some]
  simp only at h
  rw [h]
theorem old_more (g : G) (q : Nat) (os : Array Obj) : Old (fun _ => False) g ⟨Go.Sort.grow (g.w.drewN q) os, g.u, g.loc⟩ := by
  have hb : ∀ k, k < g.w.heap.size → (Go.Sort.grow (g.w.drewN q) os).heap[k]? = g.w.heap[k]? := by
    intro k hk
    show (g.w.heap ++ os)[k]? = _
    rw [Array.getElem?_append_left hk]
  refine ⟨rfl, rfl, rfl, ⟨?_, fun _ _ => Nat.le_refl _, fun k i hk hi => ?_, fun r hr => (hb r (blk_lt hr)).trans hr⟩, fun k hk _ => ⟨hb k hk, rfl⟩⟩
  · show g.w.heap.size ≤ (g.w.heap ++ os).size
    simp
  · simp only [World.cell?]; rw [hb k hk]
end Go.Proofs.YtpclhpncmlbccaaGreatDoor

/- Numerals of the library: Itoa computes what its Lean function does. -/
namespace Go.Proofs.YtpclhpncmlbccaaGreatDoor
open Go.RowKit
set_option maxRecDepth 100000
theorem strconv_Itoa_run (n : Int) (r : Str) (hr : strconv_Itoa n = some r) : Run Tryz.prog 36 [.i n] (.s r) := by
  unfold strconv_Itoa at hr
  split at hr
  case isFalse => cases hr
  rename_i hlen
  cases hr
  refine ⟨⟨_, _, ⟨Tryz.func36, rfl, by kernel_rfl⟩⟩, fun g vs hw hg ha => ?_⟩
  obtain ⟨hsz, hrel⟩ := ha
  obtain ⟨l⟩ := vs
  match l, hsz with
  | [x], _ =>
    have e2 : x = .int .i64 n := rel_b (hrel 0 _ rfl)
    subst e2
    refine callsIn_wide.2 ((Tryz.strconv_Itoa n hlen.1 hlen.2 g.w (pow_tab hg)).mono ?_)
    rintro e w' ⟨rfl, q, os, rfl⟩
    exact ⟨⟨Go.Sort.grow (g.w.drewN q) os, g.u, g.loc⟩, _, rfl, rfl, old_more g q os, fun k hk => hw k (Nat.le_trans (old_more g q os).ext.size hk), rfl, .pv (.b rfl)⟩
end Go.Proofs.YtpclhpncmlbccaaGreatDoor

namespace Go.Proofs.YtpclhpncmlbccaaGreatDoor
open Go.RowKit
set_option maxRecDepth 100000
set_option maxHeartbeats 40000000
set_option linter.unusedVariables false
theorem dates_pad_run (a0 : Int) (a1 : Int) (r : Str) (hr : dates_pad a0 a1 = some r) : Run Tryz.prog 44 [.i a0, .i a1] (.s r) := by
 unfold dates_pad at hr
 refine rf (fn := Tryz.f44) ⟨Tryz.func44, rfl, by kernel_rfl⟩ rfl (fun _ => rfl) fun g0 hg => ?_
 refine rn tk 8 rfl ?_
 obtain ⟨v1, h2, hr⟩ := bind_some hr
 refine cl (strconv_Itoa_run _ _ h2) rfl rfl ?_
 refine rn tk 9 rfl ?_
 refine wq (ev_max rfl rfl) rfl rfl rfl ?_
 obtain ⟨v3, h4, hr⟩ := bind_some hr
 refine cl (strings_Repeat_run _ _ _ h4) rfl rfl ?_
 refine rn tk 1 rfl ?_
 obtain ⟨v5, h6, hr⟩ := bind_some hr
 refine wc h6 rfl rfl rfl ?_
 refine rn tk 4 rfl ?_
 cases hr
 exact kr tk (.inr rfl) rfl rfl
theorem dates_weekdays_run  (r : Str × Str × Str × Str × Str × Str × Str) (hr : dates_weekdays = some r) : Run Tryz.prog 46 [] (.agg [.s r.1, .s r.2.1, .s r.2.2.1, .s r.2.2.2.1, .s r.2.2.2.2.1, .s r.2.2.2.2.2.1, .s r.2.2.2.2.2.2]) := by
 unfold dates_weekdays at hr
 refine rf (fn := Tryz.f46) ⟨Tryz.func46, rfl, by kernel_rfl⟩ rfl (fun _ => rfl) fun g0 hg => ?_
 refine rn tk 7 rfl ?_
 refine wq (ev_buildA (cs := [.s (([83, 117, 110] : Str)), .s (([77, 111, 110] : Str)), .s (([84, 117, 101] : Str)), .s (([87, 101, 100] : Str)), .s (([84, 104, 117] : Str)), .s (([70, 114, 105] : Str)), .s (([83, 97, 116] : Str))]) ty__7_string ty_string (.inr ⟨rfl, rfl⟩) (by kernel_rfl)) rfl rfl rfl ?_
 refine rn tk 4 rfl ?_
 cases hr
 exact kr tk (.inr rfl) rfl rfl
theorem dates_Print_run (a0 : TDate) (r : Str × TFault) (hr : dates_Print a0 = some r) : Run Tryz.prog 18 [.agg [.i a0.Year, .i a0.Month, .i a0.Day, .i a0.Hour, .i a0.Minute, .i a0.Second, .i a0.Zone]] (.tup [.s r.1, .agg [.i r.2.Code, .i r.2.Index]]) := by
 unfold dates_Print at hr
 refine rf (fn := Tryz.f18) ⟨Tryz.func18, rfl, by kernel_rfl⟩ rfl (fun _ => rfl) fun g0 hg => ?_
 refine rn tk 10 rfl ?_
 obtain ⟨v1, h2, hr⟩ := bind_some hr
 refine cl (dates_Weekday_run _ _ h2) rfl rfl ?_
 refine rn tk 12 rfl ?_
 obtain ⟨v3, h4, hr⟩ := bind_some hr
 refine cl (basic_Failed_run _ _ h4) rfl rfl ?_
 refine rn tk 2 rfl ?_
 refine ac 15 hr rfl (fun c5 hr => ?_) (fun c5 hr => ?_)
 ·
  refine rn tk 1 rfl ?_
  refine dr 2 [(2, .s (([] : Str))), (16, .agg [.i v1.2.Code, .i v1.2.Index])] mixed (by kernel_rfl) rfl rfl (pq tk rfl (.plain rfl) (pq tk rfl (.plain rfl) .nil)) rfl ?_
  refine rn tk 5 rfl ?_
  cases hr
  exact kr tk (.inr rfl) rfl rfl
 ·
  refine rn tk 3 rfl ?_
  refine dr 3 [(6, .s (([43] : Str))), (18, .i a0.Zone), (17, .ptr 1 6)] mixed (by kernel_rfl) rfl rfl (pq tk rfl (.plain rfl) (pq tk rfl (.plain rfl) (pq tk rfl (.plain rfl) .nil))) rfl ?_
  refine rn tk 3 rfl ?_
  refine jb hr (fun j6 => [(1, .ptr 1 0), (3, .ptr 3 0), (4, .i v1.1), (6, .s j6.1), (7, .i j6.2)]) (fun j6 => [(3, .cells [.i 0, .i 0]), (1, .cells [.i a0.Year, .i a0.Month, .i a0.Day, .i a0.Hour, .i a0.Minute, .i a0.Second, .i a0.Zone])]) (fun j6 hr => ?_) (fun j6 hr => ?_)
  ·
   refine rn tk 7 rfl ?_
   refine ac 21 hr rfl (fun c7 hr => ?_) (fun c7 hr => ?_)
   ·
    refine dr 4 [(6, .s (([45] : Str))), (24, .i ((w64 (0 - a0.Zone)))), (23, .i a0.Zone), (22, .ptr 1 6)] mixed (by kernel_rfl) rfl rfl (pq tk rfl (.plain rfl) (pq tk rfl (.plain rfl) (.run (.plain rfl) (opG_q (ev_ineg rfl)) (pq tk rfl (.plain rfl) .nil)))) rfl ?_
    refine rn tk 2 rfl ?_
    cases hr
    exact jn _ rfl rfl rfl
   ·
    refine rn tk 1 rfl ?_
    cases hr
    exact jn _ rfl rfl rfl
  ·
   refine rn tk 4 rfl ?_
   refine wq (ev_iquo rfl rfl rfl) rfl rfl rfl ?_
   obtain ⟨v8, h9, hr⟩ := bind_some hr
   refine cl (dates_pad_run _ _ _ h9) rfl rfl ?_
   refine rn tk 1 rfl ?_
   refine wq (ev_irem rfl rfl rfl) rfl rfl rfl ?_
   obtain ⟨v10, h11, hr⟩ := bind_some hr
   refine cl (dates_pad_run _ _ _ h11) rfl rfl ?_
   obtain ⟨v12, h13, hr⟩ := bind_some hr
   refine wc h13 rfl rfl rfl ?_
   obtain ⟨v14, h15, hr⟩ := bind_some hr
   refine wc h15 rfl rfl rfl ?_
   refine rn tk 4 rfl ?_
   obtain ⟨v16, h17, hr⟩ := bind_some hr
   obtain ⟨v18, h19, hr⟩ := bind_some hr
   obtain ⟨v20, h21, hr⟩ := bind_some hr
   obtain ⟨v22, h23, hr⟩ := bind_some hr
   obtain ⟨v24, h25, hr⟩ := bind_some hr
   obtain ⟨v26, h27, hr⟩ := bind_some hr
   refine dr 12 [(45, .s v26), (44, .i a0.Second), (43, .ptr 1 5), (42, .s v24), (41, .s v22), (40, .s v20), (39, .i a0.Minute), (38, .ptr 1 4), (37, .s v18), (36, .s v16), (35, .i a0.Hour), (34, .ptr 1 3)] mixed (by kernel_rfl) rfl rfl (pq tk rfl (.plain rfl) (pq tk rfl (.plain rfl) (.run (.plain rfl) (opG_call (dates_pad_run a0.Hour 2 v16 h17) rfl) (.run (.plain rfl) (opG_q (ev_cat rfl rfl h19)) (pq tk rfl (.plain rfl) (pq tk rfl (.plain rfl) (.run (.plain rfl) (opG_call (dates_pad_run a0.Minute 2 v20 h21) rfl) (.run (.plain rfl) (opG_q (ev_cat rfl rfl h23)) (.run (.plain rfl) (opG_q (ev_cat rfl rfl h25)) (pq tk rfl (.plain rfl) (pq tk rfl (.plain rfl) (.run (.plain rfl) (opG_call (dates_pad_run a0.Second 2 v26 h27) rfl) .nil)))))))))))) rfl ?_
   obtain ⟨v28, h29, hr⟩ := bind_some hr
   refine wc h29 rfl rfl rfl ?_
   refine rn tk 4 rfl ?_
   obtain ⟨v30, h31, hr⟩ := bind_some hr
   obtain ⟨v32, h33, hr⟩ := bind_some hr
   obtain ⟨v34, h35, hr⟩ := bind_some hr
   obtain ⟨v36, h37, hr⟩ := bind_some hr
   obtain ⟨v38, h39, hr⟩ := bind_some hr
   obtain ⟨v40, h41, hr⟩ := bind_some hr
   obtain ⟨v42, h43, hr⟩ := bind_some hr
   refine dr 17 [(63, .s v14), (62, .s v28), (61, .s v42), (60, .i a0.Year), (59, .ptr 1 0), (58, .s v40), (57, .i ((w64 (a0.Month - 1)))), (56, .i a0.Month), (55, .ptr 1 1), (54, .agg [.s v38.1, .s v38.2.1, .s v38.2.2.1, .s v38.2.2.2.1, .s v38.2.2.2.2.1, .s v38.2.2.2.2.2.1, .s v38.2.2.2.2.2.2.1, .s v38.2.2.2.2.2.2.2.1, .s v38.2.2.2.2.2.2.2.2.1, .s v38.2.2.2.2.2.2.2.2.2.1, .s v38.2.2.2.2.2.2.2.2.2.2.1, .s v38.2.2.2.2.2.2.2.2.2.2.2]), (53, .s v36), (52, .i a0.Day), (51, .ptr 1 2), (50, .s v34), (49, .s v32), (48, .i v1.1), (47, .agg [.s v30.1, .s v30.2.1, .s v30.2.2.1, .s v30.2.2.2.1, .s v30.2.2.2.2.1, .s v30.2.2.2.2.2.1, .s v30.2.2.2.2.2.2])] mixed (by kernel_rfl) rfl rfl (.run (.plain rfl) (opG_call (dates_weekdays_run  v30 h31) rfl) (pq tk rfl (.plain rfl) (.run (.plain rfl) (opG_q (ev_aidx (f := cS) (L := ([v30.1, v30.2.1, v30.2.2.1, v30.2.2.2.1, v30.2.2.2.2.1, v30.2.2.2.2.2.1, v30.2.2.2.2.2.2] : List Str)) rfl rfl ty__7_string ty_string rfl rfl (fun _ => rfl) h33 rfl)) (.run (.plain rfl) (opG_q (ev_cat rfl rfl h35)) (pq tk rfl (.plain rfl) (pq tk rfl (.plain rfl) (.run (.plain rfl) (opG_call (dates_pad_run a0.Day 2 v36 h37) rfl) (.run (.plain rfl) (opG_call (dates_months_run  v38 h39) rfl) (pq tk rfl (.plain rfl) (pq tk rfl (.plain rfl) (pq tk rfl (.plain rfl) (.run (.plain rfl) (opG_q (ev_aidx (f := cS) (L := ([v38.1, v38.2.1, v38.2.2.1, v38.2.2.2.1, v38.2.2.2.2.1, v38.2.2.2.2.2.1, v38.2.2.2.2.2.2.1, v38.2.2.2.2.2.2.2.1, v38.2.2.2.2.2.2.2.2.1, v38.2.2.2.2.2.2.2.2.2.1, v38.2.2.2.2.2.2.2.2.2.2.1, v38.2.2.2.2.2.2.2.2.2.2.2] : List Str)) rfl rfl ty__12_string ty_string rfl rfl (fun _ => rfl) h41 rfl)) (pq tk rfl (.plain rfl) (pq tk rfl (.plain rfl) (.run (.plain rfl) (opG_call (dates_pad_run a0.Year 4 v42 h43) rfl) (pq tk rfl (.plain rfl) (pq tk rfl (.plain rfl) .nil))))))))))))))))) rfl ?_
   refine wz cS ([v34, v36, v40, v42, v28, v14] : List Str) tk rfl rfl (fun _ => rfl) rfl rfl rfl ?_
   obtain ⟨v44, h45, hr⟩ := bind_some hr
   refine cl (strings_Join_run _ _ _ h45) rfl rfl ?_
   obtain ⟨v46, h47, hr⟩ := bind_some hr
   refine cl (basic_None_run _ h47) rfl rfl ?_
   refine rn tk 5 rfl ?_
   cases hr
   exact kr tk (.inr rfl) rfl rfl
theorem basic_Letter_run (a0 : UInt8) (r : Bool) (hr : basic_Letter a0 = some r) : Run Tryz.prog 49 [.u8 a0] (.bo r) := by
 unfold basic_Letter at hr
 refine rf (fn := Tryz.f49) ⟨Tryz.func49, rfl, by kernel_rfl⟩ rfl (fun _ => rfl) fun g0 hg => ?_
 refine rn tk 5 rfl ?_
 refine jb hr (fun j1 => [(2, .bo j1)]) (fun j1 => []) (fun j1 hr => ?_) (fun j1 hr => ?_)
 ·
  refine rn tk 4 rfl ?_
  refine bs 5 hr rfl (fun c2 hr => ?_) (fun c2 hr => ?_)
  ·
   refine rn tk 4 rfl ?_
   refine bs 9 hr rfl (fun c3 hr => ?_) (fun c3 hr => ?_)
   ·
    refine rn tk 17 rfl ?_
    cases hr
    exact jn _ rfl rfl rfl
   ·
    refine rn tk 3 rfl ?_
    refine bs 12 hr rfl (fun c4 hr => ?_) (fun c4 hr => ?_)
    ·
     refine rn tk 5 rfl ?_
     refine bs 17 hr rfl (fun c5 hr => ?_) (fun c5 hr => ?_)
     ·
      refine rn tk 9 rfl ?_
      cases hr
      exact jn _ rfl rfl rfl
     ·
      refine rn tk 3 rfl ?_
      refine bs 20 hr rfl (fun c6 hr => ?_) (fun c6 hr => ?_)
      ·
       refine rn tk 6 rfl ?_
       cases hr
       exact jn _ rfl rfl rfl
      ·
       refine rn tk 6 rfl ?_
       cases hr
       exact jn _ rfl rfl rfl
    ·
     refine rn tk 8 rfl ?_
     refine bs 20 hr rfl (fun c7 hr => ?_) (fun c7 hr => ?_)
     ·
      refine rn tk 6 rfl ?_
      cases hr
      exact jn _ rfl rfl rfl
     ·
      refine rn tk 6 rfl ?_
      cases hr
      exact jn _ rfl rfl rfl
  ·
   refine rn tk 7 rfl ?_
   refine bs 12 hr rfl (fun c8 hr => ?_) (fun c8 hr => ?_)
   ·
    refine rn tk 5 rfl ?_
    refine bs 17 hr rfl (fun c9 hr => ?_) (fun c9 hr => ?_)
    ·
     refine rn tk 9 rfl ?_
     cases hr
     exact jn _ rfl rfl rfl
    ·
     refine rn tk 3 rfl ?_
     refine bs 20 hr rfl (fun c10 hr => ?_) (fun c10 hr => ?_)
     ·
      refine rn tk 6 rfl ?_
      cases hr
      exact jn _ rfl rfl rfl
     ·
      refine rn tk 6 rfl ?_
      cases hr
      exact jn _ rfl rfl rfl
   ·
    refine rn tk 8 rfl ?_
    refine bs 20 hr rfl (fun c11 hr => ?_) (fun c11 hr => ?_)
    ·
     refine rn tk 6 rfl ?_
     cases hr
     exact jn _ rfl rfl rfl
    ·
     refine rn tk 6 rfl ?_
     cases hr
     exact jn _ rfl rfl rfl
 ·
  refine rn tk 1 rfl ?_
  cases hr
  exact kr tk (.inr rfl) rfl rfl
theorem basic_Name_run (a0 : Str) (r : Bool) (hr : basic_Name a0 = some r) : Run Tryz.prog 29 [.s a0] (.bo r) := by
 unfold basic_Name at hr
 refine rf (fn := Tryz.f29) ⟨Tryz.func29, rfl, by kernel_rfl⟩ rfl (fun _ => rfl) fun g0 hg => ?_
 refine rn tk 5 rfl ?_
 refine jb hr (fun j1 => [(2, .bo j1)]) (fun j1 => []) (fun j1 hr => ?_) (fun j1 hr => ?_)
 ·
  refine rn tk 4 rfl ?_
  refine bs 5 hr rfl (fun c2 hr => ?_) (fun c2 hr => ?_)
  ·
   refine rn tk 5 rfl ?_
   refine bs 10 hr rfl (fun c3 hr => ?_) (fun c3 hr => ?_)
   ·
    refine rn tk 1 rfl ?_
    refine ug rfl rfl rfl ?_
    refine ct hr (fun j4 => [(10, .bo true), (12, .bo j4)]) (fun j4 => []) (fun j4 hr jump4 => ?_) (fun j4 hr => ?_)
    ·
     refine il (fn := Tryz.f51) (args := [.s a0, .fn (.func 64) [] []]) 400000 499999 [(10, .bo true)] rfl ⟨Tryz.func51, rfl, by kernel_rfl⟩ rfl rfl rfl fun T4 ds4 => ?_
     refine rn tk 14 rfl ?_
     refine al2 hr (fun s5 => [(0, .s a0), (1, .fn (.func 64) [] []), (7, .i ((a0.length : Int))), (8, .i s5)]) (fun s5 => [(499999, .sus g0.w.heap.size ds4), (400010, .hold (.bo true) (T4.getD 10 undef))]) (.exit 0) (fun b6 => []) (fun b6 => [(499999, .sus g0.w.heap.size ds4), (400010, .hold (.bo true) (T4.getD 10 undef))]) .ret (fun b7 => [(4, .bo false)]) (fun b7 => [(499999, .sus g0.w.heap.size ds4), (400010, .hold (.bo true) (T4.getD 10 undef))]) rfl rfl (fun s5 x9 hr => ?_) (fun b6 hr => ?_) (fun b7 hr => ?_)
     ·
      unfold basic_Name_l1 at hr
      refine rn tk 6 rfl ?_
      refine ac 9 hr rfl (fun c10 hr => ?_) (fun c10 hr => ?_)
      ·
       refine rn tk 15 rfl ?_
       obtain ⟨v11, h12, hr⟩ := bind_some hr
       refine ws tk h12 rfl rfl rfl rfl ?_
       refine il (fn := Tryz.f64) (args := [.u8 v11]) 600000 699999 [(0, .s a0), (1, .fn (.func 64) [] []), (7, .i ((a0.length : Int))), (8, .i s5)] rfl ⟨Tryz.func64, rfl, by kernel_rfl⟩ rfl rfl rfl fun T6 ds6 => ?_
       refine rn tk 5 rfl ?_
       refine jb hr (fun j13 => [(2, .bo j13)]) (fun j13 => [(699999, .sus g0.w.heap.size ds6), (600000, .hold (.s a0) (T6.getD 0 undef)), (600001, .hold (.fn (.func 64) [] []) (T6.getD 1 undef)), (600007, .hold (.i ((a0.length : Int))) (T6.getD 7 undef)), (600008, .hold (.i s5) (T6.getD 8 undef)), (499999, .sus g0.w.heap.size ds4), (400010, .hold (.bo true) (T4.getD 10 undef))]) (fun j13 hr => ?_) (fun j13 hr => ?_)
       ·
        refine rn tk 2 rfl ?_
        obtain ⟨v14, h15, hr⟩ := bind_some hr
        refine cl (basic_Letter_run _ _ h15) rfl rfl ?_
        refine rn tk 1 rfl ?_
        refine bs 5 hr rfl (fun c16 hr => ?_) (fun c16 hr => ?_)
        ·
         refine rn tk 13 rfl ?_
         cases hr
         exact jn _ rfl rfl rfl
        ·
         refine rn tk 4 rfl ?_
         refine bs 9 hr rfl (fun c17 hr => ?_) (fun c17 hr => ?_)
         ·
          refine rn tk 9 rfl ?_
          cases hr
          exact jn _ rfl rfl rfl
         ·
          refine rn tk 4 rfl ?_
          refine bs 13 hr rfl (fun c18 hr => ?_) (fun c18 hr => ?_)
          ·
           refine rn tk 5 rfl ?_
           cases hr
           exact jn _ rfl rfl rfl
          ·
           refine rn tk 5 rfl ?_
           cases hr
           exact jn _ rfl rfl rfl
       ·
        refine rn tk 1 rfl ?_
        refine ie tk [.bo j13] [(0, .s a0), (1, .fn (.func 64) [] []), (7, .i ((a0.length : Int))), (8, .i s5)] [(499999, .sus g0.w.heap.size ds4), (400010, .hold (.bo true) (T4.getD 10 undef))] (.inr rfl) rfl rfl rfl rfl (hO ?_)
        refine rn tk 3 rfl ?_
        refine ac 16 hr rfl (fun c19 hr => ?_) (fun c19 hr => ?_)
        ·
         refine rn tk 8 rfl ?_
         cases hr
         exact ato rfl rfl rfl rfl
        ·
         refine rn tk 7 rfl ?_
         cases hr
         exact atc rfl rfl
      ·
       refine rn tk 2 rfl ?_
       cases hr
       exact ato rfl rfl rfl rfl
     ·
      refine rn tk 8 rfl ?_
      refine ie tk [.bo true] [(10, .bo true)] [] (.inr rfl) rfl rfl rfl rfl ?_
      cases hr
      exact jump4 _ _ rfl rfl
     ·
      refine rn tk 2 rfl ?_
      refine ie tk [.bo false] [(10, .bo true)] [] (.inr rfl) rfl rfl rfl rfl ?_
      cases hr
      exact jump4 _ _ rfl rfl
    ·
     refine rn tk 3 rfl ?_
     cases hr
     exact jn _ rfl rfl rfl
   ·
    refine rn tk 5 rfl ?_
    cases hr
    exact jn _ rfl rfl rfl
  ·
   refine rn tk 10 rfl ?_
   cases hr
   exact jn _ rfl rfl rfl
 ·
  refine rn tk 1 rfl ?_
  cases hr
  exact kr tk (.inr rfl) rfl rfl
end Go.Proofs.YtpclhpncmlbccaaGreatDoor

/- Library functions compute what their Lean functions do: what is shared. -/
namespace Go.Proofs.YtpclhpncmlbccaaGreatDoor
open Go.RowKit
set_option maxRecDepth 100000
theorem old_drewN (g : G) (q : Nat) : Old (fun _ => False) g ⟨g.w.drewN q, g.u, g.loc⟩ :=
  ⟨rfl, rfl, rfl, ⟨Nat.le_refl _, fun _ _ => Nat.le_refl _, fun _ _ _ _ => rfl, fun _ h => h⟩, fun _ _ _ => ⟨rfl, rfl⟩⟩
theorem str_arg {g : G} {s : Str} {v : Value} (h : Rel g (.s s) v) : v = .string (strB s) := rel_b h
end Go.Proofs.YtpclhpncmlbccaaGreatDoor

/- Library functions compute what their Lean functions do. -/
namespace Go.Proofs.YtpclhpncmlbccaaGreatDoor
open Go.RowKit
set_option maxRecDepth 100000
theorem strings_Cut_run (s t : Str) (r : Str × Str × Bool) (hr : strings_Cut s t = some r) : Run Tryz.prog 32 [.s s, .s t] (.tup [.s r.1, .s r.2.1, .bo r.2.2]) := by
  unfold strings_Cut at hr
  split at hr
  case isFalse => cases hr
  rename_i hlen
  cases hr
  refine ⟨⟨_, _, ⟨Tryz.func32, rfl, by kernel_rfl⟩⟩, fun g vs hw hg ha => ?_⟩
  obtain ⟨hsz, hrel⟩ := ha
  obtain ⟨l⟩ := vs
  match l, hsz with
  | [x, y], _ =>
    obtain rfl := str_arg (hrel 0 _ rfl)
    obtain rfl := str_arg (hrel 1 _ rfl)
    obtain ⟨_, _, m, hm⟩ := hg.1 (0, 0) (by simp [globs])
    refine callsIn_wide.2 ((Tryz.strings_Cut (strB s) (strB t) m g.w (by rw [strB_size]; exact hlen) hm).mono ?_)
    rintro e w' ⟨rfl, q, rfl⟩
    refine ⟨⟨g.w.drewN q, g.u, g.loc⟩, _, rfl, rfl, old_drewN g q, hw, rfl, .tup rfl fun i c hi => ?_⟩
    match i, hi with
    | 0, rfl => exact .pv (.b rfl)
    | 1, rfl => exact .pv (.b rfl)
    | 2, rfl => exact .pv (.b rfl)
end Go.Proofs.YtpclhpncmlbccaaGreatDoor

/- Library functions compute what their Lean functions do. -/
namespace Go.Proofs.YtpclhpncmlbccaaGreatDoor
open Go.RowKit
set_option maxRecDepth 100000
theorem strings_IndexByte_run (s : Str) (c : UInt8) (r : Int) (hr : strings_IndexByte s c = some r) : Run Tryz.prog 50 [.s s, .u8 c] (.i r) := by
  unfold strings_IndexByte at hr
  cases hr
  refine ⟨⟨_, _, ⟨Tryz.func50, rfl, by kernel_rfl⟩⟩, fun g vs hw hg ha => ?_⟩
  obtain ⟨hsz, hrel⟩ := ha
  obtain ⟨l⟩ := vs
  match l, hsz with
  | [x, y], _ =>
    obtain rfl := str_arg (hrel 0 _ rfl)
    have e2 : y = .int .u8 (c.toNat : Int) := rel_b (hrel 1 _ rfl)
    subst e2
    refine callsIn_wide.2 ((Tryz.strings_IndexByte (strB s) (c.toNat : Int) g.w).mono ?_)
    rintro e w' ⟨rfl, rfl⟩
    refine ⟨g, _, rfl, rfl, Old.refl _ g, hw, rfl, ?_⟩
    simp [strB]
    exact .pv (.b rfl)
end Go.Proofs.YtpclhpncmlbccaaGreatDoor

/- Library functions compute what their Lean functions do. -/
namespace Go.Proofs.YtpclhpncmlbccaaGreatDoor
open Go.RowKit
set_option maxRecDepth 100000
theorem strings_Contains_run (s t : Str) (r : Bool) (hr : strings_Contains s t = some r) : Run Tryz.prog 83 [.s s, .s t] (.bo r) := by
  unfold strings_Contains at hr
  split at hr
  case isFalse => cases hr
  rename_i hlen
  cases hr
  refine ⟨⟨_, _, ⟨Tryz.func83, rfl, by kernel_rfl⟩⟩, fun g vs hw hg ha => ?_⟩
  obtain ⟨hsz, hrel⟩ := ha
  obtain ⟨l⟩ := vs
  match l, hsz with
  | [x, y], _ =>
    obtain rfl := str_arg (hrel 0 _ rfl)
    obtain rfl := str_arg (hrel 1 _ rfl)
    obtain ⟨_, _, m, hm⟩ := hg.1 (0, 0) (by simp [globs])
    refine callsIn_wide.2 ((Tryz.strings_Contains (strB s) (strB t) m g.w (by rw [strB_size]; exact hlen) hm).mono ?_)
    rintro e w' ⟨rfl, rfl⟩
    exact ⟨g, _, rfl, rfl, Old.refl _ g, hw, rfl, .pv (.b rfl)⟩
end Go.Proofs.YtpclhpncmlbccaaGreatDoor

namespace Go.Proofs.YtpclhpncmlbccaaGreatDoor
open Go.RowKit
set_option maxRecDepth 100000
set_option maxHeartbeats 40000000
set_option linter.unusedVariables false
theorem internal_stringslite_HasPrefix_run (a0 : Str) (a1 : Str) (r : Bool) (hr : internal_stringslite_HasPrefix a0 a1 = some r) : Run Tryz.prog 115 [.s a0, .s a1] (.bo r) := by
 unfold internal_stringslite_HasPrefix at hr
 refine rf (fn := Tryz.f115) ⟨Tryz.func115, rfl, by kernel_rfl⟩ rfl (fun _ => rfl) fun g0 hg => ?_
 refine rn tk 5 rfl ?_
 refine jb hr (fun j1 => [(4, .bo j1)]) (fun j1 => []) (fun j1 hr => ?_) (fun j1 hr => ?_)
 ·
  refine rn tk 7 rfl ?_
  refine bs 10 hr rfl (fun c2 hr => ?_) (fun c2 hr => ?_)
  ·
   refine rn tk 3 rfl ?_
   obtain ⟨v3, h4, hr⟩ := bind_some hr
   refine ug rfl rfl rfl ?_
   refine wscH tk h4 rfl rfl rfl rfl ?_
   refine rn tk 5 rfl ?_
   cases hr
   exact jn _ rfl rfl rfl
  ·
   refine rn tk 9 rfl ?_
   cases hr
   exact jn _ rfl rfl rfl
 ·
  refine rn tk 1 rfl ?_
  cases hr
  exact kr tk (.inr rfl) rfl rfl
theorem strings_HasPrefix_run (a0 : Str) (a1 : Str) (r : Bool) (hr : strings_HasPrefix a0 a1 = some r) : Run Tryz.prog 81 [.s a0, .s a1] (.bo r) := by
 unfold strings_HasPrefix at hr
 refine rf (fn := Tryz.f81) ⟨Tryz.func81, rfl, by kernel_rfl⟩ rfl (fun _ => rfl) fun g0 hg => ?_
 refine rn tk 9 rfl ?_
 obtain ⟨v1, h2, hr⟩ := bind_some hr
 refine cl (internal_stringslite_HasPrefix_run _ _ _ h2) rfl rfl ?_
 refine rn tk 4 rfl ?_
 cases hr
 exact kr tk (.inr rfl) rfl rfl
theorem internal_stringslite_HasSuffix_run (a0 : Str) (a1 : Str) (r : Bool) (hr : internal_stringslite_HasSuffix a0 a1 = some r) : Run Tryz.prog 116 [.s a0, .s a1] (.bo r) := by
 unfold internal_stringslite_HasSuffix at hr
 refine rf (fn := Tryz.f116) ⟨Tryz.func116, rfl, by kernel_rfl⟩ rfl (fun _ => rfl) fun g0 hg => ?_
 refine rn tk 5 rfl ?_
 refine jb hr (fun j1 => [(4, .bo j1)]) (fun j1 => []) (fun j1 hr => ?_) (fun j1 hr => ?_)
 ·
  refine rn tk 7 rfl ?_
  refine bs 10 hr rfl (fun c2 hr => ?_) (fun c2 hr => ?_)
  ·
   refine rn tk 6 rfl ?_
   obtain ⟨v3, h4, hr⟩ := bind_some hr
   refine ug rfl rfl rfl ?_
   refine wscL tk h4 rfl rfl rfl rfl ?_
   refine rn tk 5 rfl ?_
   cases hr
   exact jn _ rfl rfl rfl
  ·
   refine rn tk 12 rfl ?_
   cases hr
   exact jn _ rfl rfl rfl
 ·
  refine rn tk 1 rfl ?_
  cases hr
  exact kr tk (.inr rfl) rfl rfl
theorem strings_HasSuffix_run (a0 : Str) (a1 : Str) (r : Bool) (hr : strings_HasSuffix a0 a1 = some r) : Run Tryz.prog 82 [.s a0, .s a1] (.bo r) := by
 unfold strings_HasSuffix at hr
 refine rf (fn := Tryz.f82) ⟨Tryz.func82, rfl, by kernel_rfl⟩ rfl (fun _ => rfl) fun g0 hg => ?_
 refine rn tk 9 rfl ?_
 obtain ⟨v1, h2, hr⟩ := bind_some hr
 refine cl (internal_stringslite_HasSuffix_run _ _ _ h2) rfl rfl ?_
 refine rn tk 4 rfl ?_
 cases hr
 exact kr tk (.inr rfl) rfl rfl
theorem envelope_Domain_run (a0 : Str) (r : Bool) (hr : envelope_Domain a0 = some r) : Run Tryz.prog 52 [.s a0] (.bo r) := by
 unfold envelope_Domain at hr
 refine rf (fn := Tryz.f52) ⟨Tryz.func52, rfl, by kernel_rfl⟩ rfl (fun _ => rfl) fun g0 hg => ?_
 refine rn tk 10 rfl ?_
 refine jb hr (fun j1 => [(2, .bo j1)]) (fun j1 => []) (fun j1 hr => ?_) (fun j1 hr => ?_)
 ·
  refine rn tk 4 rfl ?_
  refine bs 6 hr rfl (fun c2 hr => ?_) (fun c2 hr => ?_)
  ·
   refine rn tk 5 rfl ?_
   refine bs 11 hr rfl (fun c3 hr => ?_) (fun c3 hr => ?_)
   ·
    refine rn tk 2 rfl ?_
    refine ug rfl rfl rfl ?_
    refine ct hr (fun j4 => [(0, .s a0), (11, .bo true), (14, .bo j4)]) (fun j4 => []) (fun j4 hr jump4 => ?_) (fun j4 hr => ?_)
    ·
     refine il (fn := Tryz.f51) (args := [.s a0, .fn (.func 80) [] []]) 400000 499999 [(0, .s a0), (11, .bo true)] rfl ⟨Tryz.func51, rfl, by kernel_rfl⟩ rfl rfl rfl fun T4 ds4 => ?_
     refine rn tk 14 rfl ?_
     refine al2 hr (fun s5 => [(0, .s a0), (1, .fn (.func 80) [] []), (7, .i ((a0.length : Int))), (8, .i s5)]) (fun s5 => [(499999, .sus g0.w.heap.size ds4), (400000, .hold (.s a0) (T4.getD 0 undef)), (400011, .hold (.bo true) (T4.getD 11 undef))]) (.exit 0) (fun b6 => []) (fun b6 => [(499999, .sus g0.w.heap.size ds4), (400000, .hold (.s a0) (T4.getD 0 undef)), (400011, .hold (.bo true) (T4.getD 11 undef))]) .ret (fun b7 => [(4, .bo false)]) (fun b7 => [(499999, .sus g0.w.heap.size ds4), (400000, .hold (.s a0) (T4.getD 0 undef)), (400011, .hold (.bo true) (T4.getD 11 undef))]) rfl rfl (fun s5 x9 hr => ?_) (fun b6 hr => ?_) (fun b7 hr => ?_)
     ·
      unfold envelope_Domain_l1 at hr
      refine rn tk 6 rfl ?_
      refine ac 9 hr rfl (fun c10 hr => ?_) (fun c10 hr => ?_)
      ·
       refine rn tk 15 rfl ?_
       obtain ⟨v11, h12, hr⟩ := bind_some hr
       refine ws tk h12 rfl rfl rfl rfl ?_
       refine il (fn := Tryz.f80) (args := [.u8 v11]) 600000 699999 [(0, .s a0), (1, .fn (.func 80) [] []), (7, .i ((a0.length : Int))), (8, .i s5)] rfl ⟨Tryz.func80, rfl, by kernel_rfl⟩ rfl rfl rfl fun T6 ds6 => ?_
       refine rn tk 5 rfl ?_
       refine jb hr (fun j13 => [(2, .bo j13)]) (fun j13 => [(699999, .sus g0.w.heap.size ds6), (600000, .hold (.s a0) (T6.getD 0 undef)), (600001, .hold (.fn (.func 80) [] []) (T6.getD 1 undef)), (600007, .hold (.i ((a0.length : Int))) (T6.getD 7 undef)), (600008, .hold (.i s5) (T6.getD 8 undef)), (499999, .sus g0.w.heap.size ds4), (400000, .hold (.s a0) (T4.getD 0 undef)), (400011, .hold (.bo true) (T4.getD 11 undef))]) (fun j13 hr => ?_) (fun j13 hr => ?_)
       ·
        refine rn tk 4 rfl ?_
        refine bs 5 hr rfl (fun c14 hr => ?_) (fun c14 hr => ?_)
        ·
         refine rn tk 4 rfl ?_
         refine bs 9 hr rfl (fun c15 hr => ?_) (fun c15 hr => ?_)
         ·
          refine rn tk 17 rfl ?_
          cases hr
          exact jn _ rfl rfl rfl
         ·
          refine rn tk 3 rfl ?_
          refine bs 12 hr rfl (fun c16 hr => ?_) (fun c16 hr => ?_)
          ·
           refine rn tk 5 rfl ?_
           refine bs 17 hr rfl (fun c17 hr => ?_) (fun c17 hr => ?_)
           ·
            refine rn tk 9 rfl ?_
            cases hr
            exact jn _ rfl rfl rfl
           ·
            refine rn tk 4 rfl ?_
            refine bs 21 hr rfl (fun c18 hr => ?_) (fun c18 hr => ?_)
            ·
             refine rn tk 5 rfl ?_
             cases hr
             exact jn _ rfl rfl rfl
            ·
             refine rn tk 5 rfl ?_
             cases hr
             exact jn _ rfl rfl rfl
          ·
           refine rn tk 9 rfl ?_
           refine bs 21 hr rfl (fun c19 hr => ?_) (fun c19 hr => ?_)
           ·
            refine rn tk 5 rfl ?_
            cases hr
            exact jn _ rfl rfl rfl
           ·
            refine rn tk 5 rfl ?_
            cases hr
            exact jn _ rfl rfl rfl
        ·
         refine rn tk 7 rfl ?_
         refine bs 12 hr rfl (fun c20 hr => ?_) (fun c20 hr => ?_)
         ·
          refine rn tk 5 rfl ?_
          refine bs 17 hr rfl (fun c21 hr => ?_) (fun c21 hr => ?_)
          ·
           refine rn tk 9 rfl ?_
           cases hr
           exact jn _ rfl rfl rfl
          ·
           refine rn tk 4 rfl ?_
           refine bs 21 hr rfl (fun c22 hr => ?_) (fun c22 hr => ?_)
           ·
            refine rn tk 5 rfl ?_
            cases hr
            exact jn _ rfl rfl rfl
           ·
            refine rn tk 5 rfl ?_
            cases hr
            exact jn _ rfl rfl rfl
         ·
          refine rn tk 9 rfl ?_
          refine bs 21 hr rfl (fun c23 hr => ?_) (fun c23 hr => ?_)
          ·
           refine rn tk 5 rfl ?_
           cases hr
           exact jn _ rfl rfl rfl
          ·
           refine rn tk 5 rfl ?_
           cases hr
           exact jn _ rfl rfl rfl
       ·
        refine rn tk 1 rfl ?_
        refine ie tk [.bo j13] [(0, .s a0), (1, .fn (.func 80) [] []), (7, .i ((a0.length : Int))), (8, .i s5)] [(499999, .sus g0.w.heap.size ds4), (400000, .hold (.s a0) (T4.getD 0 undef)), (400011, .hold (.bo true) (T4.getD 11 undef))] (.inr rfl) rfl rfl rfl rfl (hO ?_)
        refine rn tk 3 rfl ?_
        refine ac 16 hr rfl (fun c24 hr => ?_) (fun c24 hr => ?_)
        ·
         refine rn tk 8 rfl ?_
         cases hr
         exact ato rfl rfl rfl rfl
        ·
         refine rn tk 7 rfl ?_
         cases hr
         exact atc rfl rfl
      ·
       refine rn tk 2 rfl ?_
       cases hr
       exact ato rfl rfl rfl rfl
     ·
      refine rn tk 8 rfl ?_
      refine ie tk [.bo true] [(0, .s a0), (11, .bo true)] [] (.inr rfl) rfl rfl rfl rfl ?_
      cases hr
      exact jump4 _ _ rfl rfl
     ·
      refine rn tk 2 rfl ?_
      refine ie tk [.bo false] [(0, .s a0), (11, .bo true)] [] (.inr rfl) rfl rfl rfl rfl ?_
      cases hr
      exact jump4 _ _ rfl rfl
    ·
     refine rn tk 2 rfl ?_
     refine bs 16 hr rfl (fun c25 hr => ?_) (fun c25 hr => ?_)
     ·
      refine rn tk 1 rfl ?_
      obtain ⟨v26, h27, hr⟩ := bind_some hr
      refine ug rfl rfl rfl ?_
      refine cl (strings_HasPrefix_run _ _ _ h27) rfl rfl ?_
      refine rn tk 3 rfl ?_
      refine bs 21 hr rfl (fun c28 hr => ?_) (fun c28 hr => ?_)
      ·
       refine rn tk 1 rfl ?_
       obtain ⟨v29, h30, hr⟩ := bind_some hr
       refine ug rfl rfl rfl ?_
       refine cl (strings_HasSuffix_run _ _ _ h30) rfl rfl ?_
       refine rn tk 3 rfl ?_
       refine bs 26 hr rfl (fun c31 hr => ?_) (fun c31 hr => ?_)
       ·
        refine rn tk 1 rfl ?_
        obtain ⟨v32, h33, hr⟩ := bind_some hr
        refine ug rfl rfl rfl ?_
        refine cl (strings_Contains_run _ _ _ h33) rfl rfl ?_
        refine rn tk 4 rfl ?_
        cases hr
        exact jn _ rfl rfl rfl
       ·
        refine rn tk 6 rfl ?_
        cases hr
        exact jn _ rfl rfl rfl
      ·
       refine rn tk 11 rfl ?_
       cases hr
       exact jn _ rfl rfl rfl
     ·
      refine rn tk 16 rfl ?_
      cases hr
      exact jn _ rfl rfl rfl
   ·
    refine rn tk 21 rfl ?_
    cases hr
    exact jn _ rfl rfl rfl
  ·
   refine rn tk 26 rfl ?_
   cases hr
   exact jn _ rfl rfl rfl
 ·
  refine rn tk 1 rfl ?_
  cases hr
  exact kr tk (.inr rfl) rfl rfl
theorem envelope_Split_run (a0 : Str) (r : Str × Str × Bool) (hr : envelope_Split a0 = some r) : Run Tryz.prog 19 [.s a0] (.tup [.s r.1, .s r.2.1, .bo r.2.2]) := by
 unfold envelope_Split at hr
 refine rf (fn := Tryz.f19) ⟨Tryz.func19, rfl, by kernel_rfl⟩ rfl (fun _ => rfl) fun g0 hg => ?_
 refine rn tk 10 rfl ?_
 obtain ⟨v1, h2, hr⟩ := bind_some hr
 refine cl (strings_Cut_run _ _ _ h2) rfl rfl ?_
 refine rn tk 14 rfl ?_
 refine jb hr (fun j3 => [(2, .s v1.1), (3, .s v1.2.1), (4, .bo j3)]) (fun j3 => []) (fun j3 hr => ?_) (fun j3 hr => ?_)
 ·
  refine rn tk 5 rfl ?_
  refine bs 15 hr rfl (fun c4 hr => ?_) (fun c4 hr => ?_)
  ·
   refine rn tk 4 rfl ?_
   refine bs 19 hr rfl (fun c5 hr => ?_) (fun c5 hr => ?_)
   ·
    refine rn tk 5 rfl ?_
    refine bs 24 hr rfl (fun c6 hr => ?_) (fun c6 hr => ?_)
    ·
     refine rn tk 2 rfl ?_
     refine ug rfl rfl rfl ?_
     refine ct hr (fun j7 => [(3, .s v1.2.1), (12, .s v1.1), (13, .s v1.2.1), (24, .bo true), (27, .bo j7)]) (fun j7 => []) (fun j7 hr jump4 => ?_) (fun j7 hr => ?_)
     ·
      refine il (fn := Tryz.f51) (args := [.s v1.1, .fn (.func 48) [] []]) 400000 499999 [(3, .s v1.2.1), (12, .s v1.1), (13, .s v1.2.1), (24, .bo true)] rfl ⟨Tryz.func51, rfl, by kernel_rfl⟩ rfl rfl rfl fun T4 ds4 => ?_
      refine rn tk 14 rfl ?_
      refine al2 hr (fun s8 => [(0, .s v1.1), (1, .fn (.func 48) [] []), (7, .i ((v1.1.length : Int))), (8, .i s8)]) (fun s8 => [(499999, .sus g0.w.heap.size ds4), (400003, .hold (.s v1.2.1) (T4.getD 3 undef)), (400012, .hold (.s v1.1) (T4.getD 12 undef)), (400013, .hold (.s v1.2.1) (T4.getD 13 undef)), (400024, .hold (.bo true) (T4.getD 24 undef))]) (.exit 0) (fun b9 => []) (fun b9 => [(499999, .sus g0.w.heap.size ds4), (400003, .hold (.s v1.2.1) (T4.getD 3 undef)), (400012, .hold (.s v1.1) (T4.getD 12 undef)), (400013, .hold (.s v1.2.1) (T4.getD 13 undef)), (400024, .hold (.bo true) (T4.getD 24 undef))]) .ret (fun b10 => [(4, .bo false)]) (fun b10 => [(499999, .sus g0.w.heap.size ds4), (400003, .hold (.s v1.2.1) (T4.getD 3 undef)), (400012, .hold (.s v1.1) (T4.getD 12 undef)), (400013, .hold (.s v1.2.1) (T4.getD 13 undef)), (400024, .hold (.bo true) (T4.getD 24 undef))]) rfl rfl (fun s8 x12 hr => ?_) (fun b9 hr => ?_) (fun b10 hr => ?_)
      ·
       unfold envelope_Split_l1 at hr
       refine rn tk 6 rfl ?_
       refine ac 9 hr rfl (fun c13 hr => ?_) (fun c13 hr => ?_)
       ·
        refine rn tk 15 rfl ?_
        obtain ⟨v14, h15, hr⟩ := bind_some hr
        refine ws tk h15 rfl rfl rfl rfl ?_
        refine il (fn := Tryz.f48) (args := [.u8 v14]) 600000 699999 [(0, .s v1.1), (1, .fn (.func 48) [] []), (7, .i ((v1.1.length : Int))), (8, .i s8)] rfl ⟨Tryz.func48, rfl, by kernel_rfl⟩ rfl rfl rfl fun T6 ds6 => ?_
        refine rn tk 5 rfl ?_
        refine jb hr (fun j16 => [(2, .bo j16)]) (fun j16 => [(699999, .sus g0.w.heap.size ds6), (600000, .hold (.s v1.1) (T6.getD 0 undef)), (600001, .hold (.fn (.func 48) [] []) (T6.getD 1 undef)), (600007, .hold (.i ((v1.1.length : Int))) (T6.getD 7 undef)), (600008, .hold (.i s8) (T6.getD 8 undef)), (499999, .sus g0.w.heap.size ds4), (400003, .hold (.s v1.2.1) (T4.getD 3 undef)), (400012, .hold (.s v1.1) (T4.getD 12 undef)), (400013, .hold (.s v1.2.1) (T4.getD 13 undef)), (400024, .hold (.bo true) (T4.getD 24 undef))]) (fun j16 hr => ?_) (fun j16 hr => ?_)
        ·
         refine rn tk 2 rfl ?_
         obtain ⟨v17, h18, hr⟩ := bind_some hr
         refine cl (basic_Letter_run _ _ h18) rfl rfl ?_
         refine rn tk 1 rfl ?_
         refine bs 5 hr rfl (fun c19 hr => ?_) (fun c19 hr => ?_)
         ·
          refine rn tk 6 rfl ?_
          cases hr
          exact jn _ rfl rfl rfl
         ·
          refine rn tk 1 rfl ?_
          obtain ⟨v20, h21, hr⟩ := bind_some hr
          refine ug rfl rfl rfl ?_
          refine cl (strings_IndexByte_run _ _ _ h21) rfl rfl ?_
          refine rn tk 4 rfl ?_
          cases hr
          exact jn _ rfl rfl rfl
        ·
         refine rn tk 1 rfl ?_
         refine ie tk [.bo j16] [(0, .s v1.1), (1, .fn (.func 48) [] []), (7, .i ((v1.1.length : Int))), (8, .i s8)] [(499999, .sus g0.w.heap.size ds4), (400003, .hold (.s v1.2.1) (T4.getD 3 undef)), (400012, .hold (.s v1.1) (T4.getD 12 undef)), (400013, .hold (.s v1.2.1) (T4.getD 13 undef)), (400024, .hold (.bo true) (T4.getD 24 undef))] (.inr rfl) rfl rfl rfl rfl (hO ?_)
         refine rn tk 3 rfl ?_
         refine ac 16 hr rfl (fun c22 hr => ?_) (fun c22 hr => ?_)
         ·
          refine rn tk 8 rfl ?_
          cases hr
          exact ato rfl rfl rfl rfl
         ·
          refine rn tk 7 rfl ?_
          cases hr
          exact atc rfl rfl
       ·
        refine rn tk 2 rfl ?_
        cases hr
        exact ato rfl rfl rfl rfl
      ·
       refine rn tk 8 rfl ?_
       refine ie tk [.bo true] [(3, .s v1.2.1), (12, .s v1.1), (13, .s v1.2.1), (24, .bo true)] [] (.inr rfl) rfl rfl rfl rfl ?_
       cases hr
       exact jump4 _ _ rfl rfl
      ·
       refine rn tk 2 rfl ?_
       refine ie tk [.bo false] [(3, .s v1.2.1), (12, .s v1.1), (13, .s v1.2.1), (24, .bo true)] [] (.inr rfl) rfl rfl rfl rfl ?_
       cases hr
       exact jump4 _ _ rfl rfl
     ·
      refine rn tk 2 rfl ?_
      refine bs 29 hr rfl (fun c23 hr => ?_) (fun c23 hr => ?_)
      ·
       refine rn tk 1 rfl ?_
       obtain ⟨v24, h25, hr⟩ := bind_some hr
       refine ug rfl rfl rfl ?_
       refine cl (envelope_Domain_run _ _ h25) rfl rfl ?_
       refine rn tk 5 rfl ?_
       cases hr
       exact jn _ rfl rfl rfl
      ·
       refine rn tk 7 rfl ?_
       cases hr
       exact jn _ rfl rfl rfl
    ·
     refine rn tk 12 rfl ?_
     cases hr
     exact jn _ rfl rfl rfl
   ·
    refine rn tk 17 rfl ?_
    cases hr
    exact jn _ rfl rfl rfl
  ·
   refine rn tk 21 rfl ?_
   cases hr
   exact jn _ rfl rfl rfl
 ·
  refine rn tk 1 rfl ?_
  cases hr
  exact kr tk (.inr rfl) rfl rfl
theorem envelope_Address_run (a0 : Str) (r : Bool) (hr : envelope_Address a0 = some r) : Run Tryz.prog 38 [.s a0] (.bo r) := by
 unfold envelope_Address at hr
 refine rf (fn := Tryz.f38) ⟨Tryz.func38, rfl, by kernel_rfl⟩ rfl (fun _ => rfl) fun g0 hg => ?_
 refine rn tk 8 rfl ?_
 obtain ⟨v1, h2, hr⟩ := bind_some hr
 refine cl (envelope_Split_run _ _ h2) rfl rfl ?_
 refine rn tk 16 rfl ?_
 cases hr
 exact kr tk (.inr rfl) rfl rfl
theorem envelope_Notify_run (a0 : Int) (r : Bool) (hr : envelope_Notify a0 = some r) : Run Tryz.prog 105 [.i a0] (.bo r) := by
 unfold envelope_Notify at hr
 refine rf (fn := Tryz.f105) ⟨Tryz.func105, rfl, by kernel_rfl⟩ rfl (fun _ => rfl) fun g0 hg => ?_
 refine rn tk 5 rfl ?_
 refine jb hr (fun j1 => [(2, .bo j1)]) (fun j1 => []) (fun j1 hr => ?_) (fun j1 hr => ?_)
 ·
  refine rn tk 4 rfl ?_
  refine bs 5 hr rfl (fun c2 hr => ?_) (fun c2 hr => ?_)
  ·
   refine rn tk 5 rfl ?_
   cases hr
   exact jn _ rfl rfl rfl
  ·
   refine rn tk 5 rfl ?_
   cases hr
   exact jn _ rfl rfl rfl
 ·
  refine rn tk 1 rfl ?_
  cases hr
  exact kr tk (.inr rfl) rfl rfl
theorem envelope_Recipients_run (a0 : List TRecipient) (r : TFault) (hr : envelope_Recipients a0 = some r) : Run Tryz.prog 70 [.l TRecipient.pc a0] (.agg [.i r.Code, .i r.Index]) := by
 unfold envelope_Recipients at hr
 refine rf (fn := Tryz.f70) ⟨Tryz.func70, rfl, by kernel_rfl⟩ rfl (fun _ => rfl) fun g0 hg => ?_
 refine rn tk 9 rfl ?_
 refine wn tk rfl rfl rfl ?_
 refine rn tk 4 rfl ?_
 refine al2 hr (fun s1 => [(0, .l TRecipient.pc a0), (2, .ptr 2 0), (5, .l TRecipient.pc a0), (6, .i ((a0.length : Int))), (7, .i s1)]) (fun s1 => [(2, .cells [.i 0, .i 0])]) (.exit 0) (fun b2 => [(2, .ptr 2 0)]) (fun b2 => [(2, .cells [.i 0, .i 0])]) .ret (fun b3 => [(2, .ptr 2 0)]) (fun b3 => [(2, .cells [.i b3.Code, .i b3.Index])]) rfl rfl (fun s1 x5 hr => ?_) (fun b2 hr => ?_) (fun b3 hr => ?_)
 ·
  unfold envelope_Recipients_l1 at hr
  refine rn tk 6 rfl ?_
  refine ac 8 hr rfl (fun c6 hr => ?_) (fun c6 hr => ?_)
  ·
   refine rn tk 7 rfl ?_
   obtain ⟨v7, h8, hr⟩ := bind_some hr
   refine wi tk h8 rfl rfl rfl rfl rfl ?_
   refine rn tk 11 rfl ?_
   obtain ⟨v9, h10, hr⟩ := bind_some hr
   refine cl (envelope_Address_run _ _ h10) rfl rfl ?_
   refine rn tk 4 rfl ?_
   refine ac 12 hr rfl (fun c11 hr => ?_) (fun c11 hr => ?_)
   ·
    refine rn tk 3 rfl ?_
    obtain ⟨v12, h13, hr⟩ := bind_some hr
    refine cl (basic_Fault_run _ _ _ h13) rfl rfl ?_
    refine rn tk 7 rfl ?_
    cases hr
    exact ato rfl rfl rfl rfl
   ·
    refine rn tk 4 rfl ?_
    obtain ⟨v14, h15, hr⟩ := bind_some hr
    refine cl (envelope_Notify_run _ _ h15) rfl rfl ?_
    refine rn tk 4 rfl ?_
    refine ac 19 hr rfl (fun c16 hr => ?_) (fun c16 hr => ?_)
    ·
     refine rn tk 3 rfl ?_
     obtain ⟨v17, h18, hr⟩ := bind_some hr
     refine cl (basic_Fault_run _ _ _ h18) rfl rfl ?_
     refine rn tk 7 rfl ?_
     cases hr
     exact ato rfl rfl rfl rfl
    ·
     refine rn tk 4 rfl ?_
     obtain ⟨v19, h20, hr⟩ := bind_some hr
     refine wlH tk h20 rfl rfl rfl (fun _ => rfl) rfl ?_
     refine rn tk 1 rfl ?_
     refine il (fn := Tryz.f106) (args := [.l TRecipient.pc v19, .fn (.func 107) [] [.ptr 4 0]]) 500000 599999 [(0, .l TRecipient.pc a0), (2, .ptr 2 0), (3, .i s1), (5, .l TRecipient.pc a0), (6, .i ((a0.length : Int))), (7, .i s1)] rfl ⟨Tryz.func106, rfl, by kernel_rfl⟩ rfl rfl rfl fun T5 ds5 => ?_
     refine rn tk 9 rfl ?_
     refine ct hr (fun j21 => [(7, .i j21)]) (fun j21 => [(599999, .sus g0.w.heap.size ds5), (500000, .hold (.l TRecipient.pc a0) (T5.getD 0 undef)), (500002, .hold (.ptr 2 0) (T5.getD 2 undef)), (500005, .hold (.l TRecipient.pc a0) (T5.getD 5 undef)), (500006, .hold (.i ((a0.length : Int))) (T5.getD 6 undef)), (500007, .hold (.i s1) (T5.getD 7 undef)), (500003, .hold (.i s1) (T5.getD 3 undef)), (2, .cells [.i 0, .i 0])]) (fun j21 hr jump6 => ?_) (fun j21 hr => ?_)
     ·
      refine il (fn := Tryz.f132) (args := [.l TRecipient.pc v19, .fn (.func 107) [] [.ptr 4 0]]) 600000 699999 [] rfl ⟨Tryz.func132, rfl, by kernel_rfl⟩ rfl rfl rfl fun T6 ds6 => ?_
      refine rn tk 9 rfl ?_
      refine wn tk rfl rfl rfl ?_
      refine rn tk 4 rfl ?_
      refine al2 hr (fun s22 => [(0, .l TRecipient.pc v19), (1, .fn (.func 107) [] [.ptr 4 0]), (7, .i ((v19.length : Int))), (8, .i s22)]) (fun s22 => [(699999, .sus g0.w.heap.size ds6), (599999, .sus g0.w.heap.size ds5), (500000, .hold (.l TRecipient.pc a0) (T5.getD 0 undef)), (500002, .hold (.ptr 2 0) (T5.getD 2 undef)), (500005, .hold (.l TRecipient.pc a0) (T5.getD 5 undef)), (500006, .hold (.i ((a0.length : Int))) (T5.getD 6 undef)), (500007, .hold (.i s1) (T5.getD 7 undef)), (500003, .hold (.i s1) (T5.getD 3 undef)), (4, .cells [.s v7.Address, .i v7.Notify]), (2, .cells [.i 0, .i 0])]) (.exit 0) (fun b23 => []) (fun b23 => [(699999, .sus g0.w.heap.size ds6), (599999, .sus g0.w.heap.size ds5), (500000, .hold (.l TRecipient.pc a0) (T5.getD 0 undef)), (500002, .hold (.ptr 2 0) (T5.getD 2 undef)), (500005, .hold (.l TRecipient.pc a0) (T5.getD 5 undef)), (500006, .hold (.i ((a0.length : Int))) (T5.getD 6 undef)), (500007, .hold (.i s1) (T5.getD 7 undef)), (500003, .hold (.i s1) (T5.getD 3 undef)), (2, .cells [.i 0, .i 0])]) .ret (fun b24 => [(4, .i b24)]) (fun b24 => [(699999, .sus g0.w.heap.size ds6), (599999, .sus g0.w.heap.size ds5), (500000, .hold (.l TRecipient.pc a0) (T5.getD 0 undef)), (500002, .hold (.ptr 2 0) (T5.getD 2 undef)), (500005, .hold (.l TRecipient.pc a0) (T5.getD 5 undef)), (500006, .hold (.i ((a0.length : Int))) (T5.getD 6 undef)), (500007, .hold (.i s1) (T5.getD 7 undef)), (500003, .hold (.i s1) (T5.getD 3 undef)), (2, .cells [.i 0, .i 0])]) rfl rfl (fun s22 x26 hr => ?_) (fun b23 hr => ?_) (fun b24 hr => ?_)
      ·
       unfold envelope_Recipients_l2 at hr
       refine rn tk 6 rfl ?_
       refine ac 9 hr rfl (fun c27 hr => ?_) (fun c27 hr => ?_)
       ·
        refine rn tk 15 rfl ?_
        obtain ⟨v28, h29, hr⟩ := bind_some hr
        refine wi tk h29 rfl rfl rfl rfl rfl ?_
        refine rn tk 1 rfl ?_
        refine il (fn := Tryz.f107) (args := [.agg [.s v28.Address, .i v28.Notify], .ptr 4 0]) 800000 899999 [(0, .l TRecipient.pc v19), (1, .fn (.func 107) [] [.ptr 4 0]), (5, .i s22), (7, .i ((v19.length : Int))), (8, .i s22)] rfl ⟨Tryz.func107, rfl, by kernel_rfl⟩ rfl rfl rfl fun T8 ds8 => ?_
        refine rn tk 2 rfl ?_
        refine wo (opTo_box (k := 2) 1002 rfl rfl rfl rfl rfl) rfl ?_
        refine rn tk 14 rfl ?_
        refine ie tk [.bo ((v28.Address == v7.Address))] [(0, .l TRecipient.pc v19), (1, .fn (.func 107) [] [.ptr 4 0]), (5, .i s22), (7, .i ((v19.length : Int))), (8, .i s22)] [(1002, .cells [.s v28.Address, .i v28.Notify]), (699999, .sus g0.w.heap.size ds6), (599999, .sus g0.w.heap.size ds5), (500000, .hold (.l TRecipient.pc a0) (T5.getD 0 undef)), (500002, .hold (.ptr 2 0) (T5.getD 2 undef)), (500005, .hold (.l TRecipient.pc a0) (T5.getD 5 undef)), (500006, .hold (.i ((a0.length : Int))) (T5.getD 6 undef)), (500007, .hold (.i s1) (T5.getD 7 undef)), (500003, .hold (.i s1) (T5.getD 3 undef)), (4, .cells [.s v7.Address, .i v7.Notify]), (2, .cells [.i 0, .i 0])] (.inr rfl) rfl rfl rfl rfl (hO ?_)
        refine rn tk 2 rfl ?_
        refine ac 16 hr rfl (fun c30 hr => ?_) (fun c30 hr => ?_)
        ·
         refine rn tk 9 rfl ?_
         cases hr
         exact ato rfl rfl rfl rfl
        ·
         refine rn tk 7 rfl ?_
         cases hr
         exact atc rfl rfl
       ·
        refine rn tk 2 rfl ?_
        cases hr
        exact ato rfl rfl rfl rfl
      ·
       refine rn tk 8 rfl ?_
       refine ie tk [.i ((-1))] [] [(599999, .sus g0.w.heap.size ds5), (500000, .hold (.l TRecipient.pc a0) (T5.getD 0 undef)), (500002, .hold (.ptr 2 0) (T5.getD 2 undef)), (500005, .hold (.l TRecipient.pc a0) (T5.getD 5 undef)), (500006, .hold (.i ((a0.length : Int))) (T5.getD 6 undef)), (500007, .hold (.i s1) (T5.getD 7 undef)), (500003, .hold (.i s1) (T5.getD 3 undef)), (2, .cells [.i 0, .i 0])] (.inr rfl) rfl rfl rfl rfl ?_
       cases hr
       exact jump6 _ _ rfl rfl
      ·
       refine rn tk 2 rfl ?_
       refine ie tk [.i b24] [] [(599999, .sus g0.w.heap.size ds5), (500000, .hold (.l TRecipient.pc a0) (T5.getD 0 undef)), (500002, .hold (.ptr 2 0) (T5.getD 2 undef)), (500005, .hold (.l TRecipient.pc a0) (T5.getD 5 undef)), (500006, .hold (.i ((a0.length : Int))) (T5.getD 6 undef)), (500007, .hold (.i s1) (T5.getD 7 undef)), (500003, .hold (.i s1) (T5.getD 3 undef)), (2, .cells [.i 0, .i 0])] (.inr rfl) rfl rfl rfl rfl ?_
       cases hr
       exact jump6 _ _ rfl rfl
     ·
      refine rn tk 5 rfl ?_
      refine ie tk [.bo (decide (0 ≤ j21))] [(0, .l TRecipient.pc a0), (2, .ptr 2 0), (3, .i s1), (5, .l TRecipient.pc a0), (6, .i ((a0.length : Int))), (7, .i s1)] [(2, .cells [.i 0, .i 0])] (.inr rfl) rfl rfl rfl rfl (hO ?_)
      refine rn tk 3 rfl ?_
      refine ac 26 hr rfl (fun c31 hr => ?_) (fun c31 hr => ?_)
      ·
       refine rn tk 3 rfl ?_
       obtain ⟨v32, h33, hr⟩ := bind_some hr
       refine cl (basic_Fault_run _ _ _ h33) rfl rfl ?_
       refine rn tk 7 rfl ?_
       cases hr
       exact ato rfl rfl rfl rfl
      ·
       refine rn tk 8 rfl ?_
       cases hr
       exact atc rfl rfl
  ·
   refine rn tk 2 rfl ?_
   cases hr
   exact ato rfl rfl rfl rfl
 ·
  refine rn tk 4 rfl ?_
  obtain ⟨v34, h35, hr⟩ := bind_some hr
  refine cl (basic_None_run _ h35) rfl rfl ?_
  refine rn tk 4 rfl ?_
  cases hr
  exact kr tk (.inr rfl) rfl rfl
 ·
  refine rn tk 2 rfl ?_
  cases hr
  exact kr tk (.inr rfl) rfl rfl
theorem envelope_Validate_run (a0 : TEnvelope) (r : TFault) (hr : envelope_Validate a0 = some r) : Run Tryz.prog 35 [.agg [.s a0.From, .l TRecipient.pc a0.To, .s a0.Id]] (.agg [.i r.Code, .i r.Index]) := by
 unfold envelope_Validate at hr
 refine rf (fn := Tryz.f35) ⟨Tryz.func35, rfl, by kernel_rfl⟩ rfl (fun _ => rfl) fun g0 hg => ?_
 refine rn tk 8 rfl ?_
 refine jb hr (fun j1 => [(1, .ptr 1 0), (2, .ptr 2 0), (3, .bo j1)]) (fun j1 => [(2, .cells [.i 0, .i 0]), (1, .cells [.s a0.From, .l TRecipient.pc a0.To, .s a0.Id])]) (fun j1 hr => ?_) (fun j1 hr => ?_)
 ·
  refine rn tk 5 rfl ?_
  refine bs 7 hr rfl (fun c2 hr => ?_) (fun c2 hr => ?_)
  ·
   refine rn tk 2 rfl ?_
   obtain ⟨v3, h4, hr⟩ := bind_some hr
   refine ug rfl rfl rfl ?_
   refine cl (envelope_Address_run _ _ h4) rfl rfl ?_
   refine rn tk 4 rfl ?_
   cases hr
   exact jn _ rfl rfl rfl
  ·
   refine rn tk 7 rfl ?_
   cases hr
   exact jn _ rfl rfl rfl
 ·
  refine ac 3 hr rfl (fun c5 hr => ?_) (fun c5 hr => ?_)
  ·
   refine rn tk 2 rfl ?_
   obtain ⟨v6, h7, hr⟩ := bind_some hr
   refine cl (basic_Fault_run _ _ _ h7) rfl rfl ?_
   refine rn tk 6 rfl ?_
   cases hr
   exact kr tk (.inr rfl) rfl rfl
  ·
   refine jb hr (fun j8 => [(1, .ptr 1 0), (2, .ptr 2 0), (14, .bo j8)]) (fun j8 => [(2, .cells [.i 0, .i 0]), (1, .cells [.s a0.From, .l TRecipient.pc a0.To, .s a0.Id])]) (fun j8 hr => ?_) (fun j8 hr => ?_)
   ·
    refine rn tk 3 rfl ?_
    refine wn tk rfl rfl rfl ?_
    refine rn tk 2 rfl ?_
    refine bs 19 hr rfl (fun c9 hr => ?_) (fun c9 hr => ?_)
    ·
     refine rn tk 7 rfl ?_
     cases hr
     exact jn _ rfl rfl rfl
    ·
     refine rn tk 2 rfl ?_
     refine ug rfl rfl rfl ?_
     refine wn tk rfl rfl rfl ?_
     refine rn tk 4 rfl ?_
     cases hr
     exact jn _ rfl rfl rfl
   ·
    refine ac 14 hr rfl (fun c10 hr => ?_) (fun c10 hr => ?_)
    ·
     refine rn tk 2 rfl ?_
     obtain ⟨v11, h12, hr⟩ := bind_some hr
     refine cl (basic_Fault_run _ _ _ h12) rfl rfl ?_
     refine rn tk 6 rfl ?_
     cases hr
     exact kr tk (.inr rfl) rfl rfl
    ·
     refine jb hr (fun j13 => [(1, .ptr 1 0), (2, .ptr 2 0), (26, .bo j13)]) (fun j13 => [(2, .cells [.i 0, .i 0]), (1, .cells [.s a0.From, .l TRecipient.pc a0.To, .s a0.Id])]) (fun j13 hr => ?_) (fun j13 hr => ?_)
     ·
      refine rn tk 5 rfl ?_
      refine bs 30 hr rfl (fun c14 hr => ?_) (fun c14 hr => ?_)
      ·
       refine rn tk 2 rfl ?_
       obtain ⟨v15, h16, hr⟩ := bind_some hr
       refine ug rfl rfl rfl ?_
       refine cl (basic_Name_run _ _ h16) rfl rfl ?_
       refine rn tk 4 rfl ?_
       cases hr
       exact jn _ rfl rfl rfl
      ·
       refine rn tk 7 rfl ?_
       cases hr
       exact jn _ rfl rfl rfl
     ·
      refine ac 26 hr rfl (fun c17 hr => ?_) (fun c17 hr => ?_)
      ·
       refine rn tk 2 rfl ?_
       obtain ⟨v18, h19, hr⟩ := bind_some hr
       refine cl (basic_Fault_run _ _ _ h19) rfl rfl ?_
       refine rn tk 6 rfl ?_
       cases hr
       exact kr tk (.inr rfl) rfl rfl
      ·
       refine rn tk 7 rfl ?_
       obtain ⟨v20, h21, hr⟩ := bind_some hr
       refine cl (envelope_Recipients_run _ _ h21) rfl rfl ?_
       refine rn tk 4 rfl ?_
       cases hr
       exact kr tk (.inr rfl) rfl rfl
theorem fold_name_run (a0 : Str) (r : Bool) (hr : fold_name a0 = some r) : Run Tryz.prog 86 [.s a0] (.bo r) := by
 unfold fold_name at hr
 refine rf (fn := Tryz.f86) ⟨Tryz.func86, rfl, by kernel_rfl⟩ rfl (fun _ => rfl) fun g0 hg => ?_
 refine rn tk 5 rfl ?_
 refine jb hr (fun j1 => [(2, .bo j1)]) (fun j1 => []) (fun j1 hr => ?_) (fun j1 hr => ?_)
 ·
  refine rn tk 4 rfl ?_
  refine bs 5 hr rfl (fun c2 hr => ?_) (fun c2 hr => ?_)
  ·
   refine rn tk 5 rfl ?_
   refine bs 10 hr rfl (fun c3 hr => ?_) (fun c3 hr => ?_)
   ·
    refine rn tk 1 rfl ?_
    refine ug rfl rfl rfl ?_
    refine ct hr (fun j4 => [(10, .bo true), (12, .bo j4)]) (fun j4 => []) (fun j4 hr jump4 => ?_) (fun j4 hr => ?_)
    ·
     refine il (fn := Tryz.f51) (args := [.s a0, .fn (.func 118) [] []]) 400000 499999 [(10, .bo true)] rfl ⟨Tryz.func51, rfl, by kernel_rfl⟩ rfl rfl rfl fun T4 ds4 => ?_
     refine rn tk 14 rfl ?_
     refine al2 hr (fun s5 => [(0, .s a0), (1, .fn (.func 118) [] []), (7, .i ((a0.length : Int))), (8, .i s5)]) (fun s5 => [(499999, .sus g0.w.heap.size ds4), (400010, .hold (.bo true) (T4.getD 10 undef))]) (.exit 0) (fun b6 => []) (fun b6 => [(499999, .sus g0.w.heap.size ds4), (400010, .hold (.bo true) (T4.getD 10 undef))]) .ret (fun b7 => [(4, .bo false)]) (fun b7 => [(499999, .sus g0.w.heap.size ds4), (400010, .hold (.bo true) (T4.getD 10 undef))]) rfl rfl (fun s5 x9 hr => ?_) (fun b6 hr => ?_) (fun b7 hr => ?_)
     ·
      unfold fold_name_l1 at hr
      refine rn tk 6 rfl ?_
      refine ac 9 hr rfl (fun c10 hr => ?_) (fun c10 hr => ?_)
      ·
       refine rn tk 15 rfl ?_
       obtain ⟨v11, h12, hr⟩ := bind_some hr
       refine ws tk h12 rfl rfl rfl rfl ?_
       refine il (fn := Tryz.f118) (args := [.u8 v11]) 600000 699999 [(0, .s a0), (1, .fn (.func 118) [] []), (7, .i ((a0.length : Int))), (8, .i s5)] rfl ⟨Tryz.func118, rfl, by kernel_rfl⟩ rfl rfl rfl fun T6 ds6 => ?_
       refine rn tk 5 rfl ?_
       refine jb hr (fun j13 => [(2, .bo j13)]) (fun j13 => [(699999, .sus g0.w.heap.size ds6), (600000, .hold (.s a0) (T6.getD 0 undef)), (600001, .hold (.fn (.func 118) [] []) (T6.getD 1 undef)), (600007, .hold (.i ((a0.length : Int))) (T6.getD 7 undef)), (600008, .hold (.i s5) (T6.getD 8 undef)), (499999, .sus g0.w.heap.size ds4), (400010, .hold (.bo true) (T4.getD 10 undef))]) (fun j13 hr => ?_) (fun j13 hr => ?_)
       ·
        refine rn tk 4 rfl ?_
        refine bs 5 hr rfl (fun c14 hr => ?_) (fun c14 hr => ?_)
        ·
         refine rn tk 4 rfl ?_
         refine bs 9 hr rfl (fun c15 hr => ?_) (fun c15 hr => ?_)
         ·
          refine rn tk 5 rfl ?_
          cases hr
          exact jn _ rfl rfl rfl
         ·
          refine rn tk 5 rfl ?_
          cases hr
          exact jn _ rfl rfl rfl
        ·
         refine rn tk 9 rfl ?_
         cases hr
         exact jn _ rfl rfl rfl
       ·
        refine rn tk 1 rfl ?_
        refine ie tk [.bo j13] [(0, .s a0), (1, .fn (.func 118) [] []), (7, .i ((a0.length : Int))), (8, .i s5)] [(499999, .sus g0.w.heap.size ds4), (400010, .hold (.bo true) (T4.getD 10 undef))] (.inr rfl) rfl rfl rfl rfl (hO ?_)
        refine rn tk 3 rfl ?_
        refine ac 16 hr rfl (fun c16 hr => ?_) (fun c16 hr => ?_)
        ·
         refine rn tk 8 rfl ?_
         cases hr
         exact ato rfl rfl rfl rfl
        ·
         refine rn tk 7 rfl ?_
         cases hr
         exact atc rfl rfl
      ·
       refine rn tk 2 rfl ?_
       cases hr
       exact ato rfl rfl rfl rfl
     ·
      refine rn tk 8 rfl ?_
      refine ie tk [.bo true] [(10, .bo true)] [] (.inr rfl) rfl rfl rfl rfl ?_
      cases hr
      exact jump4 _ _ rfl rfl
     ·
      refine rn tk 2 rfl ?_
      refine ie tk [.bo false] [(10, .bo true)] [] (.inr rfl) rfl rfl rfl rfl ?_
      cases hr
      exact jump4 _ _ rfl rfl
    ·
     refine rn tk 3 rfl ?_
     cases hr
     exact jn _ rfl rfl rfl
   ·
    refine rn tk 5 rfl ?_
    cases hr
    exact jn _ rfl rfl rfl
  ·
   refine rn tk 10 rfl ?_
   cases hr
   exact jn _ rfl rfl rfl
 ·
  refine rn tk 1 rfl ?_
  cases hr
  exact kr tk (.inr rfl) rfl rfl
theorem basic_Blank_run (a0 : UInt8) (r : Bool) (hr : basic_Blank a0 = some r) : Run Tryz.prog 59 [.u8 a0] (.bo r) := by
 unfold basic_Blank at hr
 refine rf (fn := Tryz.f59) ⟨Tryz.func59, rfl, by kernel_rfl⟩ rfl (fun _ => rfl) fun g0 hg => ?_
 refine rn tk 5 rfl ?_
 refine jb hr (fun j1 => [(2, .bo j1)]) (fun j1 => []) (fun j1 hr => ?_) (fun j1 hr => ?_)
 ·
  refine rn tk 4 rfl ?_
  refine bs 5 hr rfl (fun c2 hr => ?_) (fun c2 hr => ?_)
  ·
   refine rn tk 5 rfl ?_
   cases hr
   exact jn _ rfl rfl rfl
  ·
   refine rn tk 5 rfl ?_
   cases hr
   exact jn _ rfl rfl rfl
 ·
  refine rn tk 1 rfl ?_
  cases hr
  exact kr tk (.inr rfl) rfl rfl
theorem fold_point_run (a0 : Str) (a1 : Int) (r : Int) (hr : fold_point a0 a1 = some r) : Run Tryz.prog 88 [.s a0, .i a1] (.i r) := by
 unfold fold_point at hr
 refine rf (fn := Tryz.f88) ⟨Tryz.func88, rfl, by kernel_rfl⟩ rfl (fun _ => rfl) fun g0 hg => ?_
 refine rn tk 14 rfl ?_
 refine wq (ev_max rfl rfl) rfl rfl rfl ?_
 refine rn tk 4 rfl ?_
 refine al1 hr (fun s1 => [(0, .s a0), (5, .i s1.1), (6, .i s1.2)]) (fun s1 => []) (.exit 0) (fun b2 => [(5, .i b2)]) (fun b2 => []) rfl rfl (fun s1 x3 hr => ?_) (fun b2 hr => ?_)
 ·
  unfold fold_point_l1 at hr
  refine rn tk 9 rfl ?_
  refine ac 12 hr rfl (fun c4 hr => ?_) (fun c4 hr => ?_)
  ·
   refine rn tk 2 rfl ?_
   refine jk (fun j5 => [(0, .s a0), (5, .i j5), (6, .i s1.2)]) (fun j5 => []) (fun j5 => fold_point_k2 s1 j5 = some x3) ?_ ?_
   ·
    refine rn tk 2 rfl ?_
    refine jb hr (fun j6 => [(0, .s a0), (5, .i s1.1), (6, .i s1.2), (26, .bo j6)]) (fun j6 => []) (fun j6 hr => ?_) (fun j6 hr => ?_)
    ·
     refine rn tk 3 rfl ?_
     obtain ⟨v7, h8, hr⟩ := bind_some hr
     refine ws tk h8 rfl rfl rfl rfl ?_
     obtain ⟨v9, h10, hr⟩ := bind_some hr
     refine cl (basic_Blank_run _ _ h10) rfl rfl ?_
     refine rn tk 2 rfl ?_
     refine bs 20 hr rfl (fun c11 hr => ?_) (fun c11 hr => ?_)
     ·
      refine rn tk 7 rfl ?_
      cases hr
      exact jn _ rfl rfl rfl
     ·
      refine rn tk 3 rfl ?_
      obtain ⟨v12, h13, hr⟩ := bind_some hr
      refine ug rfl rfl rfl ?_
      refine ws tk h13 rfl rfl rfl rfl ?_
      obtain ⟨v14, h15, hr⟩ := bind_some hr
      refine ug rfl rfl rfl ?_
      refine cl (basic_Blank_run _ _ h15) rfl rfl ?_
      refine rn tk 2 rfl ?_
      cases hr
      exact jn _ rfl rfl rfl
    ·
     refine ac 26 hr rfl (fun c16 hr => ?_) (fun c16 hr => ?_)
     ·
      refine rn tk 3 rfl ?_
      exact jn s1.1 hr rfl rfl
     ·
      refine rn tk 3 rfl ?_
      refine jb hr (fun j17 => [(0, .s a0), (5, .i s1.1), (6, .i s1.2), (32, .bo j17)]) (fun j17 => []) (fun j17 hr => ?_) (fun j17 hr => ?_)
      ·
       refine rn tk 4 rfl ?_
       refine bs 29 hr rfl (fun c18 hr => ?_) (fun c18 hr => ?_)
       ·
        refine rn tk 4 rfl ?_
        cases hr
        exact jn _ rfl rfl rfl
       ·
        refine rn tk 4 rfl ?_
        cases hr
        exact jn _ rfl rfl rfl
      ·
       refine ac 32 hr rfl (fun c19 hr => ?_) (fun c19 hr => ?_)
       ·
        refine rn tk 4 rfl ?_
        cases hr
        exact ato rfl rfl rfl rfl
       ·
        refine rn tk 7 rfl ?_
        exact jn s1.2 hr rfl rfl
   ·
    intro j5 hr
    unfold fold_point_k2 at hr
    refine rn tk 5 rfl ?_
    cases hr
    exact atc rfl rfl
  ·
   refine rn tk 2 rfl ?_
   cases hr
   exact ato rfl rfl rfl rfl
 ·
  refine rn tk 9 rfl ?_
  cases hr
  exact kr tk (.inr rfl) rfl rfl
theorem unicode_utf8_ValidRune_run (a0 : Int) (r : Bool) (hr : unicode_utf8_ValidRune a0 = some r) : Run Tryz.prog 159 [.pv (.b (.int .i32 a0))] (.bo r) := by
 unfold unicode_utf8_ValidRune at hr
 refine rf (fn := Tryz.f159) ⟨Tryz.func159, rfl, by kernel_rfl⟩ rfl (fun _ => rfl) fun g0 hg => ?_
 refine rn tk 7 rfl ?_
 refine jb hr (fun j1 => [(0, .pv (.b (.int .i32 a0))), (3, .bo j1)]) (fun j1 => []) (fun j1 hr => ?_) (fun j1 hr => ?_)
 ·
  refine rn tk 4 rfl ?_
  refine bs 6 hr rfl (fun c2 hr => ?_) (fun c2 hr => ?_)
  ·
   refine rn tk 5 rfl ?_
   cases hr
   exact jn _ rfl rfl rfl
  ·
   refine rn tk 5 rfl ?_
   cases hr
   exact jn _ rfl rfl rfl
 ·
  refine ac 3 hr rfl (fun c3 hr => ?_) (fun c3 hr => ?_)
  ·
   refine rn tk 8 rfl ?_
   cases hr
   exact kr tk (.inr rfl) rfl rfl
  ·
   refine jb hr (fun j4 => [(10, .bo j4)]) (fun j4 => []) (fun j4 hr => ?_) (fun j4 hr => ?_)
   ·
    refine rn tk 4 rfl ?_
    refine bs 13 hr rfl (fun c5 hr => ?_) (fun c5 hr => ?_)
    ·
     refine rn tk 5 rfl ?_
     cases hr
     exact jn _ rfl rfl rfl
    ·
     refine rn tk 5 rfl ?_
     cases hr
     exact jn _ rfl rfl rfl
   ·
    refine ac 10 hr rfl (fun c6 hr => ?_) (fun c6 hr => ?_)
    ·
     refine rn tk 8 rfl ?_
     cases hr
     exact kr tk (.inr rfl) rfl rfl
    ·
     refine rn tk 9 rfl ?_
     cases hr
     exact kr tk (.inr rfl) rfl rfl
theorem strings_IndexRune_run (a0 : Str) (a1 : Int) (r : Int) (hr : strings_IndexRune a0 a1 = some r) : Run Tryz.prog 144 [.s a0, .pv (.b (.int .i32 a1))] (.i r) := by
 unfold strings_IndexRune at hr
 refine rf (fn := Tryz.f144) ⟨Tryz.func144, rfl, by kernel_rfl⟩ rfl (fun _ => rfl) fun g0 hg => ?_
 refine rn tk 6 rfl ?_
 refine jb hr (fun j1 => [(0, .s a0), (1, .pv (.b (.int .i32 a1))), (160, .bo j1)]) (fun j1 => []) (fun j1 hr => ?_) (fun j1 hr => ?_)
 ·
  refine rn tk 4 rfl ?_
  refine bs 163 hr rfl (fun c2 hr => ?_) (fun c2 hr => ?_)
  ·
   refine rn tk 5 rfl ?_
   cases hr
   exact jn _ rfl rfl rfl
  ·
   refine rn tk 5 rfl ?_
   cases hr
   exact jn _ rfl rfl rfl
 ·
  refine ac 160 hr rfl (fun c3 hr => ?_) (fun c3 hr => ?_)
  ·
   refine rn tk 5 rfl ?_
   obtain ⟨v4, h5, hr⟩ := bind_some hr
   refine cl (strings_IndexByte_run _ _ _ h5) rfl rfl ?_
   refine rn tk 5 rfl ?_
   cases hr
   exact kr tk (.inr rfl) rfl rfl
  ·
   refine rn tk 7 rfl ?_
   refine ac 171 hr rfl (fun c6 hr => ?_) (fun c6 hr => ?_)
   ·
    refine rn tk 4 rfl ?_
    refine wr 1175 tk rfl rfl rfl rfl ?_
    refine rn tk 3 rfl ?_
    refine al2 hr (fun s7 => [(175, .ptr 1175 0)]) (fun s7 => [(1175, .it (strB a0) s7)]) (.exit 9) (fun b8 => []) (fun b8 => []) .ret (fun b9 => [(4, .i b9)]) (fun b9 => []) rfl rfl (fun s7 x11 hr => ?_) (fun b8 hr => ?_) (fun b9 hr => ?_)
    ·
     unfold strings_IndexRune_l1 at hr
     refine rn tk 2 rfl ?_
     refine wnx hr rfl rfl rfl (fun c12 hr => ?_) (fun c12 hr => ?_)
     ·
      refine rn tk 22 rfl ?_
      refine ac 181 hr rfl (fun c13 hr => ?_) (fun c13 hr => ?_)
      ·
       refine rn tk 8 rfl ?_
       cases hr
       exact ato rfl rfl rfl rfl
      ·
       refine rn tk 2 rfl ?_
       cases hr
       exact atc rfl rfl
     ·
      refine rn tk 7 rfl ?_
      cases hr
      exact ato rfl rfl rfl rfl
    ·
     refine rn tk 9 rfl ?_
     cases hr
     exact kr tk (.inr rfl) rfl rfl
    ·
     refine rn tk 3 rfl ?_
     cases hr
     exact kr tk (.inr rfl) rfl rfl
   ·
    refine rn tk 3 rfl ?_
    obtain ⟨v14, h15, hr⟩ := bind_some hr
    refine cl (unicode_utf8_ValidRune_run _ _ h15) rfl rfl ?_
    refine rn tk 4 rfl ?_
    refine ac 183 hr rfl (fun c16 hr => ?_) (fun c16 hr => ?_)
    ·
     refine rn tk 7 rfl ?_
     cases hr
     exact kr tk (.inr rfl) rfl rfl
    ·
     refine rn tk 29 rfl ?_
     refine al2 hr (fun s17 => [(0, .s a0), (7, .s ((runeS a1))), (8, .i ((w64 ((((runeS a1)).length : Int) - 1)))), (9, .i s17)]) (fun s17 => []) (.exit 1) (fun b18 => []) (fun b18 => []) .ret (fun b19 => [(4, .i b19)]) (fun b19 => []) rfl rfl (fun s17 x21 hr => ?_) (fun b18 hr => ?_) (fun b19 hr => ?_)
     ·
      unfold strings_IndexRune_l2 at hr
      refine rn tk 9 rfl ?_
      refine ac 26 hr rfl (fun c22 hr => ?_) (fun c22 hr => ?_)
      ·
       refine rn tk 4 rfl ?_
       refine jk (fun j23 => [(0, .s a0), (7, .s ((runeS a1))), (8, .i j23.1), (9, .i j23.2)]) (fun j23 => []) (fun j23 => strings_IndexRune_k3 a0 a1 j23 = some x21) ?_ ?_
       ·
        refine rn tk 1 rfl ?_
        obtain ⟨v24, h25, hr⟩ := bind_some hr
        obtain ⟨v26, h27, hr⟩ := bind_some hr
        refine dr 6 [(32, .u8 v26), (31, .i ((w64 ((((runeS a1)).length : Int) - 1)))), (30, .s ((runeS a1))), (29, .u8 v24), (28, .i s17), (27, .s a0)] mixed (by kernel_rfl) rfl rfl (pq tk rfl (.plain rfl) (pq tk rfl (.plain rfl) (.run (.plain rfl) (opG_q (ev_sidx rfl rfl ty_string h25)) (pq tk rfl (.plain rfl) (pq tk rfl (.plain rfl) (.run (.plain rfl) (opG_q (ev_sidx rfl rfl ty_string h27)) .nil)))))) rfl ?_
        refine rn tk 3 rfl ?_
        refine ac 33 hr rfl (fun c28 hr => ?_) (fun c28 hr => ?_)
        ·
         refine rn tk 1 rfl ?_
         obtain ⟨v29, h30, hr⟩ := bind_some hr
         obtain ⟨v31, h32, hr⟩ := bind_some hr
         refine dr 7 [(40, .u8 v31), (39, .i ((w64 ((((runeS a1)).length : Int) - 1)))), (38, .s ((runeS a1))), (37, .s v29), (36, .i ((w64 (s17 + 1)))), (35, .i s17), (34, .s a0)] mixed (by kernel_rfl) rfl rfl (pq tk rfl (.plain rfl) (pq tk rfl (.plain rfl) (pq tk rfl (.plain rfl) (.run (.plain rfl) (opG_q (ev_scutL rfl rfl ty_string h30)) (pq tk rfl (.plain rfl) (pq tk rfl (.plain rfl) (.run (.plain rfl) (opG_q (ev_sidx rfl rfl ty_string h32)) .nil))))))) rfl ?_
         obtain ⟨v33, h34, hr⟩ := bind_some hr
         refine cl (strings_IndexByte_run _ _ _ h34) rfl rfl ?_
         refine rn tk 10 rfl ?_
         refine ac 43 hr rfl (fun c35 hr => ?_) (fun c35 hr => ?_)
         ·
          refine rn tk 10 rfl ?_
          cases hr
          exact ato rfl rfl rfl rfl
         ·
          refine rn tk 9 rfl ?_
          exact jn (((w64 ((((runeS a1)).length : Int) - 1)), (w64 (s17 + (w64 (v33 + 1)))))) hr rfl rfl
        ·
         refine rn tk 1 rfl ?_
         exact jn (((w64 ((((runeS a1)).length : Int) - 1)), s17)) hr rfl rfl
       ·
        intro j23 hr
        unfold strings_IndexRune_k3 at hr
        refine rn tk 7 rfl ?_
        refine al1 hr (fun s36 => [(0, .s a0), (7, .s ((runeS a1))), (8, .i j23.1), (9, .i j23.2), (12, .i s36)]) (fun s36 => []) (.exit 3) (fun b37 => [(8, .i j23.1), (9, .i j23.2)]) (fun b37 => []) rfl rfl (fun s36 x38 hr => ?_) (fun b37 hr => ?_)
        ·
         unfold strings_IndexRune_l4 at hr
         refine rn tk 9 rfl ?_
         refine ac 51 hr rfl (fun c39 hr => ?_) (fun c39 hr => ?_)
         ·
          refine rn tk 5 rfl ?_
          obtain ⟨v40, h41, hr⟩ := bind_some hr
          obtain ⟨v42, h43, hr⟩ := bind_some hr
          refine dr 10 [(63, .u8 v42), (62, .i ((w64 (j23.1 - s36)))), (61, .i s36), (60, .i j23.1), (59, .s ((runeS a1))), (58, .u8 v40), (57, .i ((w64 (j23.2 - s36)))), (56, .i s36), (55, .i j23.2), (54, .s a0)] mixed (by kernel_rfl) rfl rfl (pq tk rfl (.plain rfl) (pq tk rfl (.plain rfl) (pq tk rfl (.plain rfl) (pq tk rfl (.plain rfl) (.run (.plain rfl) (opG_q (ev_sidx rfl rfl ty_string h41)) (pq tk rfl (.plain rfl) (pq tk rfl (.plain rfl) (pq tk rfl (.plain rfl) (pq tk rfl (.plain rfl) (.run (.plain rfl) (opG_q (ev_sidx rfl rfl ty_string h43)) .nil)))))))))) rfl ?_
          refine rn tk 3 rfl ?_
          refine ac 64 hr rfl (fun c44 hr => ?_) (fun c44 hr => ?_)
          ·
           cases hr
          ·
           refine rn tk 8 rfl ?_
           cases hr
           exact atc rfl rfl
         ·
          refine rn tk 2 rfl ?_
          cases hr
          exact ato rfl rfl rfl rfl
        ·
         refine rn tk 15 rfl ?_
         cases hr
         exact ato rfl rfl rfl rfl
      ·
       refine rn tk 2 rfl ?_
       cases hr
       exact ato rfl rfl rfl rfl
     ·
      refine rn tk 12 rfl ?_
      cases hr
      exact kr tk (.inr rfl) rfl rfl
     ·
      refine rn tk 4 rfl ?_
      cases hr
      exact kr tk (.inr rfl) rfl rfl
theorem strings_shouldUseASCIISet_run (a0 : Int) (r : Bool) (hr : strings_shouldUseASCIISet a0 = some r) : Run Tryz.prog 168 [.i a0] (.bo r) := by
 unfold strings_shouldUseASCIISet at hr
 refine rf (fn := Tryz.f168) ⟨Tryz.func168, rfl, by kernel_rfl⟩ rfl (fun _ => rfl) fun g0 hg => ?_
 refine rn tk 13 rfl ?_
 cases hr
 exact kr tk (.inr rfl) rfl rfl
theorem strings_IndexAnyP_run (a0 : Str) (a1 : Str) (r : Int) (hr : strings_IndexAnyP a0 a1 = some r) : Run Tryz.prog 158 [.s a0, .s a1] (.i r) := by
 unfold strings_IndexAnyP at hr
 refine rf (fn := Tryz.f158) ⟨Tryz.func158, rfl, by kernel_rfl⟩ rfl (fun _ => rfl) fun g0 hg => ?_
 refine rn tk 12 rfl ?_
 refine ac 12 hr rfl (fun c1 hr => ?_) (fun c1 hr => ?_)
 ·
  refine rn tk 7 rfl ?_
  cases hr
  exact kr tk (.inr rfl) rfl rfl
 ·
  refine rn tk 10 rfl ?_
  refine ac 15 hr rfl (fun c2 hr => ?_) (fun c2 hr => ?_)
  ·
   refine rn tk 3 rfl ?_
   obtain ⟨v3, h4, hr⟩ := bind_some hr
   refine ws tk h4 rfl rfl rfl rfl ?_
   refine wur tk rfl rfl rfl ?_
   refine rn tk 3 rfl ?_
   refine jb hr (fun j5 => [(0, .s a0), (5, .pv (.b (.int .i32 j5)))]) (fun j5 => []) (fun j5 hr => ?_) (fun j5 hr => ?_)
   ·
    refine rn tk 6 rfl ?_
    refine ac 20 hr rfl (fun c6 hr => ?_) (fun c6 hr => ?_)
    ·
     refine rn tk 3 rfl ?_
     cases hr
     exact jn _ rfl rfl rfl
    ·
     refine rn tk 1 rfl ?_
     cases hr
     exact jn _ rfl rfl rfl
   ·
    refine rn tk 4 rfl ?_
    obtain ⟨v7, h8, hr⟩ := bind_some hr
    refine cl (strings_IndexRune_run _ _ _ h8) rfl rfl ?_
    refine rn tk 5 rfl ?_
    cases hr
    exact kr tk (.inr rfl) rfl rfl
  ·
   refine rn tk 7 rfl ?_
   obtain ⟨v9, h10, hr⟩ := bind_some hr
   refine cl (strings_shouldUseASCIISet_run _ _ h10) rfl rfl ?_
   refine rn tk 2 rfl ?_
   refine ac 26 hr rfl (fun c11 hr => ?_) (fun c11 hr => ?_)
   ·
    refine rn tk 3 rfl ?_
    cases hr
   ·
    refine rn tk 6 rfl ?_
    refine wr 1045 tk rfl rfl rfl rfl ?_
    refine rn tk 3 rfl ?_
    refine al2 hr (fun s12 => [(1, .s a1), (45, .ptr 1045 0)]) (fun s12 => [(1045, .it (strB a0) s12)]) (.exit 2) (fun b13 => []) (fun b13 => []) .ret (fun b14 => [(4, .i b14)]) (fun b14 => []) rfl rfl (fun s12 x16 hr => ?_) (fun b13 hr => ?_) (fun b14 hr => ?_)
    ·
     unfold strings_IndexAnyP_l1 at hr
     refine rn tk 2 rfl ?_
     refine wnx hr rfl rfl rfl (fun c17 hr => ?_) (fun c17 hr => ?_)
     ·
      refine rn tk 20 rfl ?_
      obtain ⟨v18, h19, hr⟩ := bind_some hr
      refine cl (strings_IndexRune_run _ _ _ h19) rfl rfl ?_
      refine rn tk 3 rfl ?_
      refine ac 53 hr rfl (fun c20 hr => ?_) (fun c20 hr => ?_)
      ·
       refine rn tk 8 rfl ?_
       cases hr
       exact ato rfl rfl rfl rfl
      ·
       refine rn tk 2 rfl ?_
       cases hr
       exact atc rfl rfl
     ·
      refine rn tk 7 rfl ?_
      cases hr
      exact ato rfl rfl rfl rfl
    ·
     refine rn tk 8 rfl ?_
     cases hr
     exact kr tk (.inr rfl) rfl rfl
    ·
     refine rn tk 2 rfl ?_
     cases hr
     exact kr tk (.inr rfl) rfl rfl
end Go.Proofs.YtpclhpncmlbccaaGreatDoor

/- Library functions compute what their Lean functions do. -/
namespace Go.Proofs.YtpclhpncmlbccaaGreatDoor
open Go.RowKit
set_option maxRecDepth 100000
theorem old_allocL (g : G) (vs : Array Value) (t : TypeId) : Old (fun _ => False) g ⟨g.w.alloc (.cells vs t), fun k => if k = g.w.heap.size then 0 else g.u k, g.loc⟩ := by
  have h := old_alloc g vs t 0 0 (g.loc 0)
  have e : (g.alloc vs t 0 0 (g.loc 0)) = ⟨g.w.alloc (.cells vs t), fun k => if k = g.w.heap.size then 0 else g.u k, g.loc⟩ := by
    unfold G.alloc
    congr 1
    funext k
    split
    · rename_i hk; rw [hk]
    · rfl
  rw [← e]; exact h
theorem wf_allocL {g : G} (h : Wf g) (vs : Array Value) (t : TypeId) : Wf ⟨g.w.alloc (.cells vs t), fun k => if k = g.w.heap.size then 0 else g.u k, g.loc⟩ := by
  intro k hk
  have hk : g.w.heap.size + 1 ≤ k := by simpa using hk
  show (if k = g.w.heap.size then 0 else g.u k) = 0
  rw [if_neg (by omega)]
  exact h k (by omega)
theorem ascii_data {t : Str} (h : asciiL t = true) : ∀ (j : Nat) b, (strB t).data.toList[j]? = some b → b.toNat < 128 := fun j b hb => asciiL_mem h (List.mem_of_getElem? hb)
theorem strings_IndexAny_run (s t : Str) (r : Int) (hr : strings_IndexAny s t = some r) : Run Tryz.prog 158 [.s s, .s t] (.i r) := by
  unfold strings_IndexAny at hr
  split at hr
  case isFalse => cases hr
  rename_i hc
  obtain ⟨h1, h2, h3, h4⟩ := hc
  by_cases h8 : s.length ≤ 8
  · exact strings_IndexAnyP_run s t r (by rw [IndexAnyP_eq s t h8 h3 h2 h4]; exact hr)
  · cases hr
    refine ⟨⟨_, _, ⟨Tryz.func158, rfl, by kernel_rfl⟩⟩, fun g vs hw hg ha => ?_⟩
    obtain ⟨hsz, hrel⟩ := ha
    obtain ⟨l⟩ := vs
    match l, hsz with
    | [x, y], _ =>
      obtain rfl := str_arg (hrel 0 _ rfl)
      obtain rfl := str_arg (hrel 1 _ rfl)
      have h116 : (Tryz.prog.info? 155).map (fun i => (i.zero, i.size)) = some (some (.agg (Array.replicate 256 (.bool false))), 256) := by kernel_rfl
      have hz := (zero_of_info h116).1
      refine callsIn_wide.2 ((Tryz.strings_IndexAny_long hz (strB s) (strB t) g.w (by rw [strB_size]; exact h3) (by rw [strB_size]; omega) (by rw [strB_size]; exact h1) (by rw [strB_size]; exact h2) (ascii_data h4)).mono ?_)
      rintro e w' ⟨rfl, rfl⟩
      have o1 := old_allocL g (Lib.setCells t) 155
      have w1 := wf_allocL hw (Lib.setCells t) 155
      have o2 := old_allocL ⟨g.w.alloc (.cells (Lib.setCells t) 155), fun k => if k = g.w.heap.size then 0 else g.u k, g.loc⟩ (Lib.setCells t) 155
      have w2 := wf_allocL w1 (Lib.setCells t) 155
      have o3 : Old (fun _ => False) g _ := o1.trans (o2.mono (S' := fun b => False ∨ g.w.heap.size ≤ b) (by intro b _ hf; exact hf.elim))
      exact ⟨⟨_, _, _⟩, _, rfl, (by rfl), o3, w2, (by rfl), .pv (.b rfl)⟩
end Go.Proofs.YtpclhpncmlbccaaGreatDoor

namespace Go.Proofs.YtpclhpncmlbccaaGreatDoor
open Go.RowKit
set_option maxRecDepth 100000
set_option maxHeartbeats 40000000
set_option linter.unusedVariables false
theorem strings_ContainsAny_run (a0 : Str) (a1 : Str) (r : Bool) (hr : strings_ContainsAny a0 a1 = some r) : Run Tryz.prog 141 [.s a0, .s a1] (.bo r) := by
 unfold strings_ContainsAny at hr
 refine rf (fn := Tryz.f141) ⟨Tryz.func141, rfl, by kernel_rfl⟩ rfl (fun _ => rfl) fun g0 hg => ?_
 refine rn tk 9 rfl ?_
 obtain ⟨v1, h2, hr⟩ := bind_some hr
 refine cl (strings_IndexAny_run _ _ _ h2) rfl rfl ?_
 refine rn tk 5 rfl ?_
 cases hr
 exact kr tk (.inr rfl) rfl rfl
theorem fold_ends_run (a0 : Str) (r : Bool) (hr : fold_ends a0 = some r) : Run Tryz.prog 119 [.s a0] (.bo r) := by
 unfold fold_ends at hr
 refine rf (fn := Tryz.f119) ⟨Tryz.func119, rfl, by kernel_rfl⟩ rfl (fun _ => rfl) fun g0 hg => ?_
 refine rn tk 8 rfl ?_
 obtain ⟨v1, h2, hr⟩ := bind_some hr
 refine cl (strings_ContainsAny_run _ _ _ h2) rfl rfl ?_
 refine rn tk 4 rfl ?_
 cases hr
 exact kr tk (.inr rfl) rfl rfl
theorem fold_value_run (a0 : Str) (r : Bool) (hr : fold_value a0 = some r) : Run Tryz.prog 87 [.s a0] (.bo r) := by
 unfold fold_value at hr
 refine rf (fn := Tryz.f87) ⟨Tryz.func87, rfl, by kernel_rfl⟩ rfl (fun _ => rfl) fun g0 hg => ?_
 refine rn tk 5 rfl ?_
 refine jb hr (fun j1 => [(2, .bo j1)]) (fun j1 => []) (fun j1 hr => ?_) (fun j1 hr => ?_)
 ·
  refine rn tk 2 rfl ?_
  obtain ⟨v2, h3, hr⟩ := bind_some hr
  refine cl (fold_ends_run _ _ h3) rfl rfl ?_
  refine rn tk 2 rfl ?_
  refine bs 6 hr rfl (fun c4 hr => ?_) (fun c4 hr => ?_)
  ·
   refine rn tk 3 rfl ?_
   refine bs 9 hr rfl (fun c5 hr => ?_) (fun c5 hr => ?_)
   ·
    refine rn tk 17 rfl ?_
    cases hr
    exact jn _ rfl rfl rfl
   ·
    refine rn tk 1 rfl ?_
    obtain ⟨v6, h7, hr⟩ := bind_some hr
    refine ug rfl rfl rfl ?_
    refine ws tk h7 rfl rfl rfl rfl ?_
    obtain ⟨v8, h9, hr⟩ := bind_some hr
    refine ug rfl rfl rfl ?_
    refine cl (basic_Blank_run _ _ h9) rfl rfl ?_
    refine rn tk 2 rfl ?_
    refine bs 14 hr rfl (fun c10 hr => ?_) (fun c10 hr => ?_)
    ·
     refine rn tk 4 rfl ?_
     obtain ⟨v11, h12, hr⟩ := bind_some hr
     refine ug rfl rfl rfl ?_
     refine ws tk h12 rfl rfl rfl rfl ?_
     obtain ⟨v13, h14, hr⟩ := bind_some hr
     refine ug rfl rfl rfl ?_
     refine cl (basic_Blank_run _ _ h14) rfl rfl ?_
     refine rn tk 6 rfl ?_
     cases hr
     exact jn _ rfl rfl rfl
    ·
     refine rn tk 12 rfl ?_
     cases hr
     exact jn _ rfl rfl rfl
  ·
   refine rn tk 20 rfl ?_
   cases hr
   exact jn _ rfl rfl rfl
 ·
  refine rn tk 1 rfl ?_
  cases hr
  exact kr tk (.inr rfl) rfl rfl
theorem fold_Fold_run (a0 : Str) (a1 : Str) (r : (List Str) × TFault) (hr : fold_Fold a0 a1 = some r) : Run Tryz.prog 57 [.s a0, .s a1] (.tup [.l cS r.1, .agg [.i r.2.Code, .i r.2.Index]]) := by
 unfold fold_Fold at hr
 refine rf (fn := Tryz.f57) ⟨Tryz.func57, rfl, by kernel_rfl⟩ rfl (fun _ => rfl) fun g0 hg => ?_
 refine rn tk 11 rfl ?_
 obtain ⟨v1, h2, hr⟩ := bind_some hr
 refine cl (fold_name_run _ _ h2) rfl rfl ?_
 refine rn tk 4 rfl ?_
 refine ac 12 hr rfl (fun c3 hr => ?_) (fun c3 hr => ?_)
 ·
  refine rn tk 2 rfl ?_
  obtain ⟨v4, h5, hr⟩ := bind_some hr
  refine cl (basic_Fault_run _ _ _ h5) rfl rfl ?_
  refine rn tk 7 rfl ?_
  cases hr
  exact kr tk (.inr rfl) rfl rfl
 ·
  refine rn tk 8 rfl ?_
  refine ac 17 hr rfl (fun c6 hr => ?_) (fun c6 hr => ?_)
  ·
   refine rn tk 2 rfl ?_
   obtain ⟨v7, h8, hr⟩ := bind_some hr
   refine cl (basic_Fault_run _ _ _ h8) rfl rfl ?_
   refine rn tk 7 rfl ?_
   cases hr
   exact kr tk (.inr rfl) rfl rfl
  ·
   refine rn tk 3 rfl ?_
   obtain ⟨v9, h10, hr⟩ := bind_some hr
   refine cl (fold_value_run _ _ h10) rfl rfl ?_
   refine rn tk 4 rfl ?_
   refine ac 22 hr rfl (fun c11 hr => ?_) (fun c11 hr => ?_)
   ·
    refine rn tk 2 rfl ?_
    obtain ⟨v12, h13, hr⟩ := bind_some hr
    refine cl (basic_Fault_run _ _ _ h13) rfl rfl ?_
    refine rn tk 7 rfl ?_
    cases hr
    exact kr tk (.inr rfl) rfl rfl
   ·
    refine rn tk 6 rfl ?_
    obtain ⟨v14, h15, hr⟩ := bind_some hr
    refine wc h15 rfl rfl rfl ?_
    refine rn tk 1 rfl ?_
    obtain ⟨v16, h17, hr⟩ := bind_some hr
    refine wc h17 rfl rfl rfl ?_
    refine rn tk 10 rfl ?_
    refine awpl_adopt 1008 (d := 8) 9 1 rfl rfl rfl (hO ?_)
    refine rn tk 4 rfl ?_
    refine al1 hr (fun s18 => [(5, .ptr 5 0), (6, .s s18.1), (7, .i s18.2.1), (8, .hs 1008 0)]) (fun s18 => [(1008, .row 9 false 1 (List.map cS s18.2.2)), (5, .cells [.i 0, .i 0])]) (.exit 1) (fun b19 => [(5, .ptr 5 0), (6, .s b19.1), (8, .hs 1008 0)]) (fun b19 => [(1008, .row 9 false 1 (List.map cS b19.2)), (5, .cells [.i 0, .i 0])]) rfl rfl (fun s18 x20 hr => ?_) (fun b19 hr => ?_)
    ·
     unfold fold_Fold_l1 at hr
     refine rn tk 8 rfl ?_
     refine ac 36 hr rfl (fun c21 hr => ?_) (fun c21 hr => ?_)
     ·
      refine rn tk 7 rfl ?_
      obtain ⟨v22, h23, hr⟩ := bind_some hr
      refine cl (fold_point_run _ _ _ h23) rfl rfl ?_
      refine rn tk 10 rfl ?_
      refine ac 41 hr rfl (fun c24 hr => ?_) (fun c24 hr => ?_)
      ·
       refine rn tk 3 rfl ?_
       cases hr
       exact ato rfl rfl rfl rfl
      ·
       refine rn tk 7 rfl ?_
       obtain ⟨v25, h26, hr⟩ := bind_some hr
       refine wscH tk h26 rfl rfl rfl rfl ?_
       refine wz cS ([v25] : List Str) tk rfl rfl (fun _ => rfl) rfl rfl rfl ?_
       obtain ⟨v27, h28, hr⟩ := bind_some hr
       refine wa tk h28 rfl rfl rfl rfl (fun _ => rfl) rfl rfl ?_
       refine rn tk 6 rfl ?_
       obtain ⟨v29, h30, hr⟩ := bind_some hr
       refine wscL tk h30 rfl rfl rfl rfl ?_
       refine rn tk 4 rfl ?_
       cases hr
       exact atc rfl rfl
     ·
      refine rn tk 2 rfl ?_
      cases hr
      exact ato rfl rfl rfl rfl
    ·
     refine rn tk 6 rfl ?_
     refine wz cS ([b19.1] : List Str) tk rfl rfl (fun _ => rfl) rfl rfl rfl ?_
     obtain ⟨v31, h32, hr⟩ := bind_some hr
     refine wa tk h32 rfl rfl rfl rfl (fun _ => rfl) rfl rfl ?_
     refine rn tk 7 rfl ?_
     refine wnh tk rfl rfl rfl rfl ?_
     refine rn tk 4 rfl ?_
     refine awp_pub (d := 55) (F := cS) (l := v31) rfl rfl (hC ?_)
     refine al2 hr (fun s34 => [(5, .ptr 5 0), (8, .hs 1008 0), (55, .l cS v31), (56, .i ((v31.length : Int))), (57, .i s34)]) (fun s34 => [(1008, .row 9 false 1 (List.map cS v31)), (5, .cells [.i 0, .i 0])]) (.exit 3) (fun b35 => [(5, .ptr 5 0), (8, .hs 1008 0)]) (fun b35 => [(1008, .row 9 false 1 (List.map cS v31)), (5, .cells [.i 0, .i 0])]) .ret (fun b36 => [(4, .l cS b36.1), (5, .ptr 5 0)]) (fun b36 => [(5, .cells [.i b36.2.Code, .i b36.2.Index])]) rfl rfl (fun s34 x38 hr => ?_) (fun b35 hr => ?_) (fun b36 hr => ?_)
     ·
      unfold fold_Fold_l2 at hr
      refine rn tk 6 rfl ?_
      refine ac 58 hr rfl (fun c39 hr => ?_) (fun c39 hr => ?_)
      ·
       refine rn tk 7 rfl ?_
       obtain ⟨v40, h41, hr⟩ := bind_some hr
       refine wi tk h41 rfl rfl rfl rfl rfl ?_
       refine rn tk 12 rfl ?_
       refine ac 64 hr rfl (fun c42 hr => ?_) (fun c42 hr => ?_)
       ·
        refine rn tk 3 rfl ?_
        obtain ⟨v43, h44, hr⟩ := bind_some hr
        refine cl (basic_Fault_run _ _ _ h44) rfl rfl ?_
        refine rn tk 7 rfl ?_
        cases hr
        exact ato rfl rfl rfl rfl
       ·
        refine rn tk 7 rfl ?_
        cases hr
        exact atc rfl rfl
      ·
       refine rn tk 2 rfl ?_
       cases hr
       exact ato rfl rfl rfl rfl
     ·
      refine rn tk 5 rfl ?_
      obtain ⟨v45, h46, hr⟩ := bind_some hr
      refine cl (basic_None_run _ h46) rfl rfl ?_
      refine rn tk 4 rfl ?_
      refine awp_pub (d := 4) (F := cS) (l := v31) rfl rfl (hC ?_)
      refine rn tk 1 rfl ?_
      cases hr
      exact kr tk (.inr rfl) rfl rfl
     ·
      refine rn tk 2 rfl ?_
      cases hr
      exact kr tk (.inr rfl) rfl rfl
theorem header_Validate_run (a0 : List TField) (r : TFault) (hr : header_Validate a0 = some r) : Run Tryz.prog 55 [.l TField.pc a0] (.agg [.i r.Code, .i r.Index]) := by
 unfold header_Validate at hr
 refine rf (fn := Tryz.f55) ⟨Tryz.func55, rfl, by kernel_rfl⟩ rfl (fun _ => rfl) fun g0 hg => ?_
 refine rn tk 9 rfl ?_
 refine wn tk rfl rfl rfl ?_
 refine rn tk 3 rfl ?_
 refine ac 9 hr rfl (fun c1 hr => ?_) (fun c1 hr => ?_)
 ·
  refine rn tk 2 rfl ?_
  obtain ⟨v2, h3, hr⟩ := bind_some hr
  refine cl (basic_Fault_run _ _ _ h3) rfl rfl ?_
  refine rn tk 5 rfl ?_
  cases hr
  exact kr tk (.inr rfl) rfl rfl
 ·
  refine rn tk 6 rfl ?_
  refine wn tk rfl rfl rfl ?_
  refine rn tk 4 rfl ?_
  refine al2 hr (fun s4 => [(2, .ptr 2 0), (11, .l TField.pc a0), (12, .i ((a0.length : Int))), (13, .i s4)]) (fun s4 => [(2, .cells [.i 0, .i 0])]) (.exit 0) (fun b5 => [(2, .ptr 2 0)]) (fun b5 => [(2, .cells [.i 0, .i 0])]) .ret (fun b6 => [(2, .ptr 2 0)]) (fun b6 => [(2, .cells [.i b6.Code, .i b6.Index])]) rfl rfl (fun s4 x8 hr => ?_) (fun b5 hr => ?_) (fun b6 hr => ?_)
  ·
   unfold header_Validate_l1 at hr
   refine rn tk 6 rfl ?_
   refine ac 14 hr rfl (fun c9 hr => ?_) (fun c9 hr => ?_)
   ·
    refine rn tk 7 rfl ?_
    obtain ⟨v10, h11, hr⟩ := bind_some hr
    refine wi tk h11 rfl rfl rfl rfl rfl ?_
    refine rn tk 12 rfl ?_
    obtain ⟨v12, h13, hr⟩ := bind_some hr
    refine cl (fold_Fold_run _ _ _ h13) rfl rfl ?_
    refine rn tk 11 rfl ?_
    obtain ⟨v14, h15, hr⟩ := bind_some hr
    refine cl (basic_Failed_run _ _ h15) rfl rfl ?_
    refine rn tk 2 rfl ?_
    refine ac 27 hr rfl (fun c16 hr => ?_) (fun c16 hr => ?_)
    ·
     refine rn tk 5 rfl ?_
     obtain ⟨v17, h18, hr⟩ := bind_some hr
     refine cl (basic_Fault_run _ _ _ h18) rfl rfl ?_
     refine rn tk 6 rfl ?_
     cases hr
     exact ato rfl rfl rfl rfl
    ·
     refine rn tk 7 rfl ?_
     cases hr
     exact atc rfl rfl
   ·
    refine rn tk 2 rfl ?_
    cases hr
    exact ato rfl rfl rfl rfl
  ·
   refine rn tk 4 rfl ?_
   obtain ⟨v19, h20, hr⟩ := bind_some hr
   refine cl (basic_None_run _ h20) rfl rfl ?_
   refine rn tk 4 rfl ?_
   cases hr
   exact kr tk (.inr rfl) rfl rfl
  ·
   refine rn tk 2 rfl ?_
   cases hr
   exact kr tk (.inr rfl) rfl rfl
theorem basic_Body_run (a0 : List UInt8) (r : Int) (hr : basic_Body a0 = some r) : Run Tryz.prog 85 [.l cU a0] (.i r) := by
 unfold basic_Body at hr
 refine rf (fn := Tryz.f85) ⟨Tryz.func85, rfl, by kernel_rfl⟩ rfl (fun _ => rfl) fun g0 hg => ?_
 refine rn tk 17 rfl ?_
 refine al2 hr (fun s1 => [(0, .l cU a0), (3, .i s1.1), (4, .i s1.2)]) (fun s1 => []) (.exit 0) (fun b2 => []) (fun b2 => []) .ret (fun b3 => [(2, .i b3)]) (fun b3 => []) rfl rfl (fun s1 x5 hr => ?_) (fun b2 hr => ?_) (fun b3 hr => ?_)
 ·
  unfold basic_Body_l1 at hr
  refine rn tk 5 rfl ?_
  refine wn tk rfl rfl rfl ?_
  refine rn tk 3 rfl ?_
  refine ac 9 hr rfl (fun c6 hr => ?_) (fun c6 hr => ?_)
  ·
   refine rn tk 2 rfl ?_
   refine jk (fun j7 => [(0, .l cU a0), (3, .i j7.1), (4, .i j7.2)]) (fun j7 => []) (fun j7 => basic_Body_k2  j7 = some x5) ?_ ?_
   ·
    refine rn tk 5 rfl ?_
    obtain ⟨v8, h9, hr⟩ := bind_some hr
    refine wi tk h9 rfl rfl rfl rfl rfl ?_
    refine rn tk 5 rfl ?_
    refine jb hr (fun j10 => [(0, .l cU a0), (3, .i s1.1), (4, .i s1.2), (5, .u8 v8), (32, .bo j10)]) (fun j10 => []) (fun j10 hr => ?_) (fun j10 hr => ?_)
    ·
     refine rn tk 4 rfl ?_
     refine bs 18 hr rfl (fun c11 hr => ?_) (fun c11 hr => ?_)
     ·
      refine rn tk 3 rfl ?_
      refine ug rfl rfl rfl ?_
      refine wn tk rfl rfl rfl ?_
      refine rn tk 3 rfl ?_
      refine bs 25 hr rfl (fun c12 hr => ?_) (fun c12 hr => ?_)
      ·
       refine rn tk 3 rfl ?_
       obtain ⟨v13, h14, hr⟩ := bind_some hr
       refine ug rfl rfl rfl ?_
       refine wi tk h14 rfl rfl rfl rfl rfl ?_
       refine rn tk 4 rfl ?_
       cases hr
       exact jn _ rfl rfl rfl
      ·
       refine rn tk 8 rfl ?_
       cases hr
       exact jn _ rfl rfl rfl
     ·
      refine rn tk 15 rfl ?_
      cases hr
      exact jn _ rfl rfl rfl
    ·
     refine ac 32 hr rfl (fun c15 hr => ?_) (fun c15 hr => ?_)
     ·
      refine rn tk 15 rfl ?_
      exact jn ((0, (w64 (s1.2 + 1)))) hr rfl rfl
     ·
      refine rn tk 3 rfl ?_
      refine jb hr (fun j16 => [(0, .l cU a0), (3, .i s1.1), (4, .i s1.2), (40, .bo j16)]) (fun j16 => []) (fun j16 hr => ?_) (fun j16 hr => ?_)
      ·
       refine rn tk 4 rfl ?_
       refine bs 37 hr rfl (fun c17 hr => ?_) (fun c17 hr => ?_)
       ·
        refine rn tk 4 rfl ?_
        cases hr
        exact jn _ rfl rfl rfl
       ·
        refine rn tk 4 rfl ?_
        cases hr
        exact jn _ rfl rfl rfl
      ·
       refine ac 40 hr rfl (fun c18 hr => ?_) (fun c18 hr => ?_)
       ·
        refine rn tk 9 rfl ?_
        cases hr
        exact ato rfl rfl rfl rfl
       ·
        refine rn tk 15 rfl ?_
        refine ac 44 hr rfl (fun c19 hr => ?_) (fun c19 hr => ?_)
        ·
         refine rn tk 8 rfl ?_
         cases hr
         exact ato rfl rfl rfl rfl
        ·
         refine rn tk 2 rfl ?_
         exact jn (((w64 (s1.1 + 1)), s1.2)) hr rfl rfl
   ·
    intro j7 hr
    unfold basic_Body_k2 at hr
    refine rn tk 5 rfl ?_
    cases hr
    exact atc rfl rfl
  ·
   refine rn tk 2 rfl ?_
   cases hr
   exact ato rfl rfl rfl rfl
 ·
  refine rn tk 8 rfl ?_
  cases hr
  exact kr tk (.inr rfl) rfl rfl
 ·
  refine rn tk 2 rfl ?_
  cases hr
  exact kr tk (.inr rfl) rfl rfl
theorem message_body_run (a0 : List UInt8) (r : TFault) (hr : message_body a0 = some r) : Run Tryz.prog 56 [.l cU a0] (.agg [.i r.Code, .i r.Index]) := by
 unfold message_body at hr
 refine rf (fn := Tryz.f56) ⟨Tryz.func56, rfl, by kernel_rfl⟩ rfl (fun _ => rfl) fun g0 hg => ?_
 refine rn tk 9 rfl ?_
 obtain ⟨v1, h2, hr⟩ := bind_some hr
 refine cl (basic_Body_run _ _ h2) rfl rfl ?_
 refine rn tk 9 rfl ?_
 refine ac 5 hr rfl (fun c3 hr => ?_) (fun c3 hr => ?_)
 ·
  refine rn tk 2 rfl ?_
  obtain ⟨v4, h5, hr⟩ := bind_some hr
  refine cl (basic_Fault_run _ _ _ h5) rfl rfl ?_
  refine rn tk 6 rfl ?_
  cases hr
  exact kr tk (.inr rfl) rfl rfl
 ·
  refine rn tk 6 rfl ?_
  refine ac 8 hr rfl (fun c6 hr => ?_) (fun c6 hr => ?_)
  ·
   refine rn tk 2 rfl ?_
   obtain ⟨v7, h8, hr⟩ := bind_some hr
   refine cl (basic_Fault_run _ _ _ h8) rfl rfl ?_
   refine rn tk 6 rfl ?_
   cases hr
   exact kr tk (.inr rfl) rfl rfl
  ·
   refine rn tk 5 rfl ?_
   obtain ⟨v9, h10, hr⟩ := bind_some hr
   refine cl (basic_None_run _ h10) rfl rfl ?_
   refine rn tk 4 rfl ?_
   cases hr
   exact kr tk (.inr rfl) rfl rfl
theorem message_write_run (a0 : TMessage) (r : List UInt8) (hr : message_write a0 = some r) : Run Tryz.prog 26 [.agg [.l TField.pc a0.Fields, .l cU a0.Body]] (.l cU r) := by
 unfold message_write at hr
 refine rf (fn := Tryz.f26) ⟨Tryz.func26, rfl, by kernel_rfl⟩ rfl (fun _ => rfl) fun g0 hg => ?_
 refine rn tk 9 rfl ?_
 refine awpl_adopt 1003 (d := 3) 5 1 rfl rfl rfl (hO ?_)
 refine rn tk 7 rfl ?_
 refine wn tk rfl rfl rfl ?_
 refine rn tk 4 rfl ?_
 refine al1 hr (fun s1 => [(1, .ptr 1 0), (3, .hs 1003 0), (11, .l TField.pc a0.Fields), (12, .i ((a0.Fields.length : Int))), (13, .i s1.1)]) (fun s1 => [(1003, .row 5 false 1 (List.map cU s1.2)), (1, .cells [.l TField.pc a0.Fields, .l cU a0.Body])]) (.exit 0) (fun b2 => [(1, .ptr 1 0), (3, .hs 1003 0)]) (fun b2 => [(1003, .row 5 false 1 (List.map cU b2)), (1, .cells [.l TField.pc a0.Fields, .l cU a0.Body])]) rfl rfl (fun s1 x3 hr => ?_) (fun b2 hr => ?_)
 ·
  unfold message_write_l1 at hr
  refine rn tk 6 rfl ?_
  refine ac 14 hr rfl (fun c4 hr => ?_) (fun c4 hr => ?_)
  ·
   refine rn tk 6 rfl ?_
   obtain ⟨v5, h6, hr⟩ := bind_some hr
   refine wi tk h6 rfl rfl rfl rfl rfl ?_
   refine rn tk 11 rfl ?_
   obtain ⟨v7, h8, hr⟩ := bind_some hr
   refine cl (fold_Fold_run _ _ _ h8) rfl rfl ?_
   refine rn tk 11 rfl ?_
   refine wn tk rfl rfl rfl ?_
   refine rn tk 4 rfl ?_
   refine al1 hr (fun s9 => [(1, .ptr 1 0), (3, .hs 1003 0), (11, .l TField.pc a0.Fields), (12, .i ((a0.Fields.length : Int))), (13, .i s1.1), (25, .l cS v7.1), (26, .i ((v7.1.length : Int))), (27, .i s9.1)]) (fun s9 => [(1003, .row 5 false 1 (List.map cU s9.2)), (1, .cells [.l TField.pc a0.Fields, .l cU a0.Body])]) (.exit 2) (fun b10 => [(1, .ptr 1 0), (3, .hs 1003 0), (11, .l TField.pc a0.Fields), (12, .i ((a0.Fields.length : Int))), (13, .i s1.1)]) (fun b10 => [(1003, .row 5 false 1 (List.map cU b10)), (1, .cells [.l TField.pc a0.Fields, .l cU a0.Body])]) rfl rfl (fun s9 x11 hr => ?_) (fun b10 hr => ?_)
   ·
    unfold message_write_l2 at hr
    refine rn tk 6 rfl ?_
    refine ac 28 hr rfl (fun c12 hr => ?_) (fun c12 hr => ?_)
    ·
     refine rn tk 6 rfl ?_
     obtain ⟨v13, h14, hr⟩ := bind_some hr
     refine wi tk h14 rfl rfl rfl rfl rfl ?_
     refine rn tk 7 rfl ?_
     obtain ⟨v15, h16, hr⟩ := bind_some hr
     refine wo (opTo_appends (k := 33) (l := s9.2) (s := v13) (lim := 140737488355328) rfl rfl rfl rfl ty_s_uint8 ty_string.u ty_uint8 rfl h16) rfl ?_
     refine wz cU ([(13 : UInt8), (10 : UInt8)] : List UInt8) tk rfl rfl (fun _ => rfl) rfl rfl rfl ?_
     obtain ⟨v17, h18, hr⟩ := bind_some hr
     refine wa tk h18 rfl rfl rfl rfl (fun _ => rfl) rfl rfl ?_
     refine rn tk 8 rfl ?_
     cases hr
     exact atc rfl rfl
    ·
     refine rn tk 2 rfl ?_
     cases hr
     exact ato rfl rfl rfl rfl
   ·
    refine rn tk 7 rfl ?_
    cases hr
    exact atc rfl rfl
  ·
   refine rn tk 2 rfl ?_
   cases hr
   exact ato rfl rfl rfl rfl
 ·
  refine rn tk 3 rfl ?_
  obtain ⟨v19, h20, hr⟩ := bind_some hr
  obtain ⟨v21, h22, hr⟩ := bind_some hr
  refine awp_explore [([false, false, false, false, false, false, false], [(1, .ptr 1 0), (3, .hs 1003 0)], [(1003, .row 5 false 1 (List.map cU b2)), (1, .cells [.l TField.pc a0.Fields, .l cU a0.Body])]), ([true, false, false, false, false, false, false], [(1, .ptr 1 0), (3, .hs 1003 0), (38, .hs 1003 0)], [(1003, .row 5 false 1 (List.map cU b2)), (1, .cells [.l TField.pc a0.Fields, .l cU a0.Body])]), ([false, true, false, false, false, false, false], [(1, .ptr 1 0), (3, .hs 1003 0), (39, .l cU (([(13 : UInt8), (10 : UInt8)] : List UInt8)))], [(1003, .row 5 false 1 (List.map cU b2)), (1, .cells [.l TField.pc a0.Fields, .l cU a0.Body])]), ([false, false, false, true, false, false, false], [(1, .ptr 1 0), (3, .hs 1003 0), (41, .ptr 1 1)], [(1003, .row 5 false 1 (List.map cU b2)), (1, .cells [.l TField.pc a0.Fields, .l cU a0.Body])]), ([true, true, false, false, false, false, false], [(1, .ptr 1 0), (3, .hs 1003 0), (38, .hs 1003 0), (39, .l cU (([(13 : UInt8), (10 : UInt8)] : List UInt8)))], [(1003, .row 5 false 1 (List.map cU b2)), (1, .cells [.l TField.pc a0.Fields, .l cU a0.Body])]), ([true, false, false, true, false, false, false], [(1, .ptr 1 0), (3, .hs 1003 0), (38, .hs 1003 0), (41, .ptr 1 1)], [(1003, .row 5 false 1 (List.map cU b2)), (1, .cells [.l TField.pc a0.Fields, .l cU a0.Body])]), ([false, true, false, true, false, false, false], [(1, .ptr 1 0), (3, .hs 1003 0), (39, .l cU (([(13 : UInt8), (10 : UInt8)] : List UInt8))), (41, .ptr 1 1)], [(1003, .row 5 false 1 (List.map cU b2)), (1, .cells [.l TField.pc a0.Fields, .l cU a0.Body])]), ([false, false, false, true, true, false, false], [(1, .ptr 1 0), (3, .hs 1003 0), (41, .ptr 1 1), (42, .l cU a0.Body)], [(1003, .row 5 false 1 (List.map cU b2)), (1, .cells [.l TField.pc a0.Fields, .l cU a0.Body])]), ([true, true, true, false, false, false, false], [(1, .ptr 1 0), (39, .l cU (([(13 : UInt8), (10 : UInt8)] : List UInt8))), (40, .hs 1003 0)], [(1003, .row 5 false 1 (List.map cU v19)), (1, .cells [.l TField.pc a0.Fields, .l cU a0.Body])]), ([true, true, false, true, false, false, false], [(1, .ptr 1 0), (3, .hs 1003 0), (38, .hs 1003 0), (39, .l cU (([(13 : UInt8), (10 : UInt8)] : List UInt8))), (41, .ptr 1 1)], [(1003, .row 5 false 1 (List.map cU b2)), (1, .cells [.l TField.pc a0.Fields, .l cU a0.Body])]), ([true, false, false, true, true, false, false], [(1, .ptr 1 0), (3, .hs 1003 0), (38, .hs 1003 0), (41, .ptr 1 1), (42, .l cU a0.Body)], [(1003, .row 5 false 1 (List.map cU b2)), (1, .cells [.l TField.pc a0.Fields, .l cU a0.Body])]), ([false, true, false, true, true, false, false], [(1, .ptr 1 0), (3, .hs 1003 0), (39, .l cU (([(13 : UInt8), (10 : UInt8)] : List UInt8))), (41, .ptr 1 1), (42, .l cU a0.Body)], [(1003, .row 5 false 1 (List.map cU b2)), (1, .cells [.l TField.pc a0.Fields, .l cU a0.Body])]), ([true, true, true, true, false, false, false], [(1, .ptr 1 0), (39, .l cU (([(13 : UInt8), (10 : UInt8)] : List UInt8))), (40, .hs 1003 0), (41, .ptr 1 1)], [(1003, .row 5 false 1 (List.map cU v19)), (1, .cells [.l TField.pc a0.Fields, .l cU a0.Body])]), ([true, true, false, true, true, false, false], [(1, .ptr 1 0), (3, .hs 1003 0), (38, .hs 1003 0), (39, .l cU (([(13 : UInt8), (10 : UInt8)] : List UInt8))), (41, .ptr 1 1), (42, .l cU a0.Body)], [(1003, .row 5 false 1 (List.map cU b2)), (1, .cells [.l TField.pc a0.Fields, .l cU a0.Body])]), ([true, true, true, true, true, false, false], [(1, .ptr 1 0), (39, .l cU (([(13 : UInt8), (10 : UInt8)] : List UInt8))), (40, .hs 1003 0), (41, .ptr 1 1), (42, .l cU a0.Body)], [(1003, .row 5 false 1 (List.map cU v19)), (1, .cells [.l TField.pc a0.Fields, .l cU a0.Body])]), ([true, true, true, true, true, true, false], [(1, .ptr 1 0), (39, .l cU (([(13 : UInt8), (10 : UInt8)] : List UInt8))), (41, .ptr 1 1), (42, .l cU a0.Body), (43, .hs 1003 0)], [(1003, .row 5 false 1 (List.map cU v21)), (1, .cells [.l TField.pc a0.Fields, .l cU a0.Body])]), ([true, true, true, true, true, true, true], [(1, .ptr 1 0), (2, .hs 1003 0), (39, .l cU (([(13 : UInt8), (10 : UInt8)] : List UInt8))), (41, .ptr 1 1), (42, .l cU a0.Body), (43, .hs 1003 0)], [(1003, .row 5 false 1 (List.map cU v21)), (1, .cells [.l TField.pc a0.Fields, .l cU a0.Body])])] mixed (by kernel_rfl) rfl rfl (frLe_cons rfl (frLe_cons rfl frLe_nil)) (stoLe_cons rfl (stoLe_cons rfl stoLe_nil)) (.cons (.step [0, 1, 3] (by kernel_rfl) rfl (.cons (.yes 1 rfl (wanted_plain rfl) (opTo_q (d := 38) rfl rfl ev_move) rfl (frLe_cons rfl (frLe_cons rfl (frLe_cons rfl frLe_nil))) (stoLe_cons rfl (stoLe_cons rfl stoLe_nil))) (.cons (.yes 2 rfl (wanted_plain rfl) (opTo_g (d := 39) rfl rfl (opG_lit (F := cU) (l := ([(13 : UInt8), (10 : UInt8)] : List UInt8)) ty_s_uint8 ty_uint8 rfl (fun _ => rfl) rfl rfl)) rfl (frLe_cons rfl (frLe_cons rfl (frLe_cons rfl frLe_nil))) (stoLe_cons rfl (stoLe_cons rfl stoLe_nil))) (.cons (.yes 3 rfl (wanted_plain rfl) (opTo_q (d := 41) rfl rfl (ev_fieldAddr rfl ty_api_Message.u rfl ty_s_uint8 rfl)) rfl (frLe_cons rfl (frLe_cons rfl (frLe_cons rfl frLe_nil))) (stoLe_cons rfl (stoLe_cons rfl stoLe_nil))) .nil)))) (.cons (.step [1, 3] (by kernel_rfl) rfl (.cons (.yes 4 rfl (wanted_plain rfl) (opTo_g (d := 39) rfl rfl (opG_lit (F := cU) (l := ([(13 : UInt8), (10 : UInt8)] : List UInt8)) ty_s_uint8 ty_uint8 rfl (fun _ => rfl) rfl rfl)) rfl (frLe_cons rfl (frLe_cons rfl (frLe_cons rfl (frLe_cons rfl frLe_nil)))) (stoLe_cons rfl (stoLe_cons rfl stoLe_nil))) (.cons (.yes 5 rfl (wanted_plain rfl) (opTo_q (d := 41) rfl rfl (ev_fieldAddr rfl ty_api_Message.u rfl ty_s_uint8 rfl)) rfl (frLe_cons rfl (frLe_cons rfl (frLe_cons rfl (frLe_cons rfl frLe_nil)))) (stoLe_cons rfl (stoLe_cons rfl stoLe_nil))) .nil))) (.cons (.step [0, 3] (by kernel_rfl) rfl (.cons (.yes 4 rfl (wanted_plain rfl) (opTo_q (d := 38) rfl rfl ev_move) rfl (frLe_cons rfl (frLe_cons rfl (frLe_cons rfl (frLe_cons rfl frLe_nil)))) (stoLe_cons rfl (stoLe_cons rfl stoLe_nil))) (.cons (.yes 6 rfl (wanted_plain rfl) (opTo_q (d := 41) rfl rfl (ev_fieldAddr rfl ty_api_Message.u rfl ty_s_uint8 rfl)) rfl (frLe_cons rfl (frLe_cons rfl (frLe_cons rfl (frLe_cons rfl frLe_nil)))) (stoLe_cons rfl (stoLe_cons rfl stoLe_nil))) .nil))) (.cons (.step [0, 1, 4] (by kernel_rfl) rfl (.cons (.yes 5 rfl (wanted_plain rfl) (opTo_q (d := 38) rfl rfl ev_move) rfl (frLe_cons rfl (frLe_cons rfl (frLe_cons rfl (frLe_cons rfl frLe_nil)))) (stoLe_cons rfl (stoLe_cons rfl stoLe_nil))) (.cons (.yes 6 rfl (wanted_plain rfl) (opTo_g (d := 39) rfl rfl (opG_lit (F := cU) (l := ([(13 : UInt8), (10 : UInt8)] : List UInt8)) ty_s_uint8 ty_uint8 rfl (fun _ => rfl) rfl rfl)) rfl (frLe_cons rfl (frLe_cons rfl (frLe_cons rfl (frLe_cons rfl frLe_nil)))) (stoLe_cons rfl (stoLe_cons rfl stoLe_nil))) (.cons (.yes 7 rfl (wanted_plain rfl) (opTo_q (d := 42) rfl rfl (ev_load rfl rfl ty_s_uint8 rfl rfl)) rfl (frLe_cons rfl (frLe_cons rfl (frLe_cons rfl (frLe_cons rfl frLe_nil)))) (stoLe_cons rfl (stoLe_cons rfl stoLe_nil))) .nil)))) (.cons (.step [2, 3] (by kernel_rfl) rfl (.cons (.yes 8 rfl (wanted_plain rfl) (opTo_append (k := 40) (F := cU) (l := b2) (xs := (([(13 : UInt8), (10 : UInt8)] : List UInt8))) (lim := 140737488355328) rfl rfl rfl rfl ty_s_uint8 ty_uint8 rfl rfl (fun _ => rfl) rfl h20) rfl (frLe_cons rfl (frLe_cons rfl (frLe_cons rfl frLe_nil))) (stoLe_cons rfl (stoLe_cons rfl stoLe_nil))) (.cons (.yes 9 rfl (wanted_plain rfl) (opTo_q (d := 41) rfl rfl (ev_fieldAddr rfl ty_api_Message.u rfl ty_s_uint8 rfl)) rfl (frLe_cons rfl (frLe_cons rfl (frLe_cons rfl (frLe_cons rfl (frLe_cons rfl frLe_nil))))) (stoLe_cons rfl (stoLe_cons rfl stoLe_nil))) .nil))) (.cons (.step [1, 4] (by kernel_rfl) rfl (.cons (.yes 9 rfl (wanted_plain rfl) (opTo_g (d := 39) rfl rfl (opG_lit (F := cU) (l := ([(13 : UInt8), (10 : UInt8)] : List UInt8)) ty_s_uint8 ty_uint8 rfl (fun _ => rfl) rfl rfl)) rfl (frLe_cons rfl (frLe_cons rfl (frLe_cons rfl (frLe_cons rfl (frLe_cons rfl frLe_nil))))) (stoLe_cons rfl (stoLe_cons rfl stoLe_nil))) (.cons (.yes 10 rfl (wanted_plain rfl) (opTo_q (d := 42) rfl rfl (ev_load rfl rfl ty_s_uint8 rfl rfl)) rfl (frLe_cons rfl (frLe_cons rfl (frLe_cons rfl (frLe_cons rfl (frLe_cons rfl frLe_nil))))) (stoLe_cons rfl (stoLe_cons rfl stoLe_nil))) .nil))) (.cons (.step [0, 4] (by kernel_rfl) rfl (.cons (.yes 9 rfl (wanted_plain rfl) (opTo_q (d := 38) rfl rfl ev_move) rfl (frLe_cons rfl (frLe_cons rfl (frLe_cons rfl (frLe_cons rfl (frLe_cons rfl frLe_nil))))) (stoLe_cons rfl (stoLe_cons rfl stoLe_nil))) (.cons (.yes 11 rfl (wanted_plain rfl) (opTo_q (d := 42) rfl rfl (ev_load rfl rfl ty_s_uint8 rfl rfl)) rfl (frLe_cons rfl (frLe_cons rfl (frLe_cons rfl (frLe_cons rfl (frLe_cons rfl frLe_nil))))) (stoLe_cons rfl (stoLe_cons rfl stoLe_nil))) .nil))) (.cons (.step [0, 1] (by kernel_rfl) rfl (.cons (.yes 10 rfl (wanted_plain rfl) (opTo_q (d := 38) rfl rfl ev_move) rfl (frLe_cons rfl (frLe_cons rfl (frLe_cons rfl (frLe_cons rfl (frLe_cons rfl frLe_nil))))) (stoLe_cons rfl (stoLe_cons rfl stoLe_nil))) (.cons (.yes 11 rfl (wanted_plain rfl) (opTo_g (d := 39) rfl rfl (opG_lit (F := cU) (l := ([(13 : UInt8), (10 : UInt8)] : List UInt8)) ty_s_uint8 ty_uint8 rfl (fun _ => rfl) rfl rfl)) rfl (frLe_cons rfl (frLe_cons rfl (frLe_cons rfl (frLe_cons rfl (frLe_cons rfl frLe_nil))))) (stoLe_cons rfl (stoLe_cons rfl stoLe_nil))) .nil))) (.cons (.step [3] (by kernel_rfl) rfl (.cons (.yes 12 rfl (wanted_plain rfl) (opTo_q (d := 41) rfl rfl (ev_fieldAddr rfl ty_api_Message.u rfl ty_s_uint8 rfl)) rfl (frLe_cons rfl (frLe_cons rfl (frLe_cons rfl (frLe_cons rfl frLe_nil)))) (stoLe_cons rfl (stoLe_cons rfl stoLe_nil))) .nil)) (.cons (.step [2, 4] (by kernel_rfl) rfl (.cons (.yes 12 rfl (wanted_plain rfl) (opTo_append (k := 40) (F := cU) (l := b2) (xs := (([(13 : UInt8), (10 : UInt8)] : List UInt8))) (lim := 140737488355328) rfl rfl rfl rfl ty_s_uint8 ty_uint8 rfl rfl (fun _ => rfl) rfl h20) rfl (frLe_cons rfl (frLe_cons rfl (frLe_cons rfl (frLe_cons rfl frLe_nil)))) (stoLe_cons rfl (stoLe_cons rfl stoLe_nil))) (.cons (.yes 13 rfl (wanted_plain rfl) (opTo_q (d := 42) rfl rfl (ev_load rfl rfl ty_s_uint8 rfl rfl)) rfl (frLe_cons rfl (frLe_cons rfl (frLe_cons rfl (frLe_cons rfl (frLe_cons rfl (frLe_cons rfl frLe_nil)))))) (stoLe_cons rfl (stoLe_cons rfl stoLe_nil))) .nil))) (.cons (.step [1] (by kernel_rfl) rfl (.cons (.yes 13 rfl (wanted_plain rfl) (opTo_g (d := 39) rfl rfl (opG_lit (F := cU) (l := ([(13 : UInt8), (10 : UInt8)] : List UInt8)) ty_s_uint8 ty_uint8 rfl (fun _ => rfl) rfl rfl)) rfl (frLe_cons rfl (frLe_cons rfl (frLe_cons rfl (frLe_cons rfl (frLe_cons rfl (frLe_cons rfl frLe_nil)))))) (stoLe_cons rfl (stoLe_cons rfl stoLe_nil))) .nil)) (.cons (.step [0] (by kernel_rfl) rfl (.cons (.yes 13 rfl (wanted_plain rfl) (opTo_q (d := 38) rfl rfl ev_move) rfl (frLe_cons rfl (frLe_cons rfl (frLe_cons rfl (frLe_cons rfl (frLe_cons rfl (frLe_cons rfl frLe_nil)))))) (stoLe_cons rfl (stoLe_cons rfl stoLe_nil))) .nil)) (.cons (.step [4] (by kernel_rfl) rfl (.cons (.yes 14 rfl (wanted_plain rfl) (opTo_q (d := 42) rfl rfl (ev_load rfl rfl ty_s_uint8 rfl rfl)) rfl (frLe_cons rfl (frLe_cons rfl (frLe_cons rfl (frLe_cons rfl (frLe_cons rfl frLe_nil))))) (stoLe_cons rfl (stoLe_cons rfl stoLe_nil))) .nil)) (.cons (.step [2] (by kernel_rfl) rfl (.cons (.yes 14 rfl (wanted_plain rfl) (opTo_append (k := 40) (F := cU) (l := b2) (xs := (([(13 : UInt8), (10 : UInt8)] : List UInt8))) (lim := 140737488355328) rfl rfl rfl rfl ty_s_uint8 ty_uint8 rfl rfl (fun _ => rfl) rfl h20) rfl (frLe_cons rfl (frLe_cons rfl (frLe_cons rfl (frLe_cons rfl (frLe_cons rfl frLe_nil))))) (stoLe_cons rfl (stoLe_cons rfl stoLe_nil))) .nil)) (.cons (.step [5] (by kernel_rfl) rfl (.cons (.yes 15 rfl (wanted_plain rfl) (opTo_append (k := 43) (F := cU) (l := v19) (xs := a0.Body) (lim := 140737488355328) rfl rfl rfl rfl ty_s_uint8 ty_uint8 rfl rfl (fun _ => rfl) rfl h22) rfl (frLe_cons rfl (frLe_cons rfl (frLe_cons rfl (frLe_cons rfl (frLe_cons rfl frLe_nil))))) (stoLe_cons rfl (stoLe_cons rfl stoLe_nil))) .nil)) (.cons (.step [6] (by kernel_rfl) rfl (.cons (.yes 16 rfl (wanted_plain rfl) (opTo_q (d := 2) rfl rfl ev_assign) rfl (frLe_cons rfl (frLe_cons rfl (frLe_cons rfl (frLe_cons rfl (frLe_cons rfl (frLe_cons rfl frLe_nil)))))) (stoLe_cons rfl (stoLe_cons rfl stoLe_nil))) .nil)) (.cons (.full (by kernel_rfl) (hA ?_)) .nil)))))))))))))))))
  refine rn tk 1 rfl ?_
  refine awp_pub (d := 2) (F := cU) (l := v21) rfl rfl (hC ?_)
  refine rn tk 1 rfl ?_
  cases hr
  exact kr tk (.inr rfl) rfl rfl
theorem message_Validate_run (a0 : TMessage) (r : TFault) (hr : message_Validate a0 = some r) : Run Tryz.prog 25 [.agg [.l TField.pc a0.Fields, .l cU a0.Body]] (.agg [.i r.Code, .i r.Index]) := by
 unfold message_Validate at hr
 refine rf (fn := Tryz.f25) ⟨Tryz.func25, rfl, by kernel_rfl⟩ rfl (fun _ => rfl) fun g0 hg => ?_
 refine rn tk 11 rfl ?_
 obtain ⟨v1, h2, hr⟩ := bind_some hr
 refine cl (header_Validate_run _ _ h2) rfl rfl ?_
 refine rn tk 7 rfl ?_
 obtain ⟨v3, h4, hr⟩ := bind_some hr
 refine cl (basic_Failed_run _ _ h4) rfl rfl ?_
 refine rn tk 2 rfl ?_
 refine ac 8 hr rfl (fun c5 hr => ?_) (fun c5 hr => ?_)
 ·
  refine rn tk 8 rfl ?_
  cases hr
  exact kr tk (.inr rfl) rfl rfl
 ·
  refine rn tk 6 rfl ?_
  obtain ⟨v6, h7, hr⟩ := bind_some hr
  refine cl (message_write_run _ _ h7) rfl rfl ?_
  refine wn tk rfl rfl rfl ?_
  refine rn tk 3 rfl ?_
  refine ac 13 hr rfl (fun c8 hr => ?_) (fun c8 hr => ?_)
  ·
   refine rn tk 2 rfl ?_
   obtain ⟨v9, h10, hr⟩ := bind_some hr
   refine cl (basic_Fault_run _ _ _ h10) rfl rfl ?_
   refine rn tk 5 rfl ?_
   cases hr
   exact kr tk (.inr rfl) rfl rfl
  ·
   refine rn tk 6 rfl ?_
   obtain ⟨v11, h12, hr⟩ := bind_some hr
   refine cl (message_body_run _ _ h12) rfl rfl ?_
   refine rn tk 4 rfl ?_
   cases hr
   exact kr tk (.inr rfl) rfl rfl
theorem envelope_Check_run (a0 : TMail) (r : TFault) (hr : envelope_Check a0 = some r) : Run Tryz.prog 11 [.agg [.s a0.Envelope.From, .l TRecipient.pc a0.Envelope.To, .s a0.Envelope.Id, .l TField.pc a0.Message.Fields, .l cU a0.Message.Body]] (.agg [.i r.Code, .i r.Index]) := by
 unfold envelope_Check at hr
 refine rf (fn := Tryz.f11) ⟨Tryz.func11, rfl, by kernel_rfl⟩ rfl (fun _ => rfl) fun g0 hg => ?_
 refine rn tk 11 rfl ?_
 obtain ⟨v1, h2, hr⟩ := bind_some hr
 refine cl (envelope_Validate_run _ _ h2) rfl rfl ?_
 refine rn tk 7 rfl ?_
 obtain ⟨v3, h4, hr⟩ := bind_some hr
 refine cl (basic_Failed_run _ _ h4) rfl rfl ?_
 refine rn tk 2 rfl ?_
 refine ac 9 hr rfl (fun c5 hr => ?_) (fun c5 hr => ?_)
 ·
  refine rn tk 8 rfl ?_
  cases hr
  exact kr tk (.inr rfl) rfl rfl
 ·
  refine rn tk 7 rfl ?_
  obtain ⟨v6, h7, hr⟩ := bind_some hr
  refine cl (message_Validate_run _ _ h7) rfl rfl ?_
  refine rn tk 7 rfl ?_
  obtain ⟨v8, h9, hr⟩ := bind_some hr
  refine cl (basic_Failed_run _ _ h9) rfl rfl ?_
  refine rn tk 2 rfl ?_
  refine ac 15 hr rfl (fun c10 hr => ?_) (fun c10 hr => ?_)
  ·
   refine rn tk 4 rfl ?_
   obtain ⟨v11, h12, hr⟩ := bind_some hr
   refine cl (basic_Fault_run _ _ _ h12) rfl rfl ?_
   refine rn tk 5 rfl ?_
   cases hr
   exact kr tk (.inr rfl) rfl rfl
  ·
   refine rn tk 4 rfl ?_
   obtain ⟨v13, h14, hr⟩ := bind_some hr
   refine cl (basic_None_run _ h14) rfl rfl ?_
   refine rn tk 4 rfl ?_
   cases hr
   exact kr tk (.inr rfl) rfl rfl
end Go.Proofs.YtpclhpncmlbccaaGreatDoor

/- Library functions compute what their Lean functions do: strings.TrimSuffix. -/
namespace Go.Proofs.YtpclhpncmlbccaaGreatDoor
open Go.RowKit
set_option maxRecDepth 100000
theorem str_argTy {g : G} {s : Str} {v : Value} (h : Rel g (.s s) v) : v = .string (strB s) := rel_b h
theorem strings_TrimSuffix_run (s t : Str) (r : Str) (hr : strings_TrimSuffix s t = some r) : Run Tryz.prog 53 [.s s, .s t] (.s r) := by
  unfold strings_TrimSuffix at hr
  split at hr
  case isFalse => cases hr
  rename_i hlen
  cases hr
  refine ⟨⟨_, _, ⟨Tryz.func53, rfl, by kernel_rfl⟩⟩, fun g vs hw hg ha => ?_⟩
  obtain ⟨hsz, hrel⟩ := ha
  obtain ⟨l⟩ := vs
  match l, hsz with
  | [x, y], _ =>
    obtain rfl := str_argTy (hrel 0 _ rfl)
    obtain rfl := str_argTy (hrel 1 _ rfl)
    refine callsIn_wide.2 ((Tryz.strings_TrimSuffix (strB s) (strB t) g.w (by rw [strB_size]; exact hlen)).mono ?_)
    rintro e w' ⟨rfl, rfl⟩
    exact ⟨g, _, rfl, rfl, Old.refl _ g, hw, rfl, .pv (.b rfl)⟩
end Go.Proofs.YtpclhpncmlbccaaGreatDoor

namespace Go.Proofs.YtpclhpncmlbccaaGreatDoor
open Go.RowKit
set_option maxRecDepth 100000
set_option maxHeartbeats 40000000
set_option linter.unusedVariables false
theorem notice_kinds_run  (r : Str × Str × Str × Str × Str) (hr : notice_kinds = some r) : Run Tryz.prog 20 [] (.agg [.s r.1, .s r.2.1, .s r.2.2.1, .s r.2.2.2.1, .s r.2.2.2.2]) := by
 unfold notice_kinds at hr
 refine rf (fn := Tryz.f20) ⟨Tryz.func20, rfl, by kernel_rfl⟩ rfl (fun _ => rfl) fun g0 hg => ?_
 refine rn tk 7 rfl ?_
 refine wq (ev_buildA (cs := [.s (([] : Str)), .s (([102, 97, 105, 108, 117, 114, 101] : Str)), .s (([100, 101, 108, 97, 121] : Str)), .s (([] : Str)), .s (([115, 117, 99, 99, 101, 115, 115] : Str))]) ty__5_string ty_string (.inr ⟨rfl, rfl⟩) (by kernel_rfl)) rfl rfl rfl ?_
 refine rn tk 4 rfl ?_
 cases hr
 exact kr tk (.inr rfl) rfl rfl
end Go.Proofs.YtpclhpncmlbccaaGreatDoor

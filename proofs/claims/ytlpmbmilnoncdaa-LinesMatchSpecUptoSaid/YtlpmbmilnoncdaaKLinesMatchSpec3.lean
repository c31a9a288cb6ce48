/- Part 3 of the proof of the law LinesMatchSpec: what it needs. -/
import Derived.Test.YtlpmbmilnoncdaaKLinesMatchSpec2
import Derived.Test.YtlpmbmilnoncdaaShelf
/- Functions of the program as Lean functions: what they compute. Written by program. -/
namespace Go.Proofs.Ytlpmbmilnoncdaa
open Go.RowKit
set_option maxRecDepth 100000
set_option maxHeartbeats 40000000
set_option linter.unusedVariables false
noncomputable def L_splits  : Option Bool :=
  (lines_Split (([(97 : UInt8), (13 : UInt8), (10 : UInt8), (98 : UInt8)] : List UInt8))).bind fun v1 => (lines_Stuff ([])).bind fun v3 => (lines_Unstuff (([(46 : UInt8), (46 : UInt8), (13 : UInt8), (10 : UInt8), (46 : UInt8), (13 : UInt8), (10 : UInt8), (120 : UInt8)] : List UInt8))).bind fun v5 => (lines_Stuff (([(97 : UInt8)] : List UInt8))).bind fun v7 => ((bif (v1.2.2.Code == 0) then (bif (v3.2.Code == 0) then (bif (v5.2.2.2.Code == 0) then (R_At 5 ((-2))).bind fun v13 => (bif (allEq [(v7.2.Code == v13.Code), (v7.2.Index == v13.Index)]) then (R_Strings v1.1 (([([97] : Str)] : List Str))).bind fun v16 => (bif v16 then (bif (v1.2.1 == ([98] : Str)) then (bif (v3.1 == ([46, 13, 10] : Str)) then (bif (v5.1 == ([46, 13, 10] : Str)) then (bif (v5.2.1 == 7) then some v5.2.2.1 else some false) else some false) else some false) else some false) else some false) else some false) else some false) else some false) else some false) : Option Bool).bind fun (j9 : Bool) => some j9
def L_LinesMatchSpec_l1 (v1 : (List Str) × (List UInt8) × TFault) (v12 : (List Str) × (List UInt8)) (s14 : Int) : Option (Step Int (Unit ⊕ Bool)) :=
  (bif decide (s14 < (v12.1.length : Int)) then (idx v12.1 s14).bind fun v20 => (bif decide (4000 < (v20.length : Int)) then ((R_At 1 s14).bind fun v24 => (bif (allEq [(v1.2.2.Code == v24.Code), (v1.2.2.Index == v24.Index)]) then (bif ((v1.1.length : Int) == 0) then some (((v1.2.1.length : Int) == 0)) else some false) else some false) : Option Bool).bind fun (j23 : Bool) => some (.out (.inr j23)) else some (.cont (w64 (s14 + 1)))) else some (.out (.inl (()))))
noncomputable def L_LinesMatchSpec (a0 : List UInt8) : Option Bool :=
  (lines_Split a0).bind fun v1 => (L_splits).bind fun v3 => (bif (!v3) then some false else (bif decide (40000 < (a0.length : Int)) then ((R_At 1 ((-1))).bind fun v8 => (bif (allEq [(v1.2.2.Code == v8.Code), (v1.2.2.Index == v8.Index)]) then (bif ((v1.1.length : Int) == 0) then some (((v1.2.1.length : Int) == 0)) else some false) else some false) : Option Bool).bind fun (j7 : Bool) => some j7 else (R_Lines a0).bind fun v12 => (iter (L_LinesMatchSpec_l1 v1 v12) 0).bind fun o => match o with | .inl b15 => ((bif (v1.2.2.Code == 0) then (R_Strings v1.1 v12.1).bind fun v30 => (bif v30 then some ((v1.2.1 == v12.2)) else some false) else some false) : Option Bool).bind fun (j28 : Bool) => some j28 | .inr b16 => some b16))
def L_LinesJoin_l1 (v1 : (List Str) × (List UInt8) × TFault) (s17 : Int × (List UInt8)) : Option (Step (Int × (List UInt8)) (List UInt8)) :=
  (bif decide (s17.1 < (v1.1.length : Int)) then (idx v1.1 s17.1).bind fun v21 => (app 140737488355328 s17.2 v21).bind fun v23 => (app 140737488355328 v23 (([(13 : UInt8), (10 : UInt8)] : List UInt8))).bind fun v25 => some (.cont ((w64 (s17.1 + 1)), v25)) else some (.out s17.2))
noncomputable def L_LinesJoin (a0 : List UInt8) (a1 : List UInt8) : Option Bool :=
  (lines_Split a0).bind fun v1 => (lines_Split a1).bind fun v3 => ((L_splits).bind fun v6 => (bif (!v6) then some true else (bif (v1.2.2.Code != 0) then some true else (bif (v3.2.2.Code != 0) then some true else some (decide (40000 < (w64 ((a0.length : Int) + (a1.length : Int)))))))) : Option Bool).bind fun (j5 : Bool) => (bif j5 then ((L_splits).bind fun v13 => (bif v13 then (bif (v1.2.2.Code == 0) then some true else some (((v1.1.length : Int) == 0))) else some false) : Option Bool).bind fun (j12 : Bool) => some j12 else (iter (L_LinesJoin_l1 v1) ((0, ([] : List UInt8)))).bind fun b18 => (cat b18 v1.2.1).bind fun v27 => (bif (v27 != a0) then some false else (bif decide (0 < (v1.2.1.length : Int)) then some true else (app 140737488355328 b18 a1).bind fun v31 => (lines_Split v31).bind fun v33 => (app 8796093022208 (([] : List Str)) v1.1).bind fun v35 => (app 8796093022208 v35 v3.1).bind fun v37 => ((bif (v33.2.2.Code == 0) then (R_Strings v33.1 v37).bind fun v41 => (bif v41 then some ((v33.2.1 == v3.2.1)) else some false) else some false) : Option Bool).bind fun (j39 : Bool) => some j39)))
def R_Sent_l1 (a0 : List UInt8) (s1 : Int × Int × (List Str)) : Option (Step (Int × Int × (List Str)) (Int × (List Str))) :=
  (bif decide (s1.2.1 < (a0.length : Int)) then (((idx a0 s1.2.1).bind fun v7 => (bif ((v7.toNat : Int) == 10) then (idx a0 ((w64 (s1.2.1 - 1)))).bind fun v10 => (bif ((v10.toNat : Int) == 13) then some (decide (s1.1 < s1.2.1)) else some false) else some false) : Option Bool).bind fun (j6 : Bool) => (bif j6 then (cut a0 s1.1 ((w64 (s1.2.1 - 1)))).bind fun v14 => (app 8796093022208 s1.2.2 (([v14] : List Str))).bind fun v16 => some (((w64 (s1.2.1 + 1)), v16)) else some ((s1.1, s1.2.2))) : Option (Int × (List Str))).bind fun (j5 : Int × (List Str)) => some (.cont (j5.1, (w64 (s1.2.1 + 1)), j5.2)) else some (.out ((s1.1, s1.2.2))))
def R_Sent_l2 (v20 : List Str) (s22 : Int × (List UInt8)) : Option (Step (Int × (List UInt8)) (List UInt8)) :=
  (bif decide (s22.1 < (v20.length : Int)) then ((((idx v20 s22.1).bind fun v29 => (bif decide (0 < (v29.length : Int)) then (idx v20 s22.1).bind fun v32 => (idx v32 0).bind fun v34 => some (((v34.toNat : Int) == 46)) else some false) : Option Bool).bind fun (j28 : Bool) => (bif j28 then (app 140737488355328 s22.2 (([(46 : UInt8)] : List UInt8))).bind fun v37 => some v37 else some s22.2) : Option (List UInt8)).bind fun (j27 : List UInt8) => (idx v20 s22.1).bind fun v39 => (app 140737488355328 j27 v39).bind fun v41 => (bif decide ((w64 (s22.1 + 1)) < (v20.length : Int)) then (app 140737488355328 v41 (([(13 : UInt8), (10 : UInt8)] : List UInt8))).bind fun v44 => some v44 else some v41) : Option (List UInt8)).bind fun (j26 : List UInt8) => some (.cont ((w64 (s22.1 + 1)), j26)) else some (.out s22.2))
noncomputable def R_Sent (a0 : List UInt8) : Option (List UInt8) :=
  (iter (R_Sent_l1 a0) ((0, 1, ([] : List Str)))).bind fun b2 => (cut a0 b2.1 ((a0.length : Int))).bind fun v18 => (app 8796093022208 b2.2 (([v18] : List Str))).bind fun v20 => (iter (R_Sent_l2 v20) ((0, ([] : List UInt8)))).bind fun b23 => (app 140737488355328 b23 (([(46 : UInt8), (13 : UInt8), (10 : UInt8)] : List UInt8))).bind fun v46 => some v46
noncomputable def L_LinesDataMatchSpec (a0 : List UInt8) : Option Bool :=
  (lines_Stuff a0).bind fun v1 => (lines_Unstuff a0).bind fun v3 => (L_splits).bind fun v5 => (bif (!v5) then some false else (R_Lines a0).bind fun v8 => ((bif decide (12000 < (a0.length : Int)) then (R_At 1 ((-1))).bind fun v12 => some ((v12.Code, v12.Index)) else (bif decide (0 < (v8.2.length : Int)) then (R_At 5 ((-2))).bind fun v15 => some ((v15.Code, v15.Index)) else some ((0, 0)))) : Option (Int × Int)).bind fun (j10 : Int × Int) => ((bif (!(allEq [(v1.2.Code == j10.1), (v1.2.Index == j10.2)])) then some true else (bif (j10.1 != 0) then (bif decide (0 < (v1.1.length : Int)) then some true else (bif (j10.1 == 0) then (R_Sent a0).bind fun v22 => some ((v1.1 != v22)) else some false)) else (bif (j10.1 == 0) then (R_Sent a0).bind fun v25 => some ((v1.1 != v25)) else some false))) : Option Bool).bind fun (j17 : Bool) => (bif j17 then some false else (bif decide (40000 < (a0.length : Int)) then ((R_At 1 ((-1))).bind fun v30 => (bif (allEq [(v3.2.2.2.Code == v30.Code), (v3.2.2.2.Index == v30.Index)]) then (bif ((v3.1.length : Int) == 0) then (bif (v3.2.1 == 0) then some ((!v3.2.2.1)) else some false) else some false) else some false) : Option Bool).bind fun (j29 : Bool) => some j29 else (R_Received a0).bind fun v35 => (bif v35.2.2 then ((R_At 1 ((-2))).bind fun v39 => (bif (allEq [(v3.2.2.2.Code == v39.Code), (v3.2.2.2.Index == v39.Index)]) then (bif ((v3.1.length : Int) == 0) then (bif (v3.2.1 == 0) then some ((!v3.2.2.1)) else some false) else some false) else some false) : Option Bool).bind fun (j38 : Bool) => some j38 else ((bif (v3.2.2.2.Code == 0) then (bif (v3.2.2.1 == decide (0 < v35.2.1)) then (bif (v3.2.1 == v35.2.1) then some ((v3.1 == v35.1)) else some false) else some false) else some false) : Option Bool).bind fun (j44 : Bool) => some j44))))
noncomputable def L_LinesArriveAsSent (a0 : List UInt8) (a1 : List UInt8) (a2 : Int) : Option Bool :=
  (lines_Stuff a0).bind fun v1 => ((L_splits).bind fun v4 => (bif (!v4) then some true else (bif (v1.2.Code != 0) then some true else some (decide (10000 < (a1.length : Int))))) : Option Bool).bind fun (j3 : Bool) => (bif j3 then ((L_splits).bind fun v10 => (bif v10 then (bif (v1.2.Code == 0) then some true else some (((v1.1.length : Int) == 0))) else some false) : Option Bool).bind fun (j9 : Bool) => some j9 else (app 140737488355328 (([] : List UInt8)) v1.1).bind fun v14 => (app 140737488355328 v14 a1).bind fun v16 => (lines_Unstuff v16).bind fun v18 => ((bif (v18.2.2.2.Code != 0) then some true else (bif (!v18.2.2.1) then some true else (bif (v18.2.1 != (v1.1.length : Int)) then some true else some ((v18.1 != a0))))) : Option Bool).bind fun (j20 : Bool) => (bif j20 then some false else (R_In a2 0 ((w64 ((v1.1.length : Int) - 1)))).bind fun v25 => (bif (!v25) then some true else (cut v1.1 0 a2).bind fun v28 => (lines_Unstuff v28).bind fun v30 => ((bif (v30.2.2.2.Code == 0) then some ((!v30.2.2.1)) else some false) : Option Bool).bind fun (j32 : Bool) => some j32)))
end Go.Proofs.Ytlpmbmilnoncdaa

/- Plain lemmas on the operations of typed functions: no program is named. -/
namespace Go.Proofs.Ytlpmbmilnoncdaa
open Go.RowKit

theorem w64_nn (a b : Nat) (h : a + b ≤ 9223372036854775807) : w64 ((a : Int) + (b : Int)) = ((a + b : Nat) : Int) := by
  rw [w64_id (by omega) (by omega)]; simp
theorem w64_nl (a k : Nat) (h : a + OfNat.ofNat k ≤ 9223372036854775807) : w64 ((a : Int) + (no_index (OfNat.ofNat k : Int))) = ((a + OfNat.ofNat k : Nat) : Int) := by
  have e : (OfNat.ofNat k : Int) = ((OfNat.ofNat k : Nat) : Int) := rfl
  rw [e]; exact w64_nn a _ h
theorem w64_ns (a b : Nat) (h : b ≤ a) (ha : a ≤ 9223372036854775807) : w64 ((a : Int) - (b : Int)) = ((a - b : Nat) : Int) := by
  rw [w64_id (by omega) (by omega)]; omega
theorem w64_sl (a k : Nat) (h : OfNat.ofNat k ≤ a) (ha : a ≤ 9223372036854775807) : w64 ((a : Int) - (no_index (OfNat.ofNat k : Int))) = ((a - OfNat.ofNat k : Nat) : Int) := by
  have e : (OfNat.ofNat k : Int) = ((OfNat.ofNat k : Nat) : Int) := rfl
  rw [e]; exact w64_ns a _ h ha
theorem w64_n (a : Nat) (h : a ≤ 9223372036854775807) : w64 (a : Int) = (a : Int) := w64_id (by omega) (by omega)

theorem u8_eq (c : UInt8) (k : Nat) (hk : OfNat.ofNat k < 256) : ((c.toNat : Int) == no_index (OfNat.ofNat k : Int)) = (c == OfNat.ofNat k) := by
  have e : (OfNat.ofNat k : Int) = ((OfNat.ofNat k : Nat) : Int) := rfl
  have h2 : (OfNat.ofNat k : UInt8).toNat = (OfNat.ofNat k : Nat) := by
    show (UInt8.ofNat k).toNat = k
    rw [UInt8.toNat_ofNat']; exact Nat.mod_eq_of_lt hk
  rw [Bool.eq_iff_iff, beq_iff_eq, beq_iff_eq, ← UInt8.toNat_inj, h2, e]
  omega
theorem u8_ne (c : UInt8) (k : Nat) (hk : OfNat.ofNat k < 256) : ((c.toNat : Int) != no_index (OfNat.ofNat k : Int)) = (c != OfNat.ofNat k) := by
  unfold bne; rw [u8_eq c k hk]
section
variable {α : Type}
theorem idx_nat (l : List α) (i : Nat) : idx l (i : Int) = l[i]? := by unfold idx; rw [if_pos (by omega)]; simp
theorem idx_lit (l : List α) (k : Nat) : idx l (no_index (OfNat.ofNat k : Int)) = l[(OfNat.ofNat k : Nat)]? := idx_nat l k
theorem idx_lt {l : List α} {i : Nat} (h : i < l.length) : idx l (i : Int) = some l[i] := by rw [idx_nat]; exact List.getElem?_eq_getElem h
theorem idx_app (p : List α) (x : α) (r : List α) : idx (p ++ x :: r) (p.length : Int) = some x := by rw [idx_nat]; simp
theorem cut_nn {l : List α} {a b : Nat} (h1 : a ≤ b) (h2 : b ≤ l.length) : cut l (a : Int) (b : Int) = some ((l.drop a).take (b - a)) := by
  unfold cut; rw [if_pos (by omega)]; simp
theorem cut_nl {l : List α} {a : Nat} (h1 : a ≤ l.length) : cut l (a : Int) (l.length : Int) = some (l.drop a) := by
  rw [cut_nn h1 (Nat.le_refl _)]; rw [List.take_of_length_le (by simp)]
theorem cut_0n {l : List α} {b : Nat} (h2 : b ≤ l.length) : cut l 0 (b : Int) = some (l.take b) := by
  have := cut_nn (l := l) (a := 0) (b := b) (by omega) h2
  simpa using this
theorem cut_ll {l : List α} {k : Nat} (h1 : OfNat.ofNat k ≤ l.length) : cut l (no_index (OfNat.ofNat k : Int)) (l.length : Int) = some (l.drop (OfNat.ofNat k)) := cut_nl (a := k) h1
theorem cut_0l {l : List α} {k : Nat} (h1 : OfNat.ofNat k ≤ l.length) : cut l 0 (no_index (OfNat.ofNat k : Int)) = some (l.take (OfNat.ofNat k)) := cut_0n (b := k) h1
theorem app_ok {lim : Nat} {l xs : List α} (h : l.length + xs.length ≤ lim) : app lim l xs = some (l ++ xs) := by unfold app; rw [if_pos h]
theorem cat_ok {a b : Str} (h : a.length + b.length ≤ 9223372036854775807) : cat a b = some (a ++ b) := by unfold cat; rw [if_pos h]
end

section
variable {A R : Type} {body : A → Option (Step A R)}
/-- a loop that ends, by an invariant and a measure -/
theorem iter_rec (Inv : A → Prop) (m : A → Nat) (Post : A → R → Prop)
    (h : ∀ s, Inv s → (∃ r, body s = some (.out r) ∧ Post s r) ∨ ∃ s', body s = some (.cont s') ∧ Inv s' ∧ m s' < m s ∧ ∀ r, Post s' r → Post s r) :
    ∀ s, Inv s → ∃ r, iter body s = some r ∧ Post s r := by
  intro s
  induction hn : m s using Nat.strongRecOn generalizing s with
  | _ n ih =>
    intro hi
    rcases h s hi with ⟨r, h1, h2⟩ | ⟨s', h1, h2, h3, h4⟩
    · exact ⟨r, iter_out h1, h2⟩
    · obtain ⟨r, h5, h6⟩ := ih (m s') (by omega) s' rfl h2
      exact ⟨r, (iter_cont h1).trans h5, h4 r h6⟩
/-- a loop that goes through a list, with an accumulator -/
theorem iter_list {α S : Type} (l : List α) (enc : Nat → S → A) (spec : Nat → List α → S → R)
    (h0 : ∀ s, body (enc l.length s) = some (.out (spec l.length [] s)))
    (h1 : ∀ p x r s, l = p ++ x :: r → (body (enc p.length s) = some (.out (spec p.length (x :: r) s))) ∨ ∃ s', body (enc p.length s) = some (.cont (enc (p.length + 1) s')) ∧ spec p.length (x :: r) s = spec (p.length + 1) r s') :
    ∀ {s0 : A} (s : S) (_ : s0 = enc 0 s), iter body s0 = some (spec 0 l s) := by
  have key : ∀ r p s, l = p ++ r → iter body (enc p.length s) = some (spec p.length r s) := by
    intro r
    induction r with
    | nil =>
      intro p s h
      have : p = l := by simp [h]
      subst this
      exact iter_out (h0 s)
    | cons x r ih =>
      intro p s h
      rcases h1 p x r s h with hb | ⟨s', hb, hs⟩
      · exact iter_out hb
      · rw [iter_cont hb, hs]
        have := ih (p ++ [x]) s' (by simp [h])
        simpa using this
  rintro _ s rfl
  exact key l [] s rfl
/-- the same, with an invariant -/
theorem iter_listI {α S : Type} (l : List α) (enc : Nat → S → A) (spec : Nat → List α → S → R) (Inv : Nat → List α → S → Prop)
    (h0 : ∀ s, Inv l.length [] s → body (enc l.length s) = some (.out (spec l.length [] s)))
    (h1 : ∀ p x r s, l = p ++ x :: r → Inv p.length (x :: r) s → (body (enc p.length s) = some (.out (spec p.length (x :: r) s))) ∨ ∃ s', body (enc p.length s) = some (.cont (enc (p.length + 1) s')) ∧ spec p.length (x :: r) s = spec (p.length + 1) r s' ∧ Inv (p.length + 1) r s') :
    ∀ {s0 : A} (s : S) (_ : s0 = enc 0 s) (_ : Inv 0 l s), iter body s0 = some (spec 0 l s) := by
  have key : ∀ r p s, l = p ++ r → Inv p.length r s → iter body (enc p.length s) = some (spec p.length r s) := by
    intro r
    induction r with
    | nil =>
      intro p s h hi
      have : p = l := by simp [h]
      subst this
      exact iter_out (h0 s hi)
    | cons x r ih =>
      intro p s h hi
      rcases h1 p x r s h hi with hb | ⟨s', hb, hs, hi'⟩
      · exact iter_out hb
      · rw [iter_cont hb, hs]
        have := ih (p ++ [x]) s' (by simp [h]) (by simpa using hi')
        simpa using this
  rintro _ s rfl hi
  exact key l [] s rfl hi
theorem lt_mid {α : Type} (p : List α) (x : α) (r : List α) : decide ((p.length : Int) < ((p ++ x :: r).length : Int)) = true := by simp; omega
theorem getElem_mid {α : Type} (p : List α) (x : α) (r : List α) : (p ++ x :: r)[p.length]? = some x := by simp
end
end Go.Proofs.Ytlpmbmilnoncdaa

/- Lines of a stream: the plain functions, and what the typed functions compute. -/
namespace Go.Proofs.Ytlpmbmilnoncdaa
open Go.RowKit
set_option linter.unusedVariables false

/-- the lines of a stream and the rest; cur: what has been passed of the current line -/
def fl : List UInt8 → List UInt8 → List Str × List UInt8
  | cur, [] => ([], cur)
  | cur, [c] => ([], cur ++ [c])
  | cur, c :: d :: r => if c = 13 ∧ d = 10 then (cur :: (fl [] r).1, (fl [] r).2) else fl (cur ++ [c]) (d :: r)

theorem fl_hit (cur r : List UInt8) : fl cur (13 :: 10 :: r) = (cur :: (fl [] r).1, (fl [] r).2) := by rw [fl, if_pos ⟨rfl, rfl⟩]
theorem fl_miss {c d : UInt8} (h : ¬ (c = 13 ∧ d = 10)) (cur r : List UInt8) : fl cur (c :: d :: r) = fl (cur ++ [c]) (d :: r) := by rw [fl, if_neg h]

theorem index_cons2 (c d : UInt8) (r : List UInt8) : Lib.index (c :: d :: r) [13, 10] = if c = 13 ∧ d = 10 then 0 else if Lib.index (d :: r) [13, 10] = -1 then -1 else Lib.index (d :: r) [13, 10] + 1 := by
  rw [Lib.index]
  by_cases h : c = 13 ∧ d = 10
  · obtain ⟨rfl, rfl⟩ := h; simp
  · rw [if_neg h, if_neg]
    · simp
    · simp only [List.isPrefixOf, Bool.and_true, Bool.and_eq_true, beq_iff_eq]
      rintro ⟨rfl, rfl⟩; exact h ⟨rfl, rfl⟩

theorem fl_none (l : List UInt8) : ∀ cur, Lib.index l [13, 10] = -1 → fl cur l = ([], cur ++ l) := by
  induction l with
  | nil => intro cur _; simp [fl]
  | cons c r ih =>
    intro cur h
    match r, ih with
    | [], _ => simp [fl]
    | d :: r, ih =>
      rw [index_cons2] at h
      have hg := Lib.index_ge (d :: r) [13, 10]
      split at h
      · cases h
      · rename_i hn
        rw [fl_miss hn, ih]
        · simp
        · split at h
          · assumption
          · omega

theorem fl_some (l : List UInt8) : ∀ (cur : List UInt8) (k : Nat), Lib.index l [13, 10] = (k : Int) → k + 2 ≤ l.length ∧ fl cur l = ((cur ++ l.take k) :: (fl [] (l.drop (k + 2))).1, (fl [] (l.drop (k + 2))).2) := by
  induction l with
  | nil => intro cur k h; simp [Lib.index] at h
  | cons c r ih =>
    intro cur k h
    match r, ih with
    | [], _ => simp [Lib.index] at h
    | d :: r, ih =>
      rw [index_cons2] at h
      have hg := Lib.index_ge (d :: r) [13, 10]
      split at h
      · rename_i hn
        obtain ⟨rfl, rfl⟩ := hn
        obtain rfl : k = 0 := by omega
        rw [fl_hit]; simp
      · rename_i hn
        split at h
        · omega
        · obtain ⟨j, rfl⟩ : ∃ j, k = j + 1 := ⟨k - 1, by omega⟩
          obtain ⟨h1, h2⟩ := ih (cur ++ [c]) j (by omega)
          rw [fl_miss hn, h2]
          refine ⟨by simp at h1 ⊢; omega, ?_⟩
          simp

theorem fl_join (l : List UInt8) (cur : List UInt8) : ((fl cur l).1.flatMap fun x => x ++ [13, 10]) ++ (fl cur l).2 = cur ++ l := by
  fun_induction fl cur l with
  | case1 cur => simp
  | case2 cur c => simp
  | case3 cur c d r h ih => obtain ⟨rfl, rfl⟩ := h; simpa using ih
  | case4 cur c d r h ih => simpa using ih
theorem fl_size (l : List UInt8) (cur : List UInt8) : 2 * (fl cur l).1.length + (fl cur l).2.length ≤ cur.length + l.length := by
  fun_induction fl cur l with
  | case1 cur => simp
  | case2 cur c => simp
  | case3 cur c d r h ih => simp at ih ⊢; omega
  | case4 cur c d r h ih => simp at ih ⊢; omega

def longAt : Nat → List Str → Option Nat
  | _, [] => none
  | i, x :: r => if 4000 < x.length then some i else longAt (i + 1) r

theorem split_loop (a : List UInt8) (ha : a.length ≤ 40000) (n : Nat) : ∀ (at_ : Nat) (out : List Str), at_ ≤ a.length → a.length - at_ = n → out.length ≤ at_ →
    ∃ r, iter (lines_Split_l1 a) ((at_ : Int), (at_ : Int), out) = some r ∧ match longAt out.length (fl [] (a.drop at_)).1 with
      | some i => ∃ t o, r = .inr (t, o, 1, (i : Int))
      | none => r = .inl (((a.length - (fl [] (a.drop at_)).2.length : Nat) : Int), out ++ (fl [] (a.drop at_)).1) := by
  induction n using Nat.strongRecOn with
  | _ n ih =>
    intro at_ out h1 h2 h3
    have hg := Lib.index_ge (a.drop at_) [13, 10]
    by_cases hi : Lib.index (a.drop at_) [13, 10] = -1
    · have hb : lines_Split_l1 a ((at_ : Int), (at_ : Int), out) = some (.out (.inl ((at_ : Int), out))) := by
        unfold lines_Split_l1
        simp only [cut_nl h1, Option.bind_some, bytes_Index]
        rw [if_pos (by simp; omega)]
        simp [hi]
      rw [iter_out hb]
      simp [fl_none _ [] hi, longAt]
      omega
    · obtain ⟨k, hk⟩ : ∃ k : Nat, Lib.index (a.drop at_) [13, 10] = (k : Int) := ⟨(Lib.index (a.drop at_) [13, 10]).toNat, by omega⟩
      obtain ⟨hk2, hf⟩ := fl_some _ [] k hk
      simp at hk2
      have hlen : (((a.drop at_).take k).length) = k := by simp; omega
      have hb : lines_Split_l1 a ((at_ : Int), (at_ : Int), out) = some (if 4000 < k then .out (.inr ((at_ : Int), out, 1, (out.length : Int))) else .cont (((at_ + k + 2 : Nat) : Int), ((at_ + k + 2 : Nat) : Int), out ++ [(a.drop at_).take k])) := by
        unfold lines_Split_l1
        simp only [cut_nl h1, Option.bind_some, bytes_Index]
        rw [if_pos (by simp; omega)]
        simp (disch := omega) only [hk, w64_nn, w64_nl, cut_nn, Option.bind_some, show ¬ ((k : Int) < 0) by omega, decide_false, cond_false]
        rw [show at_ + k - at_ = k by omega, show at_ + (k + 2) = at_ + k + 2 by omega]
        simp only [hlen]
        rw [app_ok (by simp; omega)]
        by_cases hl : 4000 < k
        · simp [hl, basic_Fault, show (4000 : Int) < (k : Int) by omega]
        · simp [hl, show ¬ (4000 : Int) < (k : Int) by omega]
      by_cases hl : 4000 < k
      · rw [if_pos hl] at hb
        rw [iter_out hb, hf]
        simp [longAt, hl, hlen, show 4000 < min k (a.length - at_) by omega]
      · rw [if_neg hl] at hb
        rw [iter_cont hb, hf]
        obtain ⟨r, hr, hp⟩ := ih (a.length - (at_ + k + 2)) (by omega) (at_ + k + 2) (out ++ [(a.drop at_).take k]) (by omega) rfl (by simp; omega)
        refine ⟨r, hr, ?_⟩
        simp only [longAt, List.nil_append, hlen, if_neg hl]
        simp only [List.drop_drop, List.length_append, List.length_singleton, List.append_assoc, List.singleton_append, show at_ + (k + 2) = at_ + k + 2 by omega] at hp ⊢
        exact hp

theorem lines_Split_eq (a : List UInt8) : lines_Split a = some (if 40000 < a.length then ([], [], ⟨1, -1⟩) else match longAt 0 (fl [] a).1 with | some i => ([], [], ⟨1, (i : Int)⟩) | none => ((fl [] a).1, (fl [] a).2, ⟨0, 0⟩)) := by
  unfold lines_Split
  by_cases h : 40000 < a.length
  · have : decide ((40000 : Int) < (a.length : Int)) = true := by simp; omega
    simp only [this, cond_true, basic_Fault, Option.bind_some, if_pos h]
  · have : decide ((40000 : Int) < (a.length : Int)) = false := by simp; omega
    simp only [this, cond_false, if_neg h]
    obtain ⟨r, hr, hp⟩ := split_loop a (by omega) _ 0 [] (by omega) rfl (by simp)
    have e : ((0 : Nat) : Int) = 0 := rfl
    rw [e] at hr
    rw [hr]
    simp only [List.drop_zero, List.length_nil, List.nil_append] at hp
    simp only [Option.bind_some]
    have hs := fl_size a []
    have hj := fl_join a []
    cases hl : longAt 0 (fl [] a).1 with
    | some i =>
      rw [hl] at hp
      obtain ⟨t, o, rfl⟩ := hp
      rfl
    | none =>
      rw [hl] at hp
      subst hp
      simp at hs
      simp only []
      rw [cut_nl (by omega)]
      have hd : a.drop (a.length - (fl [] a).2.length) = (fl [] a).2 := by
        simp only [List.nil_append] at hj
        have hx : a.length - (fl [] a).2.length = ((fl [] a).1.flatMap fun x => x ++ [13, 10]).length := by
          have := congrArg List.length hj
          simp only [List.length_append] at this
          omega
        rw [hx]
        have := List.drop_left (l₁ := (fl [] a).1.flatMap fun x => x ++ [13, 10]) (l₂ := (fl [] a).2)
        rw [hj] at this
        exact this
      simp only [Option.bind_some, hd]
      rw [app_ok (by simp; omega)]
      simp [basic_None]
end Go.Proofs.Ytlpmbmilnoncdaa

/- Lines: the reference's lines, lists of strings compared, the closed example, the laws of division. -/
namespace Go.Proofs.Ytlpmbmilnoncdaa
open Go.RowKit
set_option linter.unusedVariables false

theorem R_Strings_eq (a b : List Str) (h : a.length < 9223372036854775807) : R_Strings a b = some (decide (a = b)) := by
  unfold R_Strings
  by_cases hl : a.length = b.length
  · have e : ((a.length : Int) != (b.length : Int)) = false := by simp [hl]
    simp only [e, cond_false]
    rw [iter_list (s0 := (0 : Int)) (S := Unit) (R := Unit ⊕ Bool) a (fun i _ => (i : Int)) (fun i r _ => if r = b.drop i then .inl () else .inr false) ?_ ?_ () rfl]
    · by_cases hab : a = b
      · simp [hab]
      · simp [hab]
    · intro _
      unfold R_Strings_l1
      simp [hl]
    · intro p x r _ hp
      have hlt : p.length < b.length := by rw [← hl, hp]; simp
      have hd : b.drop p.length = b[p.length] :: b.drop (p.length + 1) := by rw [List.drop_eq_getElem_cons hlt]
      have hb : R_Strings_l1 a b (p.length : Int) = some (if x = b[p.length] then .cont ((p.length + 1 : Nat) : Int) else .out (.inr false)) := by
        unfold R_Strings_l1
        simp only [idx_nat, hl]
        rw [List.getElem?_eq_getElem hlt, hp]
        simp (disch := omega) only [getElem_mid, Option.bind_some, show decide ((p.length : Int) < (b.length : Int)) = true by simp; omega, cond_true, w64_nl]
        by_cases hx : x = b[p.length]
        · simp [hx]
        · simp [Bool.cond_eq_ite, hx]
      rw [hb]
      by_cases hx : x = b[p.length]
      · right
        refine ⟨(), by simp [hx], ?_⟩
        have : (x :: r = b.drop p.length) = (r = b.drop (p.length + 1)) := by rw [hd, ← hx, List.cons.injEq, eq_self, true_and]
        simp only [this]
      · left
        have : ¬ (x :: r = b.drop p.length) := by rw [hd, List.cons.injEq]; exact fun h => hx h.1
        simp only [if_neg hx, if_neg this]
  · have e : ((a.length : Int) != (b.length : Int)) = true := by simp; omega
    have hab : a ≠ b := by rintro rfl; exact hl rfl
    simp [e, hab]

theorem lines_loop (b : List UInt8) (hb : b.length < 8796093022208) (n : Nat) : ∀ (from_ i : Nat) (out : List Str), from_ < i → b.length - i = n → out.length ≤ from_ → i ≤ b.length + 1 → from_ ≤ b.length →
    iter (R_Lines_l1 b) ((from_ : Int), (i : Int), out) = some (((b.length - (fl ((b.drop from_).take (i - 1 - from_)) (b.drop (i - 1))).2.length : Nat) : Int), out ++ (fl ((b.drop from_).take (i - 1 - from_)) (b.drop (i - 1))).1) := by
  induction n using Nat.strongRecOn with
  | _ n ih =>
    intro from_ i out h1 h2 h3 h5 h7
    by_cases h4 : i < b.length
    · have e1 : b.drop (i - 1) = b[i - 1] :: b[i] :: b.drop (i + 1) := by
        rw [List.drop_eq_getElem_cons (by omega)]
        congr 1
        rw [show i - 1 + 1 = i by omega, List.drop_eq_getElem_cons h4]
      by_cases hx : b[i - 1] = 13 ∧ b[i] = 10
      · have hbd : R_Lines_l1 b ((from_ : Int), (i : Int), out) = some (.cont (((i + 1 : Nat) : Int), ((i + 1 : Nat) : Int), out ++ [(b.drop from_).take (i - 1 - from_)])) := by
          unfold R_Lines_l1
          simp (disch := omega) only [w64_sl, w64_nl, cut_nn, idx_lt]
          simp only [hx, Option.bind_some]
          rw [app_ok (by simp; omega)]
          simp [h4, h1]
        rw [iter_cont hbd, e1, hx.1, hx.2, fl_hit]
        by_cases h6 : i + 1 < b.length
        · have hbd2 : R_Lines_l1 b (((i + 1 : Nat) : Int), ((i + 1 : Nat) : Int), out ++ [(b.drop from_).take (i - 1 - from_)]) = some (.cont (((i + 1 : Nat) : Int), ((i + 2 : Nat) : Int), out ++ [(b.drop from_).take (i - 1 - from_)])) := by
            unfold R_Lines_l1
            simp (disch := omega) only [w64_sl, w64_nl, idx_lt]
            simp [h6, show (i : Int) + 1 < b.length by omega]
            omega
          rw [iter_cont hbd2, ih (b.length - (i + 2)) (by omega) (i + 1) (i + 2) _ (by omega) rfl (by simp; omega) (by omega) (by omega)]
          simp
        · have hbd2 : R_Lines_l1 b (((i + 1 : Nat) : Int), ((i + 1 : Nat) : Int), out ++ [(b.drop from_).take (i - 1 - from_)]) = some (.out (((i + 1 : Nat) : Int), out ++ [(b.drop from_).take (i - 1 - from_)])) := by
            unfold R_Lines_l1
            simp [h6, show ¬ (i : Int) + 1 < b.length by omega]
          rw [iter_out hbd2]
          have e2 : b.drop (i + 1) = [] := List.drop_of_length_le (by omega)
          simp [e2, fl]
          omega
      · have hbd : R_Lines_l1 b ((from_ : Int), (i : Int), out) = some (.cont ((from_ : Int), ((i + 1 : Nat) : Int), out)) := by
          unfold R_Lines_l1
          simp (disch := omega) only [w64_sl, w64_nl, idx_lt]
          simp (disch := decide) only [Option.bind_some, u8_eq, show decide ((i : Int) < b.length) = true by simp; omega, cond_true]
          by_cases a1 : b[i] = 10
          · have a2 : b[i - 1] ≠ 13 := fun h => hx ⟨h, a1⟩
            simp [Bool.cond_eq_ite, a1, a2]
          · simp [Bool.cond_eq_ite, a1]
        rw [iter_cont hbd, ih (b.length - (i + 1)) (by omega) from_ (i + 1) _ (by omega) rfl h3 (by omega) h7, e1, fl_miss hx]
        have e3 : (b.drop from_).take (i + 1 - 1 - from_) = (b.drop from_).take (i - 1 - from_) ++ [b[i - 1]] := by
          rw [show i + 1 - 1 - from_ = (i - 1 - from_) + 1 by omega, List.take_add_one]
          simp [show from_ + (i - 1 - from_) = i - 1 by omega, List.getElem?_eq_getElem (show i - 1 < b.length by omega)]
        have e4 : b.drop (i + 1 - 1) = b[i] :: b.drop (i + 1) := by
          rw [show i + 1 - 1 = i by omega, List.drop_eq_getElem_cons h4]
        rw [e3, e4]
    · have hbd : R_Lines_l1 b ((from_ : Int), (i : Int), out) = some (.out ((from_ : Int), out)) := by
        unfold R_Lines_l1
        simp [h4]
      rw [iter_out hbd]
      have e5 : fl ((b.drop from_).take (i - 1 - from_)) (b.drop (i - 1)) = ([], b.drop from_) := by
        by_cases h6 : i - 1 < b.length
        · rw [List.drop_eq_getElem_cons h6, show i - 1 + 1 = b.length by omega]
          simp only [List.drop_length, fl, Prod.mk.injEq, true_and]
          have := List.take_append_drop (i - 1 - from_) (b.drop from_)
          rw [List.drop_drop, show from_ + (i - 1 - from_) = i - 1 by omega, List.drop_eq_getElem_cons h6, show i - 1 + 1 = b.length by omega, List.drop_length] at this
          exact this
        · rw [show b.drop (i - 1) = [] from List.drop_of_length_le (by omega)]
          simp only [fl, Prod.mk.injEq, true_and]
          exact List.take_of_length_le (by simp; omega)
      rw [e5]
      simp
      omega

theorem fl_rest (a : List UInt8) : a.drop (a.length - (fl [] a).2.length) = (fl [] a).2 := by
  have hj := fl_join a []
  simp only [List.nil_append] at hj
  have hx : a.length - (fl [] a).2.length = ((fl [] a).1.flatMap fun x => x ++ [13, 10]).length := by
    have := congrArg List.length hj
    simp only [List.length_append] at this
    omega
  rw [hx]
  have := List.drop_left (l₁ := (fl [] a).1.flatMap fun x => x ++ [13, 10]) (l₂ := (fl [] a).2)
  rw [hj] at this
  exact this
theorem R_Lines_eq (b : List UInt8) (hb : b.length < 8796093022208) : R_Lines b = some (fl [] b) := by
  unfold R_Lines
  have := lines_loop b hb _ 0 1 [] (by omega) rfl (by simp) (by omega) (by omega)
  simp only [List.drop_zero, List.nil_append, Nat.sub_self, List.take_zero] at this
  have e : (((0 : Nat) : Int), ((1 : Nat) : Int), ([] : List Str)) = (0, 1, []) := rfl
  rw [e] at this
  rw [this]
  simp only [Option.bind_some]
  rw [cut_nl (by omega), fl_rest]
  rfl
end Go.Proofs.Ytlpmbmilnoncdaa

/- Data as it is sent and received: the plain functions, and what the typed functions compute. -/
namespace Go.Proofs.Ytlpmbmilnoncdaa
open Go.RowKit
set_option linter.unusedVariables false

def dot0 : Str → Bool
  | c :: _ => c == 46
  | [] => false
def dotted (l : Str) : Str := if dot0 l then 46 :: l else l
def undot (l : Str) : Str := if dot0 l then l.drop 1 else l
def stuffed (ls : List Str) : Str := ls.flatMap fun x => dotted x ++ [13, 10]
def lastpart (l : Str) : Str := if l = [46] ∨ l = [46, 13] then [] else undot l
def recv : List UInt8 → Nat → List Str → List UInt8 ⊕ (List UInt8 × Nat)
  | out, used, [] => .inl out
  | out, used, x :: r => if x = [46] then .inr (out, used + x.length + 2) else recv (out ++ undot x ++ [13, 10]) (used + x.length + 2) r

theorem dot0_take (l : Str) : (decide (1 ≤ l.length) && (l.take 1 == [46])) = dot0 l := by
  cases l with
  | nil => rfl
  | cons c r => rw [Bool.eq_iff_iff]; simp [dot0]
theorem HasPrefix_dot (l : Str) : bytes_HasPrefix l [46] = some (dot0 l) := by
  unfold bytes_HasPrefix
  cases l with
  | nil => rfl
  | cons c r =>
    have : cut (c :: r) 0 ((([46] : List UInt8).length : Nat) : Int) = some [c] := by
      rw [cut_0n (by simp)]; rfl
    simp only [this, bytes_Equal, Option.bind_some]
    simp [dot0]
    rw [Bool.cond_eq_ite]
    simp
    omega
theorem TrimPrefix_dot (l : Str) : bytes_TrimPrefix l [46] = some (undot l) := by
  unfold bytes_TrimPrefix undot
  rw [HasPrefix_dot]
  cases h : dot0 l with
  | false => simp
  | true =>
    have hl : 1 ≤ l.length := by cases l with
      | nil => cases h
      | cons c r => simp
    have : cut l ((([46] : List UInt8).length : Nat) : Int) (l.length : Int) = some (l.drop 1) := cut_nl (a := 1) hl
    simp only [Option.bind_some, cond_true, this]
    simp
theorem R_undotted_eq (l : Str) : R_undotted l = some (undot l) := by
  unfold R_undotted undot
  cases l with
  | nil => rfl
  | cons c r =>
    simp (disch := decide) only [idx, u8_eq]
    have : cut (c :: r) 1 (((c :: r).length : Nat) : Int) = some r := by
      have := cut_nl (l := c :: r) (a := 1) (by simp)
      simpa using this
    simp only [this]
    cases hc : (c == 46) <;> simp [hc, dot0, show (0 : Int) < (r.length : Int) + 1 by omega]
theorem HasSuffix_crlf (l : Str) (hl : l.length ≤ 9223372036854775807) : bytes_HasSuffix l [13, 10] = some (decide ([13, 10] <:+ l)) := by
  unfold bytes_HasSuffix
  by_cases h : 2 ≤ l.length
  · have e : w64 ((l.length : Int) - ((([13, 10] : List UInt8).length : Nat) : Int)) = ((l.length - 2 : Nat) : Int) := w64_ns _ _ h hl
    rw [e, cut_nl (by omega)]
    have : decide (((([13, 10] : List UInt8).length : Nat) : Int) ≤ (l.length : Int)) = true := by simp; omega
    simp only [this, cond_true, Option.bind_some, bytes_Equal]
    congr 1
    rw [Bool.eq_iff_iff, decide_eq_true_iff, List.suffix_iff_eq_drop, beq_iff_eq]
    exact eq_comm
  · have : decide (((([13, 10] : List UInt8).length : Nat) : Int) ≤ (l.length : Int)) = false := by simp; omega
    simp only [this, cond_false, Option.bind_some]
    congr 1
    symm
    simp only [decide_eq_false_iff_not]
    intro hs
    have := hs.length_le
    simp at this
    omega

theorem fl_nil_iff (l cur : List UInt8) : (fl cur l).2 = [] ↔ (l = [] ∧ cur = []) ∨ [13, 10] <:+ l := by
  fun_induction fl cur l with
  | case1 cur => simp
  | case2 cur c =>
    simp
    intro h
    have := h.length_le
    simp at this
  | case3 cur c d r h ih =>
    obtain ⟨rfl, rfl⟩ := h
    simp only [ih, List.suffix_cons_iff]
    simp
  | case4 cur c d r h ih =>
    rw [ih, List.suffix_cons_iff (a := c)]
    simp
    intro h1 h2 _
    exact absurd ⟨h1.symm, h2.symm⟩ h

theorem dotted_len (x : Str) : (dotted x).length ≤ x.length + 1 ∧ x.length ≤ (dotted x).length := by unfold dotted; split <;> simp
theorem undot_len (x : Str) : (undot x).length ≤ x.length := by unfold undot; split <;> simp
theorem flat_len (ls : List Str) : (ls.flatMap fun x => x ++ [13, 10]).length ≥ 2 * ls.length := by
  induction ls with
  | nil => simp
  | cons x r ih => simp at ih ⊢; omega
theorem stuffed_len (ls : List Str) : (stuffed ls).length ≤ (ls.flatMap fun x => x ++ [13, 10]).length + ls.length := by
  induction ls with
  | nil => simp [stuffed]
  | cons x r ih =>
    have := (dotted_len x).1
    unfold stuffed at ih ⊢
    simp at ih ⊢
    omega

theorem stuff_loop (a : List UInt8) (ha : a.length ≤ 12000) (n : Nat) : ∀ (at_ : Nat) (out : List UInt8), at_ ≤ a.length → a.length - at_ = n → out.length ≤ 2 * at_ →
    iter (lines_Stuff_l1 a) ((at_ : Int), out) = some (out ++ stuffed (fl [] (a.drop at_)).1) := by
  induction n using Nat.strongRecOn with
  | _ n ih =>
    intro at_ out h1 h2 h3
    have hg := Lib.index_ge (a.drop at_) [13, 10]
    by_cases hi : Lib.index (a.drop at_) [13, 10] = -1
    · have hb : lines_Stuff_l1 a ((at_ : Int), out) = some (.out out) := by
        unfold lines_Stuff_l1
        simp only [cut_nl h1, Option.bind_some, bytes_Index]
        rw [if_pos (by simp; omega)]
        simp [hi]
      rw [iter_out hb]
      simp [fl_none _ [] hi, stuffed]
    · obtain ⟨k, hk⟩ : ∃ k : Nat, Lib.index (a.drop at_) [13, 10] = (k : Int) := ⟨(Lib.index (a.drop at_) [13, 10]).toNat, by omega⟩
      obtain ⟨hk2, hf⟩ := fl_some _ [] k hk
      simp at hk2
      have hlen : (((a.drop at_).take k).length) = k := by simp; omega
      have hd := dotted_len ((a.drop at_).take k)
      have hb : lines_Stuff_l1 a ((at_ : Int), out) = some (.cont (((at_ + k + 2 : Nat) : Int), out ++ (dotted ((a.drop at_).take k) ++ [13, 10]))) := by
        unfold lines_Stuff_l1
        simp only [cut_nl h1, Option.bind_some, bytes_Index]
        rw [if_pos (by simp; omega)]
        simp (disch := omega) only [hk, w64_nn, w64_nl, cut_nn, Option.bind_some, show ¬ ((k : Int) < 0) by omega, decide_false, cond_false]
        rw [show at_ + k - at_ = k by omega, show at_ + (k + 2) = at_ + k + 2 by omega]
        rw [HasPrefix_dot]
        unfold dotted
        cases dot0 ((a.drop at_).take k) with
        | false =>
          simp only [Option.bind_some, cond_false]
          rw [app_ok (by omega)]
          simp only [Option.bind_some]
          rw [app_ok (by simp; omega)]
          simp
        | true =>
          simp only [Option.bind_some, cond_true]
          rw [app_ok (by simp; omega)]
          simp only [Option.bind_some]
          rw [app_ok (by simp; omega)]
          simp only [Option.bind_some]
          rw [app_ok (by simp; omega)]
          simp
      rw [iter_cont hb, ih (a.length - (at_ + k + 2)) (by omega) (at_ + k + 2) _ (by omega) rfl (by simp; omega), hf]
      simp [stuffed, Nat.add_assoc]

theorem lines_Stuff_eq (a : List UInt8) : lines_Stuff a = some (if 12000 < a.length then ([], ⟨1, -1⟩) else if (fl [] a).2 ≠ [] then ([], ⟨5, -2⟩) else (stuffed (fl [] a).1 ++ [46, 13, 10], ⟨0, 0⟩)) := by
  unfold lines_Stuff
  by_cases h : 12000 < a.length
  · have : decide ((12000 : Int) < (a.length : Int)) = true := by simp; omega
    simp only [this, cond_true, basic_Fault, Option.bind_some, if_pos h]
  · have : decide ((12000 : Int) < (a.length : Int)) = false := by simp; omega
    simp only [this, cond_false, if_neg h]
    have hs := fl_size a []
    have e : ((0 : Int), ([] : List UInt8)) = (((0 : Nat) : Int), []) := rfl
    have hl := stuff_loop a (by omega) _ 0 [] (by omega) rfl (by simp)
    rw [HasSuffix_crlf _ (by omega), e, hl]
    have hj : ((bif decide ((0 : Int) < (a.length : Int)) then (some (decide ([13, 10] <:+ a))).bind fun v6 => some (!v6) else some false) : Option Bool) = some (decide ((fl [] a).2 ≠ [])) := by
      have := fl_nil_iff a []
      simp at this
      by_cases h0 : a = []
      · simp [h0, fl]
      · have h1 : 0 < a.length := by cases a with
          | nil => exact absurd rfl h0
          | cons c r => simp
        simp [h1, this, h0]
    rw [hj]
    simp only [Option.bind_some]
    by_cases hr : (fl [] a).2 = []
    · have := stuffed_len (fl [] a).1
      have hjn := fl_join a []
      simp [hr] at hjn
      have hjl := congrArg List.length hjn
      simp at hs
      rw [hr] at hs
      simp [hr, basic_None]
      rw [app_ok]
      · simp
      · simp at hs ⊢
        simp at hjl this
        omega
    · simp [hr, basic_Fault]
end Go.Proofs.Ytlpmbmilnoncdaa

/- Data as it is received; the reference's Sent and Received; the closed example. -/
namespace Go.Proofs.Ytlpmbmilnoncdaa
open Go.RowKit
set_option linter.unusedVariables false

def flatL (ls : List Str) : Str := ls.flatMap fun x => x ++ [13, 10]
theorem flatL_nil : flatL [] = [] := rfl
theorem flatL_cons (x : Str) (r : List Str) : flatL (x :: r) = x ++ 13 :: 10 :: flatL r := by simp [flatL]
theorem flatL_len (x : Str) (r : List Str) : (flatL (x :: r)).length = x.length + 2 + (flatL r).length := by simp [flatL_cons]; omega
theorem fl_joinF (a : List UInt8) : flatL (fl [] a).1 ++ (fl [] a).2 = a := fl_join a []
theorem fl_joinN (a : List UInt8) : (flatL (fl [] a).1).length + (fl [] a).2.length = a.length := by
  have := congrArg List.length (fl_joinF a)
  simpa only [List.length_append] using this
theorem recv_len (ls : List Str) : ∀ (out : List UInt8) (used : Nat), match recv out used ls with
    | .inl o => o.length ≤ out.length + (flatL ls).length
    | .inr (o, n) => o.length ≤ out.length + (flatL ls).length ∧ n ≤ used + (flatL ls).length := by
  induction ls with
  | nil => intro out used; simp [recv]
  | cons x r ih =>
    intro out used
    have hl := flatL_len x r
    by_cases hx : x = [46]
    · have : recv out used (x :: r) = .inr (out, used + x.length + 2) := by rw [recv, if_pos hx]
      rw [this]
      simp only []
      omega
    · have he : recv out used (x :: r) = recv (out ++ undot x ++ [13, 10]) (used + x.length + 2) r := by rw [recv, if_neg hx]
      have := ih (out ++ undot x ++ [13, 10]) (used + x.length + 2)
      have hu := undot_len x
      rw [he]
      cases hr : recv (out ++ undot x ++ [13, 10]) (used + x.length + 2) r with
      | inl o => rw [hr] at this; simp at this ⊢; omega
      | inr y => obtain ⟨o, n⟩ := y; rw [hr] at this; simp at this ⊢; omega

theorem unstuff_loop (a : List UInt8) (ha : a.length ≤ 40000) (n : Nat) : ∀ (at_ : Nat) (out : List UInt8), at_ ≤ a.length → a.length - at_ = n → out.length ≤ at_ →
    ∃ r, iter (lines_Unstuff_l1 a) ((at_ : Int), (at_ : Int), out) = some r ∧ match recv out at_ (fl [] (a.drop at_)).1 with
      | .inl o => r = .inl (((a.length - (fl [] (a.drop at_)).2.length : Nat) : Int), o)
      | .inr (o, m) => ∃ t, r = .inr (t, o, if 12000 < o.length then (1, -2, false, 0, []) else (0, 0, true, (m : Int), o)) := by
  induction n using Nat.strongRecOn with
  | _ n ih =>
    intro at_ out h1 h2 h3
    have hg := Lib.index_ge (a.drop at_) [13, 10]
    by_cases hi : Lib.index (a.drop at_) [13, 10] = -1
    · have hb : lines_Unstuff_l1 a ((at_ : Int), (at_ : Int), out) = some (.out (.inl ((at_ : Int), out))) := by
        unfold lines_Unstuff_l1
        simp only [cut_nl h1, Option.bind_some, bytes_Index]
        rw [if_pos (by simp; omega)]
        simp [hi]
      rw [iter_out hb]
      simp [fl_none _ [] hi, recv]
      omega
    · obtain ⟨k, hk⟩ : ∃ k : Nat, Lib.index (a.drop at_) [13, 10] = (k : Int) := ⟨(Lib.index (a.drop at_) [13, 10]).toNat, by omega⟩
      obtain ⟨hk2, hf⟩ := fl_some _ [] k hk
      simp at hk2
      have hlen : (((a.drop at_).take k).length) = k := by simp; omega
      have hu := undot_len ((a.drop at_).take k)
      by_cases hx : (a.drop at_).take k = [46]
      · have hb : lines_Unstuff_l1 a ((at_ : Int), (at_ : Int), out) = some (.out (.inr (((at_ + k + 2 : Nat) : Int), out, if 12000 < out.length then (1, -2, false, 0, []) else (0, 0, true, ((at_ + k + 2 : Nat) : Int), out)))) := by
          unfold lines_Unstuff_l1
          simp only [cut_nl h1, Option.bind_some, bytes_Index]
          rw [if_pos (by simp; omega)]
          simp (disch := omega) only [hk, w64_nn, w64_nl, cut_nn, Option.bind_some, show ¬ ((k : Int) < 0) by omega, decide_false, cond_false]
          rw [show at_ + k - at_ = k by omega, hx]
          by_cases hl : 12000 < out.length
          · simp [hl, basic_Fault, show (12000 : Int) < (out.length : Int) by omega]
          · simp [hl, basic_None, show ¬ (12000 : Int) < (out.length : Int) by omega]
        rw [iter_out hb, hf]
        simp [recv, hx]
        rw [hx] at hlen
        simp at hlen
        subst hlen
        rfl
      · have hb : lines_Unstuff_l1 a ((at_ : Int), (at_ : Int), out) = some (.cont (((at_ + k + 2 : Nat) : Int), ((at_ + k + 2 : Nat) : Int), out ++ undot ((a.drop at_).take k) ++ [13, 10])) := by
          unfold lines_Unstuff_l1
          simp only [cut_nl h1, Option.bind_some, bytes_Index]
          rw [if_pos (by simp; omega)]
          simp (disch := omega) only [hk, w64_nn, w64_nl, cut_nn, Option.bind_some, show ¬ ((k : Int) < 0) by omega, decide_false, cond_false]
          rw [show at_ + k - at_ = k by omega, show at_ + (k + 2) = at_ + k + 2 by omega]
          rw [TrimPrefix_dot, beq_false_of_ne hx]
          simp only [Option.bind_some, cond_false]
          rw [app_ok (by omega)]
          simp only [Option.bind_some]
          rw [app_ok (by simp; omega)]
          simp
        rw [iter_cont hb, hf]
        obtain ⟨r, hr, hp⟩ := ih (a.length - (at_ + k + 2)) (by omega) (at_ + k + 2) (out ++ undot ((a.drop at_).take k) ++ [13, 10]) (by omega) rfl (by simp; omega)
        refine ⟨r, hr, ?_⟩
        simp only [recv, List.nil_append, if_neg hx, hlen]
        simp only [List.drop_drop, show at_ + (k + 2) = at_ + k + 2 by omega] at hp ⊢
        exact hp

def unstuffed (a : List UInt8) : List UInt8 × Int × Bool × TFault :=
  if 40000 < a.length then ([], 0, false, ⟨1, -1⟩) else match recv [] 0 (fl [] a).1 with
    | .inl o => if 12000 < o.length + (lastpart (fl [] a).2).length then ([], 0, false, ⟨1, -2⟩) else ([], 0, false, ⟨0, 0⟩)
    | .inr (o, n) => if 12000 < o.length then ([], 0, false, ⟨1, -2⟩) else (o, (n : Int), true, ⟨0, 0⟩)

theorem lines_Unstuff_eq (a : List UInt8) : lines_Unstuff a = some (unstuffed a) := by
  unfold lines_Unstuff unstuffed
  by_cases h : 40000 < a.length
  · have : decide ((40000 : Int) < (a.length : Int)) = true := by simp; omega
    simp only [this, cond_true, basic_Fault, Option.bind_some, if_pos h]
  · have : decide ((40000 : Int) < (a.length : Int)) = false := by simp; omega
    simp only [this, cond_false, if_neg h]
    obtain ⟨r, hr, hp⟩ := unstuff_loop a (by omega) _ 0 [] (by omega) rfl (by simp)
    have e : ((0 : Int), (0 : Int), ([] : List UInt8)) = (((0 : Nat) : Int), ((0 : Nat) : Int), []) := rfl
    rw [e, hr]
    simp only [List.drop_zero] at hp
    simp only [Option.bind_some]
    have hs := fl_size a []
    have hj := fl_joinN a
    have hrl := recv_len (fl [] a).1 [] 0
    cases hl : recv [] 0 (fl [] a).1 with
    | inr x =>
      obtain ⟨o, m⟩ := x
      rw [hl] at hp
      obtain ⟨t, rfl⟩ := hp
      simp only []
      split <;> rfl
    | inl o =>
      rw [hl] at hp hrl
      subst hp
      simp only [] at hrl ⊢
      rw [cut_nl (by omega), fl_rest]
      have hu := undot_len (fl [] a).2
      simp at hs
      simp at hrl
      have hx : ((some (fl [] a).2).bind fun v29 => ((bif (v29 != ([46] : Str)) then some ((v29 != ([46, 13] : Str))) else some false) : Option Bool).bind fun (j31 : Bool) => (bif j31 then (some (fl [] a).2).bind fun v34 => (bytes_TrimPrefix v34 (([(46 : UInt8)] : List UInt8))).bind fun v36 => some ((w64 ((o.length : Int) + (v36.length : Int)))) else some ((o.length : Int)))) = some (((o.length + (lastpart (fl [] a).2).length : Nat) : Int)) := by
        simp only [Option.bind_some, TrimPrefix_dot]
        rw [w64_nn _ _ (by omega)]
        unfold lastpart
        by_cases h1 : (fl [] a).2 = [46]
        · simp [h1]
        · by_cases h2 : (fl [] a).2 = [46, 13]
          · simp [h2]
          · simp [Bool.cond_eq_ite, h1, h2]
      rw [hx]
      simp only [Option.bind_some]
      by_cases h3 : 12000 < o.length + (lastpart (fl [] a).2).length
      · have : decide ((12000 : Int) < ((o.length + (lastpart (fl [] a).2).length : Nat) : Int)) = true := by simp; omega
        simp only [this, cond_true, basic_Fault, Option.bind_some, if_pos h3]
      · have : decide ((12000 : Int) < ((o.length + (lastpart (fl [] a).2).length : Nat) : Int)) = false := by simp; omega
        simp only [this, cond_false, basic_None, Option.bind_some, if_neg h3]

theorem R_Received_eq (a : List UInt8) (ha : a.length < 8796093022208) : R_Received a = some (match recv [] 0 (fl [] a).1 with
    | .inl o => ([], 0, decide (12000 < o.length + (lastpart (fl [] a).2).length))
    | .inr (o, n) => (o, (n : Int), decide (12000 < o.length))) := by
  unfold R_Received
  rw [R_Lines_eq a ha]
  simp only [Option.bind_some]
  have hs := fl_size a []
  have hj := fl_joinN a
  simp at hs
  rw [iter_listI (s0 := ((0 : Int), (0 : Int), ([] : List UInt8))) (S := Nat × List UInt8) (R := (List UInt8) ⊕ ((List UInt8) × Int × Bool)) (fl [] a).1 (fun i s => ((s.1 : Int), (i : Int), s.2))
    (fun i r s => match recv s.2 s.1 r with | .inl o => .inl o | .inr (o, n) => .inr (o, (n : Int), decide (12000 < o.length)))
    (fun i r s => s.1 + (flatL r).length ≤ a.length ∧ s.2.length ≤ s.1) ?_ ?_ (0, []) rfl ?_]
  · have hrl := recv_len (fl [] a).1 [] 0
    cases hl : recv [] 0 (fl [] a).1 with
    | inr x => rfl
    | inl o =>
      rw [hl] at hrl
      simp only [] at hrl ⊢
      have hu := undot_len (fl [] a).2
      rw [R_undotted_eq]
      have hx : (((bif ((fl [] a).2 == ([46] : Str)) then some true else some (((fl [] a).2 == ([46, 13] : Str)))) : Option Bool).bind fun (j25 : Bool) => (bif j25 then some (([] : Str)) else some (undot (fl [] a).2))) = some (lastpart (fl [] a).2) := by
        unfold lastpart
        by_cases h1 : (fl [] a).2 = [46]
        · simp [h1]
        · by_cases h2 : (fl [] a).2 = [46, 13]
          · simp [h2]
          · simp [Bool.cond_eq_ite, h1, h2]
      simp only [Option.bind_some, hx]
      have hlp : (lastpart (fl [] a).2).length ≤ (fl [] a).2.length := by
        unfold lastpart
        split
        · simp
        · omega
      simp at hrl
      rw [w64_nn _ _ (by omega)]
      have : decide ((12000 : Int) < ((o.length + (lastpart (fl [] a).2).length : Nat) : Int)) = decide (12000 < o.length + (lastpart (fl [] a).2).length) := by rw [decide_eq_decide]; omega
      rw [this]
  · intro s hi
    unfold R_Received_l1
    simp [recv]
  · intro p x r s hp hi
    obtain ⟨h1, h2⟩ := hi
    rw [flatL_len] at h1
    have hu := undot_len x
    have hlt : p.length < (fl [] a).1.length := by rw [hp]; simp
    by_cases hx : x = [46]
    · left
      unfold R_Received_l1
      simp only [idx_nat, hp, getElem_mid, Option.bind_some]
      simp (disch := omega) only [w64_nn, w64_nl]
      have hd : decide ((12000 : Int) < (s.2.length : Int)) = decide (12000 < s.2.length) := by rw [decide_eq_decide]; omega
      simp only [lt_mid, cond_true, hx, beq_self_eq_true, recv, if_true, hd]
    · right
      refine ⟨(s.1 + x.length + 2, s.2 ++ undot x ++ [13, 10]), ?_, ?_, ?_⟩
      · unfold R_Received_l1
        simp only [idx_nat, hp, getElem_mid, R_undotted_eq, beq_false_of_ne hx, Option.bind_some, cond_false]
        simp (disch := omega) only [w64_nn, w64_nl]
        rw [app_ok (by omega)]
        simp only [Option.bind_some]
        rw [app_ok (by simp; omega)]
        simp only [Option.bind_some, lt_mid, cond_true]
      · simp only [recv, if_neg hx]
      · simp; omega
  · simp; omega

def sentL : List Str → Str
  | [] => []
  | [x] => dotted x
  | x :: y :: r => dotted x ++ [13, 10] ++ sentL (y :: r)
theorem sentL_stuffed (ls : List Str) : sentL (ls ++ [[]]) = stuffed ls := by
  induction ls with
  | nil => rfl
  | cons x r ih =>
    cases r with
    | nil => simp [sentL, stuffed, dotted, dot0]
    | cons y r => simp only [List.cons_append, sentL] at ih ⊢; rw [ih]; simp [stuffed]
theorem R_Sent_eq (a : List UInt8) (ha : a.length < 1099511627776) : R_Sent a = some (sentL ((fl [] a).1 ++ [(fl [] a).2]) ++ [46, 13, 10]) := by
  unfold R_Sent
  have hl : R_Sent_l1 a = R_Lines_l1 a := rfl
  have h0 := lines_loop a (by omega) _ 0 1 [] (by omega) rfl (by simp) (by omega) (by omega)
  simp only [List.drop_zero, List.nil_append, Nat.sub_self, List.take_zero] at h0
  have e : (((0 : Nat) : Int), ((1 : Nat) : Int), ([] : List Str)) = (0, 1, []) := rfl
  rw [e] at h0
  have hs := fl_size a []
  have hj := fl_joinN a
  simp at hs
  rw [hl, h0]
  simp only [Option.bind_some]
  rw [cut_nl (by omega), fl_rest]
  simp only [Option.bind_some]
  rw [app_ok (by simp; omega)]
  simp only [Option.bind_some]
  have hsl : ∀ ls : List Str, (sentL ls).length ≤ (flatL ls).length + ls.length := by
    intro ls
    fun_induction sentL ls with
    | case1 => simp
    | case2 x => have := (dotted_len x).1; rw [flatL_len]; simp; omega
    | case3 x y r ih => have := (dotted_len x).1; rw [flatL_len]; simp at ih ⊢; omega
  have hb := hsl ((fl [] a).1 ++ [(fl [] a).2])
  have hfl : (flatL ((fl [] a).1 ++ [(fl [] a).2])).length = (flatL (fl [] a).1).length + (fl [] a).2.length + 2 := by unfold flatL; rw [List.flatMap_append]; simp; omega
  simp only [List.length_append, List.length_singleton] at hb
  rw [iter_listI (s0 := ((0 : Int), ([] : List UInt8))) (S := List UInt8) (R := List UInt8) ((fl [] a).1 ++ [(fl [] a).2]) (fun i s => ((i : Int), s)) (fun i r s => s ++ sentL r)
    (fun i r s => s.length + (sentL r).length ≤ 3 * a.length + 100) ?_ ?_ [] rfl ?_]
  · simp only [Option.bind_some]
    rw [app_ok (by simp; omega)]
    simp
  · intro s hi
    unfold R_Sent_l2
    simp [sentL]
  · intro p x r s hp hi
    right
    have hd := dotted_len x
    have hlt : p.length + 1 ≤ (fl [] a).1.length + 1 := by have := congrArg List.length hp; simp at this; omega
    have hlen : ((fl [] a).1 ++ [(fl [] a).2]).length = p.length + 1 + r.length := by rw [hp]; simp; omega
    have hdo : ((((some x).bind fun v29 => (bif decide (0 < (v29.length : Int)) then (some x).bind fun v32 => (idx v32 0).bind fun v34 => some (((v34.toNat : Int) == 46)) else some false) : Option Bool)) = some (dot0 x)) := by
      cases x with
      | nil => rfl
      | cons c q =>
        have : decide ((0 : Int) < ((c :: q).length : Int)) = true := by simp
        simp (disch := decide) only [idx_lit, dot0, u8_eq, this, Option.bind_some, cond_true]
        rfl
    have hsx : s.length + (dotted x).length + (if r = [] then 0 else 2) ≤ 3 * a.length + 100 := by
      cases r with
      | nil => simpa [sentL] using hi
      | cons y r => simp [sentL] at hi ⊢; omega
    refine ⟨s ++ dotted x ++ (if r = [] then [] else [13, 10]), ?_, ?_, ?_⟩
    · unfold R_Sent_l2
      simp only [idx_nat, hp, getElem_mid]
      rw [← hp, hlen, hdo]
      have hlt2 : decide ((p.length : Int) < ((p.length + 1 + r.length : Nat) : Int)) = true := by simp; omega
      have hc : ((bif dot0 x then (app 140737488355328 s [46]).bind fun v37 => some v37 else some s) : Option (List UInt8)) = some (s ++ (if dot0 x then [46] else [])) := by
        cases hx : dot0 x with
        | false => simp
        | true =>
          simp only [dotted, hx, if_true, List.length_cons] at hsx
          simp only [cond_true]
          rw [app_ok (by simp; omega)]
          simp
      have hdl : (s ++ (if dot0 x then [46] else [])).length + x.length = s.length + (dotted x).length := by unfold dotted; cases dot0 x <;> simp <;> omega
      have hde : (s ++ (if dot0 x then [46] else [])) ++ x = s ++ dotted x := by unfold dotted; cases dot0 x <;> simp
      simp (disch := omega) only [w64_nl, hlt2, cond_true, Option.bind_some, hc]
      rw [app_ok (by omega)]
      simp only [Option.bind_some, hde]
      cases r with
      | nil => simp
      | cons y r =>
        have : decide (((p.length + 1 : Nat) : Int) < ((p.length + 1 + (y :: r).length : Nat) : Int)) = true := by simp; omega
        simp only [this, cond_true]
        rw [app_ok (by simp at hsx ⊢; omega)]
        simp
    · cases r with
      | nil => simp [sentL]
      | cons y r => simp [sentL]
    · cases r with
      | nil => simp [sentL] at hi ⊢; omega
      | cons y r => simp [sentL] at hi ⊢; omega
  · simp; omega
end Go.Proofs.Ytlpmbmilnoncdaa

/- Lines: the closed example, streams that are joined, the four laws as plain statements. -/
namespace Go.Proofs.Ytlpmbmilnoncdaa
open Go.RowKit
set_option linter.unusedVariables false

theorem L_splits_eq : L_splits = some true := by
  unfold L_splits
  simp only [lines_Split_eq, lines_Stuff_eq, lines_Unstuff_eq, R_At, Option.bind_some]
  rw [R_Strings_eq _ _ (by decide)]
  decide

/-- no end of a line inside -/
def noCR : Str → Bool
  | c :: d :: r => !(c == 13 && d == 10) && noCR (d :: r)
  | _ => true
theorem noCR_cons2 {c d : UInt8} {r : Str} : noCR (c :: d :: r) = true ↔ ¬ (c = 13 ∧ d = 10) ∧ noCR (d :: r) = true := by
  rw [noCR, Bool.and_eq_true]
  by_cases h1 : c = 13 <;> by_cases h2 : d = 10 <;> simp [h1, h2]
theorem fl_noCR (l : Str) : ∀ cur, noCR l = true → fl cur l = ([], cur ++ l) := by
  induction l with
  | nil => intro cur _; simp [fl]
  | cons c r ih =>
    intro cur h
    cases r with
    | nil => simp [fl]
    | cons d r =>
      obtain ⟨h1, h2⟩ := noCR_cons2.1 h
      rw [fl_miss h1, ih _ h2]
      simp
theorem fl_line (l : Str) : ∀ cur r, noCR l = true → fl cur (l ++ 13 :: 10 :: r) = ((cur ++ l) :: (fl [] r).1, (fl [] r).2) := by
  induction l with
  | nil => intro cur r _; simp [fl_hit]
  | cons c l ih =>
    intro cur r h
    cases l with
    | nil =>
      simp only [List.cons_append, List.nil_append]
      rw [fl_miss (by rintro ⟨_, h⟩; cases h), fl_hit]
    | cons d l =>
      obtain ⟨h1, h2⟩ := noCR_cons2.1 h
      simp only [List.cons_append]
      rw [fl_miss h1]
      have := ih (cur ++ [c]) r h2
      simp only [List.cons_append] at this
      rw [this]
      simp
theorem noCR_snoc (l : Str) (c d : UInt8) : noCR (l ++ [c]) = true → ¬ (c = 13 ∧ d = 10) → noCR (l ++ [c, d]) = true := by
  induction l with
  | nil => intro _ h; simp only [List.nil_append]; exact noCR_cons2.2 ⟨h, rfl⟩
  | cons x l ih =>
    intro h1 h2
    cases l with
    | nil =>
      simp only [List.nil_append, List.cons_append] at h1 ih ⊢
      obtain ⟨a, b⟩ := noCR_cons2.1 h1
      exact noCR_cons2.2 ⟨a, ih b h2⟩
    | cons y l =>
      simp only [List.cons_append] at h1 ih ⊢
      obtain ⟨a, b⟩ := noCR_cons2.1 h1
      exact noCR_cons2.2 ⟨a, ih b h2⟩
theorem noCR_pre (l m : Str) : noCR (l ++ m) = true → noCR l = true := by
  induction l with
  | nil => intro _; rfl
  | cons x l ih =>
    intro h
    cases l with
    | nil => rfl
    | cons y l =>
      simp only [List.cons_append] at h ih
      obtain ⟨a, b⟩ := noCR_cons2.1 h
      exact noCR_cons2.2 ⟨a, ih b⟩
theorem fl_lines (l cur : Str) : noCR (cur ++ l.take 1) = true → ∀ x ∈ (fl cur l).1, noCR x = true := by
  fun_induction fl cur l with
  | case1 cur => simp
  | case2 cur c => simp
  | case3 cur c d r h ih =>
    intro hc x hx
    rcases List.mem_cons.1 hx with rfl | hx
    · exact noCR_pre _ _ hc
    · refine ih ?_ x hx
      cases r <;> rfl
  | case4 cur c d r h ih =>
    intro hc
    refine ih ?_
    have := noCR_snoc cur c d (by simpa using hc) h
    simpa using this
theorem fl_lines0 (l : Str) : ∀ x ∈ (fl [] l).1, noCR x = true := fl_lines l [] (by cases l <;> rfl)
theorem noCR_dotted {x : Str} (h : noCR x = true) : noCR (dotted x) = true := by
  unfold dotted
  split
  · cases x with
    | nil => rfl
    | cons c r => exact noCR_cons2.2 ⟨(by rintro ⟨h, _⟩; cases h), h⟩
  · exact h
theorem dotted_ne (x : Str) : dotted x ≠ [46] := by
  unfold dotted
  cases x with
  | nil => simp [dot0]
  | cons c r =>
    by_cases h : c = 46
    · simp [dot0, h]
    · simp [dot0, h]
theorem undot_dotted (x : Str) : undot (dotted x) = x := by
  unfold dotted undot
  cases h : dot0 x with
  | false => simp [h]
  | true => simp [dot0]

theorem stuffed_cons (x : Str) (r : List Str) : stuffed (x :: r) = dotted x ++ 13 :: 10 :: stuffed r := by simp [stuffed]
theorem fl_stuffed (ls : List Str) (h : ∀ x ∈ ls, noCR x = true) (r : Str) : fl [] (stuffed ls ++ 46 :: 13 :: 10 :: r) = (ls.map dotted ++ [46] :: (fl [] r).1, (fl [] r).2) := by
  induction ls with
  | nil =>
    have := fl_line [46] [] r rfl
    simpa [stuffed] using this
  | cons x ls ih =>
    have hx := fl_line (dotted x) [] (stuffed ls ++ 46 :: 13 :: 10 :: r) (noCR_dotted (h x (List.mem_cons_self ..)))
    rw [stuffed_cons, List.append_assoc, List.cons_append, List.cons_append, hx, ih fun y hy => h y (List.mem_cons_of_mem _ hy)]
    simp
theorem recv_dotted (ls more : List Str) : ∀ out used, recv out used (ls.map dotted ++ [46] :: more) = .inr (out ++ flatL ls, used + (stuffed ls).length + 3) := by
  induction ls with
  | nil => intro out used; simp [recv, flatL, stuffed]
  | cons x ls ih =>
    intro out used
    simp only [List.map_cons, List.cons_append, recv, if_neg (dotted_ne x), undot_dotted]
    rw [ih, flatL_cons, stuffed_cons]
    simp
    omega

theorem pre_open (ls : List Str) (h : ∀ x ∈ ls, noCR x = true) : ∀ (p q : Str) (out : Str) (used : Nat), p ++ q = stuffed ls ++ [46, 13, 10] → q ≠ [] →
    ∃ o, recv out used (fl [] p).1 = .inl o ∧ o.length + (lastpart (fl [] p).2).length ≤ out.length + (flatL ls).length := by
  induction ls with
  | nil =>
    intro p q out used hp hq
    have hp : p ++ q = [46, 13, 10] := hp
    match p, hp with
    | [], _ => exact ⟨out, rfl, by simp [fl, lastpart, undot, dot0]⟩
    | [a], hp => cases hp; exact ⟨out, rfl, by simp [fl, lastpart]⟩
    | [a, b], hp => cases hp; exact ⟨out, rfl, by simp [fl, lastpart]⟩
    | a :: b :: c :: p, hp =>
      exfalso
      have := congrArg List.length hp
      have h0 : 0 < q.length := by cases q with
        | nil => exact absurd rfl hq
        | cons _ _ => simp
      simp only [List.length_append, List.length_cons, List.length_nil] at this
      omega
  | cons x ls ih =>
    intro p q out used hp hq
    have hx := h x (List.mem_cons_self ..)
    rw [stuffed_cons] at hp
    rw [flatL_len]
    by_cases hl : (dotted x).length + 2 ≤ p.length
    · obtain ⟨p', rfl⟩ : ∃ p', p = dotted x ++ 13 :: 10 :: p' := by
        refine ⟨p.drop ((dotted x).length + 2), ?_⟩
        have := congrArg (List.take ((dotted x).length + 2)) hp
        rw [List.take_append_of_le_length hl] at this
        have h2 : (dotted x ++ 13 :: 10 :: stuffed ls ++ [46, 13, 10]).take ((dotted x).length + 2) = dotted x ++ [13, 10] := by
          rw [show dotted x ++ 13 :: 10 :: stuffed ls ++ [46, 13, 10] = (dotted x ++ [13, 10]) ++ (stuffed ls ++ [46, 13, 10]) by simp]
          rw [List.take_append_of_le_length (by simp), List.take_of_length_le (by simp)]
        rw [h2] at this
        have h3 := List.take_append_drop ((dotted x).length + 2) p
        rw [this] at h3
        rw [← h3]
        simp
      have hp' : p' ++ q = stuffed ls ++ [46, 13, 10] := by simpa using hp
      rw [fl_line _ _ _ (noCR_dotted hx)]
      simp only [recv, List.nil_append, if_neg (dotted_ne x), undot_dotted]
      obtain ⟨o, h1, h2⟩ := ih (fun y hy => h y (List.mem_cons_of_mem _ hy)) p' q (out ++ x ++ [13, 10]) (used + (dotted x).length + 2) hp' hq
      refine ⟨o, h1, ?_⟩
      simp at h2
      omega
    · have hd := dotted_len x
      have hn : noCR p = true := by
        have h4 : noCR (dotted x ++ [13]) = true := by
          have h5 := noCR_dotted hx
          generalize dotted x = y at h5 ⊢
          clear hp hl hd
          induction y with
          | nil => rfl
          | cons c y ih2 =>
            cases y with
            | nil => exact noCR_cons2.2 ⟨(by rintro ⟨_, h⟩; cases h), rfl⟩
            | cons d y => obtain ⟨a, b⟩ := noCR_cons2.1 h5; exact noCR_cons2.2 ⟨a, ih2 b⟩
        have h6 := congrArg (List.take p.length) hp
        rw [List.take_left] at h6
        rw [show dotted x ++ 13 :: 10 :: stuffed ls ++ [46, 13, 10] = (dotted x ++ [13]) ++ (10 :: stuffed ls ++ [46, 13, 10]) by simp, List.take_append_of_le_length (by simp; omega)] at h6
        have h7 := List.take_append_drop p.length (dotted x ++ [13])
        rw [← h6] at h7
        rw [← h7] at h4
        exact noCR_pre _ _ h4
      rw [fl_noCR _ _ hn]
      refine ⟨out, rfl, ?_⟩
      have hu := undot_len p
      have hlp : (lastpart p).length ≤ x.length + 2 := by
        have h8 := congrArg (List.take 1) hp
        unfold lastpart
        split
        · simp
        · unfold dotted at hl hd
          unfold undot
          split
          · rename_i hdp
            simp
            split at hl <;> (simp at hl; omega)
          · split at hl
            · rename_i hdx hdp2
              cases p with
              | nil => simp
              | cons c p =>
                exfalso
                rw [dotted, if_pos hdp2] at hp
                simp at hp
                exact hdx (by simp [dot0, hp.1])
            · omega
      simp
      omega
def splitS (a : List UInt8) : List Str × List UInt8 × TFault := if 40000 < a.length then ([], [], ⟨1, -1⟩) else match longAt 0 (fl [] a).1 with | some i => ([], [], ⟨1, (i : Int)⟩) | none => ((fl [] a).1, (fl [] a).2, ⟨0, 0⟩)
theorem lines_Split_S (a : List UInt8) : lines_Split a = some (splitS a) := lines_Split_eq a
def stuffS (a : List UInt8) : List UInt8 × TFault := if 12000 < a.length then ([], ⟨1, -1⟩) else if (fl [] a).2 ≠ [] then ([], ⟨5, -2⟩) else (stuffed (fl [] a).1 ++ [46, 13, 10], ⟨0, 0⟩)
theorem lines_Stuff_S (a : List UInt8) : lines_Stuff a = some (stuffS a) := lines_Stuff_eq a
theorem dec_lt (k n : Nat) : decide ((no_index (OfNat.ofNat k : Int)) < (n : Int)) = decide (OfNat.ofNat k < n) := by
  rw [decide_eq_decide]
  have e : (OfNat.ofNat k : Int) = ((OfNat.ofNat k : Nat) : Int) := rfl
  rw [e]; omega
theorem bkL_one {α : Type} (l : List α) : bkL (fun _ => 1) l = l.length + 1 := by
  induction l with
  | nil => rfl
  | cons x r ih => simp [bkL, ih]; omega
theorem splits_t {α : Type} (f : Bool → Option α) : L_splits.bind f = f true := by rw [L_splits_eq]; rfl
end Go.Proofs.Ytlpmbmilnoncdaa

/- The law LinesMatchSpec, as a plain statement. -/
namespace Go.Proofs.Ytlpmbmilnoncdaa
open Go.RowKit
set_option linter.unusedVariables false
theorem L_LinesMatchSpec_true (a0 : List UInt8) (o0 : okL (fun _ => True) a0) (hk : bkL (fun _ => 1) a0 ≤ 1048576) : L_LinesMatchSpec a0 = some true := by
  rw [bkL_one] at hk
  unfold L_LinesMatchSpec
  rw [lines_Split_S]
  simp only [Option.bind_some, L_splits_eq, Bool.not_true, cond_false]
  by_cases h : 40000 < a0.length
  · have : decide ((40000 : Int) < (a0.length : Int)) = true := by simp; omega
    simp [this, h, R_At, allEq, splitS]
  · have : decide ((40000 : Int) < (a0.length : Int)) = false := by simp; omega
    simp only [this, cond_false]
    rw [R_Lines_eq _ (by omega)]
    simp only [Option.bind_some]
    have hs := fl_size a0 []
    simp at hs
    have hv : splitS a0 = match longAt 0 (fl [] a0).1 with | some i => ([], [], ⟨1, (i : Int)⟩) | none => ((fl [] a0).1, (fl [] a0).2, ⟨0, 0⟩) := by
      unfold splitS; first | exact if_neg h | (rw [if_neg h]; rfl) | rw [if_neg h]
    generalize splitS a0 = v at hv
    rw [iter_list (s0 := (0 : Int)) (S := Unit) (R := Unit ⊕ Bool) (fl [] a0).1 (fun i _ => (i : Int)) (fun i r _ => match longAt i r with | some j => .inr (allEq [(v.2.2.Code == 1), (v.2.2.Index == (j : Int))] && ((v.1.length : Int) == 0) && ((v.2.1.length : Int) == 0)) | none => .inl ()) ?_ ?_ () rfl]
    · cases hl : longAt 0 (fl [] a0).1 with
      | some j => rw [hl] at hv; subst hv; simp [allEq]
      | none => rw [hl] at hv; subst hv; simp [R_Strings_eq _ _ (show (fl [] a0).1.length < 9223372036854775807 by omega)]
    · intro _
      unfold L_LinesMatchSpec_l1
      simp [longAt]
    · intro p x r _ hp
      have hlen : (fl [] a0).1.length = p.length + 1 + r.length := by rw [hp]; simp; omega
      unfold L_LinesMatchSpec_l1
      simp only [idx_nat, hp, getElem_mid, lt_mid, cond_true, Option.bind_some, longAt, R_At]
      by_cases hx : 4000 < x.length
      · left
        have : decide ((4000 : Int) < (x.length : Int)) = true := by simp; omega
        simp only [this, cond_true, if_pos hx]
        generalize allEq _ = e1
        generalize ((v.1.length : Int) == 0) = e2
        generalize ((v.2.1.length : Int) == 0) = e3
        cases e1 <;> cases e2 <;> cases e3 <;> rfl
      · right
        have : decide ((4000 : Int) < (x.length : Int)) = false := by simp; omega
        refine ⟨(), ?_, ?_⟩
        · simp (disch := omega) only [this, cond_false, w64_nl]
        · simp only [if_neg hx]
end Go.Proofs.Ytlpmbmilnoncdaa

/- A function of the program computes what its Lean function does. Written by program. -/
namespace Go.Proofs.Ytlpmbmilnoncdaa
open Go.RowKit
set_option maxRecDepth 100000
set_option maxHeartbeats 40000000
set_option linter.unusedVariables false
theorem R_At_run (a0 : Int) (a1 : Int) (r : TFault) (hr : R_At a0 a1 = some r) : Run Try.prog 19 [.i a0, .i a1] (.agg [.i r.Code, .i r.Index]) := by
  unfold R_At at hr
  refine run_of_awp (fn := Try.f19) ⟨Try.func19, rfl, by kernel_rfl⟩ rfl (fun _ => rfl) fun g0 hg => ?_
  refine awp_seq ?_
  refine awp_region ?_
  refine awpl_op rfl (opTo_alloc (k := 4) 4 rfl ty_api_Fault (.inr ⟨rfl, rfl⟩) rfl rfl rfl) ?_
  refine awpl_nil ?_
  refine kthen_normal ?_
  refine awp_seq ?_
  refine awp_region ?_
  refine awpl_op rfl (opTo_q (d := 5) rfl rfl ev_move) ?_
  refine awpl_op rfl (opTo_q (d := 6) rfl rfl ev_move) ?_
  refine awpl_op rfl (opTo_q (d := 7) rfl rfl (ev_build ty_api_Fault pl_api_Fault (.inr ⟨rfl, rfl⟩) rfl)) ?_
  refine awpl_op rfl (opTo_store rfl rfl rfl ty_api_Fault rfl rfl) ?_
  refine awpl_nil ?_
  refine kthen_normal ?_
  refine awp_ret ?_
  cases hr
  exact kret' rfl (.cons (res_cellN rfl rfl ty_api_Fault rfl rfl) .nil) rfl
end Go.Proofs.Ytlpmbmilnoncdaa

/- A function of the program computes what its Lean function does. Written by program. -/
namespace Go.Proofs.Ytlpmbmilnoncdaa
open Go.RowKit
set_option maxRecDepth 100000
set_option maxHeartbeats 40000000
set_option linter.unusedVariables false
theorem R_Strings_run (a0 : List Str) (a1 : List Str) (r : Bool) (hr : R_Strings a0 a1 = some r) : Run Try.prog 23 [.l cS a0, .l cS a1] (.bo r) := by
  unfold R_Strings at hr
  refine run_of_awp (fn := Try.f23) ⟨Try.func23, rfl, by kernel_rfl⟩ rfl (fun _ => rfl) fun g0 hg => ?_
  refine awp_seq ?_
  refine awp_region ?_
  refine awpl_op rfl (opTo_q (d := 4) rfl rfl ev_assign) ?_
  refine awpl_nil ?_
  refine kthen_normal ?_
  refine awp_seq ?_
  refine awp_seq ?_
  refine awp_region ?_
  refine awpl_op rfl (opTo_q (d := 6) rfl rfl ev_move) ?_
  refine awpl_op rfl (opTo_q (d := 7) rfl rfl (ev_llen (f := cS) rfl ty_s_string.u)) ?_
  refine awpl_op rfl (opTo_q (d := 8) rfl rfl ev_move) ?_
  refine awpl_op rfl (opTo_q (d := 9) rfl rfl (ev_llen (f := cS) rfl ty_s_string.u)) ?_
  refine awpl_op rfl (opTo_q (d := 10) rfl rfl (ev_neq rfl rfl)) ?_
  refine awpl_nil ?_
  refine kthen_normal ?_
  refine awp_cond rfl (fun c1 => ?_) (fun c1 => ?_)
  · replace hr := cond_t c1 hr
    refine awp_seq ?_
    refine awp_region ?_
    refine awpl_op rfl (opTo_q (d := 4) rfl rfl ev_assign) ?_
    refine awpl_nil ?_
    refine kthen_normal ?_
    refine awp_ret ?_
    refine kthen_ret ?_
    cases hr
    exact kret' rfl (.cons (res_tmp rfl) .nil) rfl
  · replace hr := cond_f c1 hr
    refine awp_skip ?_
    refine kthen_normal ?_
    refine awp_seq ?_
    refine awp_seq ?_
    refine awp_region ?_
    refine awpl_op rfl (opTo_q (d := 5) rfl rfl ev_assign) ?_
    refine awpl_nil ?_
    refine kthen_normal ?_
    refine awp_block ?_
    obtain ⟨o5, hl, hr⟩ := bind_some hr
    refine awp_loop (R_Strings_l1 a0 a1) (fun s2 => [(0, .l cS a0), (1, .l cS a1), (5, .i s2)]) (fun s2 => []) (fun o => match o with | .inl b3 => At (.exit 0) [] [] | .inr b4 => At .ret [(4, .bo b4)] []) ?_ 0 hl (frLe_cons rfl (frLe_cons rfl (frLe_cons rfl frLe_nil))) stoLe_nil ?_
    · intro s2 x6 hr
      unfold R_Strings_l1 at hr
      refine awp_seq ?_
      refine awp_seq ?_
      refine awp_region ?_
      refine awpl_op rfl (opTo_q (d := 11) rfl rfl ev_move) ?_
      refine awpl_op rfl (opTo_q (d := 12) rfl rfl ev_move) ?_
      refine awpl_op rfl (opTo_q (d := 13) rfl rfl (ev_llen (f := cS) rfl ty_s_string.u)) ?_
      refine awpl_op rfl (opTo_q (d := 14) rfl rfl (ev_lss rfl rfl)) ?_
      refine awpl_nil ?_
      refine kthen_normal ?_
      refine awp_cond rfl (fun c7 => ?_) (fun c7 => ?_)
      · replace hr := cond_t c7 hr
        refine awp_skip ?_
        refine kthen_normal ?_
        refine awp_seq ?_
        refine awp_block ?_
        refine awp_seq ?_
        obtain ⟨v8, h9, hr⟩ := bind_some hr
        obtain ⟨v10, h11, hr⟩ := bind_some hr
        refine awp_drawn 8 [(24, .s v10), (23, .ep [pS v10]), (22, .i s2), (21, .l cS a1), (20, .s v8), (19, .ep [pS v8]), (18, .i s2), (17, .l cS a0)] mixed (by kernel_rfl) rfl rfl (.run (.plain rfl) (opG_q ev_move) (.run (.plain rfl) (opG_q ev_move) (.run (.plain rfl) (opG_q (ev_idx (f := cS) rfl rfl ty_s_string ty_string rfl h9)) (.run (.plain rfl) (opG_q (ev_load_ep rfl ty_string rfl rfl)) (.run (.plain rfl) (opG_q ev_move) (.run (.plain rfl) (opG_q ev_move) (.run (.plain rfl) (opG_q (ev_idx (f := cS) rfl rfl ty_s_string ty_string rfl h11)) (.run (.plain rfl) (opG_q (ev_load_ep rfl ty_string rfl rfl)) .nil)))))))) rfl ?_
        refine awpl_op rfl (opTo_q (d := 25) rfl rfl (ev_sneq (a := v8) (b := v10) rfl rfl)) ?_
        refine awpl_nil ?_
        refine kthen_normal ?_
        refine awp_cond rfl (fun c12 => ?_) (fun c12 => ?_)
        · replace hr := cond_t c12 hr
          refine awp_seq ?_
          refine awp_region ?_
          refine awpl_op rfl (opTo_q (d := 4) rfl rfl ev_assign) ?_
          refine awpl_nil ?_
          refine kthen_normal ?_
          refine awp_ret ?_
          refine kblock_ret ?_
          refine kthen_ret ?_
          cases hr
          exact ⟨by simp, rfl, (frLe_cons rfl frLe_nil), stoLe_nil⟩
        · replace hr := cond_f c12 hr
          refine awp_skip ?_
          refine kblock_normal ?_
          refine kthen_normal ?_
          refine awp_region ?_
          refine awpl_op rfl (opTo_q (d := 15) rfl rfl ev_move) ?_
          refine awpl_op rfl (opTo_q (d := 16) rfl rfl (ev_add rfl rfl)) ?_
          refine awpl_op rfl (opTo_q (d := 5) rfl rfl ev_assign) ?_
          refine awpl_nil ?_
          cases hr
          exact ⟨rfl, (frLe_cons rfl (frLe_cons rfl (frLe_cons rfl frLe_nil))), stoLe_nil⟩
      · replace hr := cond_f c7 hr
        refine awp_exit ?_
        refine kthen_exit ?_
        cases hr
        exact ⟨by simp, rfl, frLe_nil, stoLe_nil⟩
    · intro e fr2 st2 hq
      rcases o5 with b3 | b4
      · obtain ⟨rfl, hf, hs⟩ := hq
        refine kblock_exit ?_
        refine kthen_normal ?_
        refine awp_le hf hs ?_
        refine awp_seq ?_
        refine awp_region ?_
        refine awpl_op rfl (opTo_q (d := 4) rfl rfl ev_assign) ?_
        refine awpl_nil ?_
        refine kthen_normal ?_
        refine awp_ret ?_
        cases hr
        exact kret' rfl (.cons (res_tmp rfl) .nil) rfl
      · obtain ⟨rfl, hf, hs⟩ := hq
        refine kblock_ret ?_
        refine kthen_ret ?_
        cases hr
        exact kret' rfl (.cons (res1_le hf hs (res_tmp rfl)) .nil) rfl
end Go.Proofs.Ytlpmbmilnoncdaa

/- Library functions compute what their Lean functions do. -/
namespace Go.Proofs.Ytlpmbmilnoncdaa
open Go.RowKit
set_option maxRecDepth 100000
def nums (l : List UInt8) : List Int := l.map fun c => (c.toNat : Int)
theorem nums_bytes (l : List UInt8) : Lib.bytesOf (nums l) = l := by simp [Lib.bytesOf, nums, Function.comp_def]
theorem nums_range (l : List UInt8) : ∀ x ∈ nums l, 0 ≤ x ∧ x < 256 := by
  intro x hx
  obtain ⟨c, _, rfl⟩ := List.mem_map.1 hx
  have := c.toNat_lt
  omega
theorem nums_getD (l : List UInt8) (i : Nat) (h : i < l.length) : (nums l).getD i 0 = (l[i].toNat : Int) := by simp [nums, h]
/-- bytes, where they lie -/
theorem bytes_cells {g : G} {l : List UInt8} {v : Value} (h : Rel g (.l cU l) v) : ∃ ad cap, v = .slice ad l.length cap ∧ l.length ≤ cap ∧ (l ≠ [] → ∃ b off, ad = some ⟨b, off, none⟩ ∧ ∀ i, i < l.length → g.w.cell? ((⟨b, off, none⟩ : Addr).add i) = some (.int .u8 ((nums l).getD i 0))) := by
  cases h with
  | pv h =>
    generalize hE : l.map cU = elems at h
    have hEl : elems.length = l.length := by rw [← hE]; simp
    unfold pL at h
    rw [hE] at h
    cases h with
    | @sl _ _ a cap size b off val hn h0 hc hz ha hu hcell h =>
      refine ⟨a, cap, by rw [hEl], by omega, fun hne => ⟨b, off, ha (by rw [← hE]; simpa using hne), fun i hi => ?_⟩⟩
      have hget : elems[i]? = some (cU l[i]) := by rw [← hE]; simp [hi]
      have hs1 : size = 1 := by
        have := hz _ (List.mem_of_getElem? hget)
        simpa [cU] using this.symm
      subst hs1
      rw [addr_add, hcell i (by omega), nums_getD l i hi]
      have := h i 0 _ (.b (.int .u8 (l[i].toNat : Int))) hget rfl
      simp only [Nat.mul_one, Nat.add_zero] at this
      have e := rel_b (g := g) (.pv this)
      rw [e]
theorem old_drewN (g : G) (q : Nat) : Old (fun _ => False) g ⟨g.w.drewN q, g.u, g.loc⟩ :=
  ⟨rfl, rfl, rfl, ⟨Nat.le_refl _, fun _ _ => Nat.le_refl _, fun _ _ _ _ => rfl, fun _ h => h⟩, fun _ _ _ => ⟨rfl, rfl⟩⟩
theorem bytes_Index_run (a b : List UInt8) (r : Int) (hr : bytes_Index a b = some r) : Run Try.prog 58 [.l cU a, .l cU b] (.i r) := by
  unfold bytes_Index at hr
  split at hr
  case isFalse => cases hr
  rename_i hlen
  cases hr
  refine ⟨⟨_, _, ⟨Try.func58, rfl, by kernel_rfl⟩⟩, fun g vs hw hg ha => ?_⟩
  obtain ⟨hsz, hrel⟩ := ha
  obtain ⟨l⟩ := vs
  match l, hsz with
  | [x, y], _ =>
    have h0 : Rel g (.l cU a) x := hrel 0 _ rfl
    have h1 : Rel g (.l cU b) y := hrel 1 _ rfl
    obtain ⟨ad, cap, rfl, hcap, hcell⟩ := bytes_cells h0
    obtain ⟨ad2, cap2, rfl, hcap2, hcell2⟩ := bytes_cells h1
    have hb2 := hlen.2
    obtain ⟨b2, o2, rfl, hc2⟩ := hcell2 (by rintro rfl; simp at hb2)
    refine callsIn_wide.2 ?_
    suffices hs : Calls Try.prog 58 #[.slice ad a.length cap, .slice (some ⟨b2, o2, none⟩) b.length cap2] g.w fun e w' => e = .returned (.int .i64 (Lib.index a b)) ∧ ∃ q, w' = g.w.drewN q by
      refine hs.mono ?_
      rintro e w' ⟨rfl, q, rfl⟩
      exact ⟨⟨g.w.drewN q, g.u, g.loc⟩, _, rfl, rfl, old_drewN g q, hw, rfl, .pv (.b rfl)⟩
    by_cases hs : a.length < 2
    · have hi : Lib.index a b = -1 := by
        match a, b, hs, hb2 with
        | [], [p, q], _, _ => rfl
        | [c], [p, q], _, _ => simp [Lib.index]
      rw [hi]
      exact (Try.bytes_Index_longer ad (some ⟨b2, o2, none⟩) a.length cap b.length cap2 g.w (by omega) (by omega) (by omega)).mono fun e w' ⟨h1, h2⟩ => ⟨h1, 0, h2⟩
    · obtain ⟨b1, o1, rfl, hc1⟩ := hcell (by rintro rfl; simp at hs)
      obtain ⟨_, _, m, hm⟩ := hg (0, 0) (by simp [globs])
      have := Try.bytes_Index_at ⟨b1, o1, none⟩ ⟨b2, o2, none⟩ a.length cap b.length cap2 (nums a) (nums b) m g.w (by simp [nums]) (by simp [nums]) (nums_range a) (nums_range b) hc1 hc2 hcap hlen.1 (by omega) hm
      rw [nums_bytes, nums_bytes] at this
      exact this
theorem str_arg {g : G} {s : Str} {v : Value} (h : Rel g (.s s) v) : v = .string (strB s) := rel_b h
theorem strings_IndexByte_run (s : Str) (c : UInt8) (r : Int) (hr : strings_IndexByte s c = some r) : Run Try.prog 75 [.s s, .u8 c] (.i r) := by
  unfold strings_IndexByte at hr
  cases hr
  refine ⟨⟨_, _, ⟨Try.func75, rfl, by kernel_rfl⟩⟩, fun g vs hw hg ha => ?_⟩
  obtain ⟨hsz, hrel⟩ := ha
  obtain ⟨l⟩ := vs
  match l, hsz with
  | [x, y], _ =>
    obtain rfl := str_arg (hrel 0 _ rfl)
    have e2 : y = .int .u8 (c.toNat : Int) := rel_b (hrel 1 _ rfl)
    subst e2
    refine callsIn_wide.2 ((Try.strings_IndexByte (strB s) (c.toNat : Int) g.w).mono ?_)
    rintro e w' ⟨rfl, rfl⟩
    refine ⟨g, _, rfl, rfl, Old.refl _ g, hw, rfl, ?_⟩
    simp [strB]
    exact .pv (.b rfl)
theorem strings_Contains_run (s t : Str) (r : Bool) (hr : strings_Contains s t = some r) : Run Try.prog 85 [.s s, .s t] (.bo r) := by
  unfold strings_Contains at hr
  split at hr
  case isFalse => cases hr
  rename_i hlen
  cases hr
  refine ⟨⟨_, _, ⟨Try.func85, rfl, by kernel_rfl⟩⟩, fun g vs hw hg ha => ?_⟩
  obtain ⟨hsz, hrel⟩ := ha
  obtain ⟨l⟩ := vs
  match l, hsz with
  | [x, y], _ =>
    obtain rfl := str_arg (hrel 0 _ rfl)
    obtain rfl := str_arg (hrel 1 _ rfl)
    obtain ⟨_, _, m, hm⟩ := hg (0, 0) (by simp [globs])
    refine callsIn_wide.2 ((Try.strings_Contains (strB s) (strB t) m g.w (by rw [strB_size]; exact hlen) hm).mono ?_)
    rintro e w' ⟨rfl, rfl⟩
    exact ⟨g, _, rfl, rfl, Old.refl _ g, hw, rfl, .pv (.b rfl)⟩
theorem strings_Cut_run (s t : Str) (r : Str × Str × Bool) (hr : strings_Cut s t = some r) : Run Try.prog 72 [.s s, .s t] (.tup [.s r.1, .s r.2.1, .bo r.2.2]) := by
  unfold strings_Cut at hr
  split at hr
  case isFalse => cases hr
  rename_i hlen
  cases hr
  refine ⟨⟨_, _, ⟨Try.func72, rfl, by kernel_rfl⟩⟩, fun g vs hw hg ha => ?_⟩
  obtain ⟨hsz, hrel⟩ := ha
  obtain ⟨l⟩ := vs
  match l, hsz with
  | [x, y], _ =>
    obtain rfl := str_arg (hrel 0 _ rfl)
    obtain rfl := str_arg (hrel 1 _ rfl)
    obtain ⟨_, _, m, hm⟩ := hg (0, 0) (by simp [globs])
    refine callsIn_wide.2 ((Try.strings_Cut (strB s) (strB t) m g.w (by rw [strB_size]; exact hlen) hm).mono ?_)
    rintro e w' ⟨rfl, q, rfl⟩
    refine ⟨⟨g.w.drewN q, g.u, g.loc⟩, _, rfl, rfl, old_drewN g q, hw, rfl, .tup rfl fun i c hi => ?_⟩
    match i, hi with
    | 0, rfl => exact .pv (.b rfl)
    | 1, rfl => exact .pv (.b rfl)
    | 2, rfl => exact .pv (.b rfl)
end Go.Proofs.Ytlpmbmilnoncdaa

/- A function of the program computes what its Lean function does. Written by program. -/
namespace Go.Proofs.Ytlpmbmilnoncdaa
open Go.RowKit
set_option maxRecDepth 100000
set_option maxHeartbeats 40000000
set_option linter.unusedVariables false
theorem basic_Fault_run (a0 : Int) (a1 : Int) (r : TFault) (hr : basic_Fault a0 a1 = some r) : Run Try.prog 37 [.i a0, .i a1] (.agg [.i r.Code, .i r.Index]) := by
  unfold basic_Fault at hr
  refine run_of_awp (fn := Try.f37) ⟨Try.func37, rfl, by kernel_rfl⟩ rfl (fun _ => rfl) fun g0 hg => ?_
  refine awp_seq ?_
  refine awp_region ?_
  refine awpl_op rfl (opTo_alloc (k := 4) 4 rfl ty_api_Fault (.inr ⟨rfl, rfl⟩) rfl rfl rfl) ?_
  refine awpl_nil ?_
  refine kthen_normal ?_
  refine awp_seq ?_
  refine awp_region ?_
  refine awpl_op rfl (opTo_q (d := 5) rfl rfl ev_move) ?_
  refine awpl_op rfl (opTo_q (d := 6) rfl rfl ev_move) ?_
  refine awpl_op rfl (opTo_q (d := 7) rfl rfl (ev_build ty_api_Fault pl_api_Fault (.inr ⟨rfl, rfl⟩) rfl)) ?_
  refine awpl_op rfl (opTo_store rfl rfl rfl ty_api_Fault rfl rfl) ?_
  refine awpl_nil ?_
  refine kthen_normal ?_
  refine awp_ret ?_
  cases hr
  exact kret' rfl (.cons (res_cellN rfl rfl ty_api_Fault rfl rfl) .nil) rfl
end Go.Proofs.Ytlpmbmilnoncdaa

/- A function of the program computes what its Lean function does. Written by program. -/
namespace Go.Proofs.Ytlpmbmilnoncdaa
open Go.RowKit
set_option maxRecDepth 100000
set_option maxHeartbeats 40000000
set_option linter.unusedVariables false
theorem basic_None_run  (r : TFault) (hr : basic_None = some r) : Run Try.prog 38 [] (.agg [.i r.Code, .i r.Index]) := by
  unfold basic_None at hr
  refine run_of_awp (fn := Try.f38) ⟨Try.func38, rfl, by kernel_rfl⟩ rfl (fun _ => rfl) fun g0 hg => ?_
  refine awp_seq ?_
  refine awp_region ?_
  refine awpl_op rfl (opTo_alloc (k := 0) 0 rfl ty_api_Fault (.inr ⟨rfl, rfl⟩) rfl rfl rfl) ?_
  refine awpl_nil ?_
  refine kthen_normal ?_
  refine awp_seq ?_
  refine awp_region ?_
  refine awpl_op rfl (opTo_q (d := 1) rfl rfl (ev_build ty_api_Fault pl_api_Fault (.inr ⟨rfl, rfl⟩) rfl)) ?_
  refine awpl_op rfl (opTo_store rfl rfl rfl ty_api_Fault rfl rfl) ?_
  refine awpl_nil ?_
  refine kthen_normal ?_
  refine awp_ret ?_
  cases hr
  exact kret' rfl (.cons (res_cellN rfl rfl ty_api_Fault rfl rfl) .nil) rfl
end Go.Proofs.Ytlpmbmilnoncdaa

/- A function of the program computes what its Lean function does. Written by program. -/
namespace Go.Proofs.Ytlpmbmilnoncdaa
open Go.RowKit
set_option maxRecDepth 100000
set_option maxHeartbeats 40000000
set_option linter.unusedVariables false
theorem lines_Split_run (a0 : List UInt8) (r : (List Str) × (List UInt8) × TFault) (hr : lines_Split a0 = some r) : Run Try.prog 20 [.l cU a0] (.tup [.l cS r.1, .l cU r.2.1, .agg [.i r.2.2.Code, .i r.2.2.Index]]) := by
  unfold lines_Split at hr
  refine run_of_awp (fn := Try.f20) ⟨Try.func20, rfl, by kernel_rfl⟩ rfl (fun _ => rfl) fun g0 hg => ?_
  refine awp_seq ?_
  refine awp_region ?_
  refine awpl_op rfl (opTo_alloc (k := 2) 2 rfl ty_s_string (.inl rfl) rfl rfl rfl) ?_
  refine awpl_op rfl (opTo_alloc (k := 3) 3 rfl ty_s_uint8 (.inl rfl) rfl rfl rfl) ?_
  refine awpl_adoptC 1003 (o := 3) (j := 0) 5 1 rfl rfl rfl rfl ?_
  refine awpl_op rfl (opTo_alloc (k := 4) 4 rfl ty_api_Fault (.inr ⟨rfl, rfl⟩) rfl rfl rfl) ?_
  refine awpl_nil ?_
  refine kthen_normal ?_
  refine awp_seq ?_
  refine awp_seq ?_
  refine awp_region ?_
  refine awpl_op rfl (opTo_q (d := 9) rfl rfl ev_move) ?_
  refine awpl_op rfl (opTo_q (d := 10) rfl rfl (ev_llen (f := cU) rfl ty_s_uint8.u)) ?_
  refine awpl_op rfl (opTo_q (d := 11) rfl rfl (ev_gtr rfl rfl)) ?_
  refine awpl_nil ?_
  refine kthen_normal ?_
  refine awp_cond rfl (fun c1 => ?_) (fun c1 => ?_)
  · replace hr := cond_t c1 hr
    refine awp_seq ?_
    refine awp_region ?_
    obtain ⟨v2, h3, hr⟩ := bind_some hr
    refine awpl_op rfl (opTo_call (k := 12) (basic_Fault_run 1 ((-1)) v2 h3) rfl rfl) ?_
    refine awpl_op rfl (opTo_store rfl rfl rfl ty_s_string rfl rfl) ?_
    refine awpl_op rfl (opTo_store rfl rfl rfl ty_s_uint8 rfl rfl) ?_
    refine awpl_op rfl (opTo_store rfl rfl rfl ty_api_Fault rfl rfl) ?_
    refine awpl_nil ?_
    refine kthen_normal ?_
    refine awp_ret ?_
    refine kthen_ret ?_
    cases hr
    exact kret' rfl (.cons (res_cell rfl rfl ty_s_string rfl rfl) (.cons (res_cell rfl rfl ty_s_uint8 rfl rfl) (.cons (res_cellN rfl rfl ty_api_Fault rfl rfl) .nil))) rfl
  · replace hr := cond_f c1 hr
    refine awp_skip ?_
    refine kthen_normal ?_
    refine awp_seq ?_
    refine awp_region ?_
    refine awpl_op rfl (opTo_alloc (k := 5) 5 rfl ty_s_string (.inl rfl) rfl rfl rfl) ?_
    refine awpl_adoptC 1005 (o := 5) (j := 0) 9 1 rfl rfl rfl rfl ?_
    refine awpl_nil ?_
    refine kthen_normal ?_
    refine awp_seq ?_
    refine awp_region ?_
    refine awpl_op rfl (opTo_alloc (k := 6) 6 rfl ty_int (.inl rfl) rfl rfl rfl) ?_
    refine awpl_op rfl (opTo_store rfl rfl rfl ty_int rfl rfl) ?_
    refine awpl_nil ?_
    refine kthen_normal ?_
    refine awp_seq ?_
    refine awp_seq ?_
    refine awp_region ?_
    refine awpl_op rfl (opTo_q (d := 13) rfl rfl ev_move) ?_
    refine awpl_inl (fn := Try.f40) (args := [.l cU a0]) 900000 999999 [(0, .l cU a0), (2, .ptr 2 0), (3, .ptr 3 0), (4, .ptr 4 0), (5, .ptr 5 0), (6, .ptr 6 0)] (wanted_plain rfl) rfl ⟨Try.func40, rfl, by kernel_rfl⟩ rfl rfl (.cons rfl (.cons rfl (.cons rfl (.cons rfl (.cons rfl (.cons rfl .nil)))))) fun T9 ds9 hT9 => ?_
    refine awp_seq ?_
    refine awp_region ?_
    refine awpl_op rfl (opTo_box (k := 1) 1 rfl rfl rfl rfl rfl) ?_
    refine awpl_op rfl (opTo_q (d := 2) rfl rfl ev_assign) ?_
    refine awpl_nil ?_
    refine kthen_normal ?_
    refine awp_seq ?_
    refine awp_region ?_
    refine awpl_op rfl (opTo_q (d := 3) rfl rfl (ev_makeFunc rfl rfl)) ?_
    refine awpl_op rfl (opTo_q (d := 2) rfl rfl ev_assign) ?_
    refine awpl_nil ?_
    refine kthen_normal ?_
    refine awp_ret ?_
    refine inlK (cs := [.fn (.func 57) [] [.ptr 1 0]]) (fr'' := [(0, .l cU a0), (2, .ptr 2 0), (3, .ptr 3 0), (4, .ptr 4 0), (5, .ptr 5 0), (6, .ptr 6 0)]) (σ'' := [(1, .cells [.l cU a0]), (6, .cells [.i 0]), (1005, .row 9 false 1 (List.map cS (([] : List Str)))), (5, .cells [.hs 1005 0]), (4, .cells [.i 0, .i 0]), (1003, .row 5 false 1 (List.map cU (([] : List UInt8)))), (3, .cells [.hs 1003 0]), (2, .cells [.pv (.sl (some true) [])])]) (.inl rfl) frLe_refl stoLe_refl (.cons (res_tmp rfl) .nil) (.cons rfl (.cons rfl (.cons rfl (.cons rfl (.cons rfl (.cons rfl .nil)))))) rfl (stoLe_cons rfl (stoLe_cons rfl (stoLe_cons rfl (stoLe_cons rfl (stoLe_cons rfl (stoLe_cons rfl (stoLe_cons rfl (stoLe_cons rfl stoLe_nil)))))))) ?_
    refine awpl_nil ?_
    refine kthen_normal ?_
    refine awp_block ?_
    refine awp_rangef (fn0 := Try.f57) 1000000 1099998 1099999 [(0, .l cU a0), (2, .ptr 2 0), (3, .ptr 3 0), (4, .ptr 4 0), (5, .ptr 5 0), (6, .ptr 6 0), (14, .fn (.func 57) [] [.ptr 1 0])] rfl rfl rfl ⟨Try.func57, rfl, by kernel_rfl⟩ rfl rfl rfl rfl rfl (.cons rfl (.cons rfl (.cons rfl (.cons rfl (.cons rfl (.cons rfl (.cons rfl .nil))))))) fun T10 b10 L10 ds10 hT10 hLs10 hLp10 hLt10 hLq10 hLa10 hLb10 => ?_
    refine awp_seq ?_
    refine awp_region ?_
    refine awpl_op rfl (opTo_q (d := 3) rfl rfl ev_assign) ?_
    refine awpl_nil ?_
    refine kthen_normal ?_
    refine awp_block ?_
    obtain ⟨o7, hl, hr⟩ := bind_some hr
    refine awp_loop (lines_Split_l1 a0) (fun s4 => [(0, .fn (.yield b10) [] []), (1, .ptr 1 0), (3, .i s4.1)]) (fun s4 => [(1099999, .sus g0.w.heap.size ds10), (1099998, .lp b10 L10), (1000000, .hold (.l cU a0) (T10.getD 0 undef)), (1000002, .hold (.ptr 2 0) (T10.getD 2 undef)), (1000003, .hold (.ptr 3 0) (T10.getD 3 undef)), (1000004, .hold (.ptr 4 0) (T10.getD 4 undef)), (1000005, .hold (.ptr 5 0) (T10.getD 5 undef)), (1000006, .hold (.ptr 6 0) (T10.getD 6 undef)), (1000014, .hold (.fn (.func 57) [] [.ptr 1 0]) (T10.getD 14 undef)), (1, .cells [.l cU a0]), (6, .cells [.i s4.2.1]), (1005, .row 9 false 1 (List.map cS s4.2.2)), (5, .cells [.hs 1005 0]), (4, .cells [.i 0, .i 0]), (1003, .row 5 false 1 (List.map cU (([] : List UInt8)))), (3, .cells [.hs 1003 0]), (2, .cells [.l cS ([])])]) (fun o => match o with | .inl b5 => At .ret [] [(1099999, .sus g0.w.heap.size ds10), (1099998, .lp b10 L10), (1000000, .hold (.l cU a0) (T10.getD 0 undef)), (1000002, .hold (.ptr 2 0) (T10.getD 2 undef)), (1000003, .hold (.ptr 3 0) (T10.getD 3 undef)), (1000004, .hold (.ptr 4 0) (T10.getD 4 undef)), (1000005, .hold (.ptr 5 0) (T10.getD 5 undef)), (1000006, .hold (.ptr 6 0) (T10.getD 6 undef)), (1000014, .hold (.fn (.func 57) [] [.ptr 1 0]) (T10.getD 14 undef)), (1, .cells [.l cU a0]), (6, .cells [.i b5.1]), (1005, .row 9 false 1 (List.map cS b5.2)), (5, .cells [.hs 1005 0]), (4, .cells [.i 0, .i 0]), (1003, .row 5 false 1 (List.map cU (([] : List UInt8)))), (3, .cells [.hs 1003 0]), (2, .cells [.l cS ([])])] | .inr b6 => At .ret [] [(1099999, .sus g0.w.heap.size ds10), (1099998, .lp b10 ((stop L10 .ret))), (1000000, .hold (.l cU a0) (T10.getD 0 undef)), (1000002, .hold (.ptr 2 0) (T10.getD 2 undef)), (1000003, .hold (.ptr 3 0) (T10.getD 3 undef)), (1000004, .hold (.ptr 4 0) (T10.getD 4 undef)), (1000005, .hold (.ptr 5 0) (T10.getD 5 undef)), (1000006, .hold (.ptr 6 0) (T10.getD 6 undef)), (1000014, .hold (.fn (.func 57) [] [.ptr 1 0]) (T10.getD 14 undef)), (1, .cells [.l cU a0]), (6, .cells [.i b6.1]), (1005, .row 9 false 1 (List.map cS b6.2.1)), (5, .cells [.hs 1005 0]), (4, .cells [.i b6.2.2.1, .i b6.2.2.2]), (3, .cells [.l cU ([])]), (2, .cells [.l cS ([])])]) ?_ ((0, 0, ([] : List Str))) hl (frLe_cons rfl (frLe_cons rfl (frLe_cons rfl frLe_nil))) (stoLe_cons rfl (stoLe_cons rfl (stoLe_cons rfl (stoLe_cons rfl (stoLe_cons rfl (stoLe_cons rfl (stoLe_cons rfl (stoLe_cons rfl (stoLe_cons rfl (stoLe_cons rfl (stoLe_cons rfl (stoLe_cons rfl (stoLe_cons rfl (stoLe_cons rfl (stoLe_cons rfl (stoLe_cons rfl (stoLe_weak rfl rfl stoLe_nil))))))))))))))))) ?_
    · intro s4 x8 hr
      unfold lines_Split_l1 at hr
      refine awp_block ?_
      refine awp_seq ?_
      refine awp_region ?_
      refine awpl_op rfl (opTo_q (d := 5) rfl rfl (ev_load rfl rfl ty_s_uint8 rfl rfl)) ?_
      refine awpl_op rfl (opTo_q (d := 6) rfl rfl ev_move) ?_
      obtain ⟨v9, h10, hr⟩ := bind_some hr
      refine awpl_op rfl (opTo_q (d := 7) rfl rfl (ev_cutL (F := cU) rfl rfl ty_s_uint8 ty_uint8 (fun _ => rfl) h10)) ?_
      refine awpl_litconv rfl (opGN_lit (F := cU) (l := ([(13 : UInt8), (10 : UInt8)] : List UInt8)) ty_s_uint8 ty_uint8 rfl (fun _ => rfl) rfl rfl) ty_s_uint8 ty_uint8 (wanted_plain rfl) (wanted_plain rfl) rfl ?_
      obtain ⟨v11, h12, hr⟩ := bind_some hr
      refine awpl_op rfl (opTo_call (k := 10) (bytes_Index_run v9 (([(13 : UInt8), (10 : UInt8)] : List UInt8)) v11 h12) rfl rfl) ?_
      refine awpl_op rfl (opTo_q (d := 4) rfl rfl ev_assign) ?_
      refine awpl_nil ?_
      refine kthen_normal ?_
      refine awp_seq ?_
      refine awp_seq ?_
      refine awp_region ?_
      refine awpl_op rfl (opTo_q (d := 11) rfl rfl ev_move) ?_
      refine awpl_op rfl (opTo_q (d := 12) rfl rfl (ev_lss rfl rfl)) ?_
      refine awpl_op rfl (opTo_q (d := 13) rfl rfl ev_move) ?_
      refine bool_split (decide (v11 < 0)) (fun c13 => ?_) (fun c13 => ?_)
      · replace hr := cond_t c13 hr
        refine awpl_no (d := 13) rfl rfl rfl c13 ?_
        refine awpl_no (d := 13) rfl rfl rfl c13 ?_
        refine awpl_no (d := 13) rfl rfl rfl c13 ?_
        refine awpl_no (d := 13) rfl rfl rfl c13 ?_
        refine awpl_no (d := 13) rfl rfl rfl c13 ?_
        refine awpl_no (d := 13) rfl rfl rfl c13 ?_
        refine awpl_no (d := 13) rfl rfl rfl c13 ?_
        refine awpl_no (d := 13) rfl rfl rfl c13 ?_
        refine awpl_no (d := 13) rfl rfl rfl c13 ?_
        refine awpl_no (d := 13) rfl rfl rfl c13 ?_
        refine awpl_no (d := 13) rfl rfl rfl c13 ?_
        refine awpl_no (d := 13) rfl rfl rfl c13 ?_
        refine awpl_no (d := 13) rfl rfl rfl c13 ?_
        refine awpl_op rfl (opTo_q (d := 27) rfl rfl (ev_pick_t rfl c13)) ?_
        refine awpl_nil ?_
        refine kthen_normal ?_
        refine awp_cond (t := true) rfl (fun _ => ?_) (fun h => nomatch h)
        refine awp_ret ?_
        refine kthen_ret ?_
        refine kblock_ret ?_
        cases hr
        exact ⟨by simp, rfl, frLe_nil, (stoLe_cons rfl (stoLe_cons rfl (stoLe_cons rfl (stoLe_cons rfl (stoLe_cons rfl (stoLe_cons rfl (stoLe_cons rfl (stoLe_cons rfl (stoLe_cons rfl (stoLe_cons rfl (stoLe_cons rfl (stoLe_cons rfl (stoLe_cons rfl (stoLe_cons rfl (stoLe_cons rfl (stoLe_cons rfl (stoLe_cons rfl stoLe_nil)))))))))))))))))⟩
      · replace hr := cond_f c13 hr
        refine awpl_yes (d := 13) rfl rfl rfl c13 (opTo_q (d := 14) rfl rfl ev_move) ?_
        refine awpl_yes (d := 13) rfl rfl rfl c13 (opTo_q (d := 15) rfl rfl (ev_load rfl rfl ty_s_uint8 rfl rfl)) ?_
        refine awpl_yes (d := 13) rfl rfl rfl c13 (opTo_q (d := 16) rfl rfl ev_move) ?_
        refine awpl_yes (d := 13) rfl rfl rfl c13 (opTo_q (d := 17) rfl rfl ev_move) ?_
        refine awpl_yes (d := 13) rfl rfl rfl c13 (opTo_q (d := 18) rfl rfl ev_move) ?_
        refine awpl_yes (d := 13) rfl rfl rfl c13 (opTo_q (d := 19) rfl rfl (ev_add rfl rfl)) ?_
        obtain ⟨v14, h15, hr⟩ := bind_some hr
        refine awpl_yes (d := 13) rfl rfl rfl c13 (opTo_q (d := 20) rfl rfl (ev_cutLH (F := cU) rfl rfl rfl ty_s_uint8 ty_uint8 (fun _ => rfl) h15)) ?_
        refine awpl_yes (d := 13) rfl rfl rfl c13 (opTo_q (d := 21) rfl rfl ev_move) ?_
        refine awpl_yes (d := 13) rfl rfl rfl c13 (opTo_q (d := 22) rfl rfl ev_move) ?_
        refine awpl_yes (d := 13) rfl rfl rfl c13 (opTo_q (d := 23) rfl rfl (ev_add rfl rfl)) ?_
        refine awpl_yes (d := 13) rfl rfl rfl c13 (opTo_q (d := 24) rfl rfl (ev_add rfl rfl)) ?_
        refine awpl_yieldf (ps := [15, 16]) (args := [.l cU v14, .i ((w64 ((w64 (s4.1 + v11)) + 2)))]) 1000000 1600000 1099998 1699999 [(0, .l cU a0), (2, .ptr 2 0), (3, .ptr 3 0), (4, .ptr 4 0), (5, .ptr 5 0), (6, .ptr 6 0), (14, .fn (.func 57) [] [.ptr 1 0])] [(0, .fn (.yield b10) [] []), (1, .ptr 1 0), (3, .i s4.1), (4, .i v11), (13, .bo (decide (v11 < 0))), (14, .fn (.yield b10) [] []), (15, .l cU a0), (16, .i s4.1), (17, .i s4.1), (18, .i v11), (19, .i ((w64 (s4.1 + v11)))), (20, .l cU v14), (21, .i s4.1), (22, .i v11), (23, .i ((w64 (s4.1 + v11)))), (24, .i ((w64 ((w64 (s4.1 + v11)) + 2))))] (wanted_yes (d := 13) rfl rfl rfl c13) rfl rfl hLs10 hLp10 hLt10 hLq10 hLa10 hLb10 hT10 rfl rfl rfl rfl (.cons rfl (.cons rfl (.cons rfl (.cons rfl (.cons rfl (.cons rfl (.cons rfl (.cons rfl (.cons rfl (.cons rfl (.cons rfl (.cons rfl (.cons rfl (.cons rfl (.cons rfl (.cons rfl .nil)))))))))))))))) (.cons rfl (.cons rfl (.cons rfl (.cons rfl (.cons rfl (.cons rfl (.cons rfl .nil))))))) fun T16 ds16 hT16 => ?_
        refine awp_seq ?_
        refine awp_region ?_
        refine awpl_op rfl (opTo_q (d := 7) rfl rfl ev_assign) ?_
        refine awpl_nil ?_
        refine kthen_normal ?_
        refine awp_region ?_
        refine awpl_op rfl (opTo_q (d := 8) rfl rfl ev_assign) ?_
        refine awpl_nil ?_
        refine asgK frLe_refl stoLe_refl rfl ?_
        refine awp_block ?_
        refine awp_seq ?_
        refine awp_seq ?_
        refine awp_region ?_
        refine awpl_op rfl (opTo_q (d := 17) rfl rfl ev_move) ?_
        refine awpl_op rfl (opTo_q (d := 18) rfl rfl (ev_llen (f := cU) rfl ty_s_uint8.u)) ?_
        refine awpl_op rfl (opTo_q (d := 19) rfl rfl (ev_gtr rfl rfl)) ?_
        refine awpl_nil ?_
        refine kthen_normal ?_
        refine awp_cond rfl (fun c16 => ?_) (fun c16 => ?_)
        · replace hr := cond_t c16 hr
          refine awp_seq ?_
          refine awp_region ?_
          refine awpl_op rfl (opTo_q (d := 20) rfl rfl (ev_load rfl rfl ty_s_string rfl rfl)) ?_
          refine awpl_op rfl (opTo_q (d := 21) rfl rfl (ev_hlen (F := cS) rfl rfl ty_s_string.u)) ?_
          obtain ⟨v17, h18, hr⟩ := bind_some hr
          refine awpl_op rfl (opTo_call (k := 22) (basic_Fault_run 1 ((s4.2.2.length : Int)) v17 h18) rfl rfl) ?_
          refine awpl_op rfl (opTo_store rfl rfl rfl ty_s_string rfl rfl) ?_
          refine awpl_op rfl (opTo_store rfl rfl rfl ty_s_uint8 rfl rfl) ?_
          refine awpl_op rfl (opTo_store rfl rfl rfl ty_api_Fault rfl rfl) ?_
          refine awpl_nil ?_
          refine kthen_normal ?_
          refine awp_ret ?_
          refine kthen_ret ?_
          refine kblock_ret ?_
          refine rndK (fr'' := [(0, .fn (.yield b10) [] []), (1, .ptr 1 0), (3, .i s4.1), (4, .i v11), (13, .bo (decide (v11 < 0))), (14, .fn (.yield b10) [] []), (15, .l cU a0), (16, .i s4.1), (17, .i s4.1), (18, .i v11), (19, .i ((w64 (s4.1 + v11)))), (20, .l cU v14), (21, .i s4.1), (22, .i v11), (23, .i ((w64 (s4.1 + v11)))), (24, .i ((w64 ((w64 (s4.1 + v11)) + 2))))]) (σ'' := [(1099999, .sus g0.w.heap.size ds10), (1099998, .lp b10 ((stop L10 .ret))), (1000000, .hold (.l cU a0) (T10.getD 0 undef)), (1000002, .hold (.ptr 2 0) (T10.getD 2 undef)), (1000003, .hold (.ptr 3 0) (T10.getD 3 undef)), (1000004, .hold (.ptr 4 0) (T10.getD 4 undef)), (1000005, .hold (.ptr 5 0) (T10.getD 5 undef)), (1000006, .hold (.ptr 6 0) (T10.getD 6 undef)), (1000014, .hold (.fn (.func 57) [] [.ptr 1 0]) (T10.getD 14 undef)), (1, .cells [.l cU a0]), (6, .cells [.i s4.2.1]), (1005, .row 9 false 1 (List.map cS s4.2.2)), (5, .cells [.hs 1005 0]), (4, .cells [.i v17.Code, .i v17.Index]), (1003, .row 5 false 1 (List.map cU (([] : List UInt8)))), (3, .cells [.pv (.sl (some true) [])]), (2, .cells [.pv (.sl (some true) [])])]) .ret stoLe_refl rfl (.cons rfl (.cons rfl (.cons rfl (.cons rfl (.cons rfl (.cons rfl (.cons rfl (.cons rfl (.cons rfl (.cons rfl (.cons rfl (.cons rfl (.cons rfl (.cons rfl (.cons rfl (.cons rfl .nil)))))))))))))))) rfl (stoLe_cons rfl (stoLe_cons rfl (stoLe_cons rfl (stoLe_cons rfl (stoLe_cons rfl (stoLe_cons rfl (stoLe_cons rfl (stoLe_cons rfl (stoLe_cons rfl (stoLe_cons rfl (stoLe_cons rfl (stoLe_cons rfl (stoLe_cons rfl (stoLe_cons rfl (stoLe_cons rfl (stoLe_cons rfl (stoLe_cons rfl stoLe_nil))))))))))))))))) ?_
          refine awpl_yes (d := 13) rfl rfl rfl c13 (opTo_q (d := 26) rfl rfl (ev_not rfl)) ?_
          refine awpl_op rfl (opTo_q (d := 27) rfl rfl (ev_pick_f rfl c13)) ?_
          refine awpl_nil ?_
          refine kthen_normal ?_
          refine awp_cond (t := true) rfl (fun _ => ?_) (fun h => nomatch h)
          refine awp_ret ?_
          refine kthen_ret ?_
          refine kblock_ret ?_
          cases hr
          exact ⟨by simp, rfl, frLe_nil, (stoLe_cons rfl (stoLe_cons rfl (stoLe_cons rfl (stoLe_cons rfl (stoLe_cons rfl (stoLe_cons rfl (stoLe_cons rfl (stoLe_cons rfl (stoLe_cons rfl (stoLe_cons rfl (stoLe_cons rfl (stoLe_cons rfl (stoLe_cons rfl (stoLe_cons rfl (stoLe_weak rfl rfl (stoLe_weak rfl rfl stoLe_nil))))))))))))))))⟩
        · replace hr := cond_f c16 hr
          refine awp_skip ?_
          refine kthen_normal ?_
          refine awp_seq ?_
          refine awp_region ?_
          refine awpl_op rfl (opTo_q (d := 23) rfl rfl (ev_load rfl rfl ty_s_string rfl rfl)) ?_
          refine awpl_op rfl (opTo_q (d := 24) rfl rfl ev_move) ?_
          refine awpl_op rfl (opTo_q (d := 25) rfl rfl (ev_bytes2s rfl ty_s_uint8 ty_uint8 ty_string)) ?_
          refine awpl_op rfl (opTo_g (d := 26) rfl rfl (opG_lit (F := cS) (l := ([v14] : List Str)) ty_s_string ty_string rfl (fun _ => rfl) rfl rfl)) ?_
          obtain ⟨v19, h20, hr⟩ := bind_some hr
          refine awpl_op rfl (opTo_append (k := 27) (F := cS) (l := s4.2.2) (xs := (([v14] : List Str))) (lim := 8796093022208) rfl rfl rfl rfl ty_s_string ty_string rfl rfl (fun _ => rfl) rfl h20) ?_
          refine awpl_op rfl (opTo_store rfl rfl rfl ty_s_string rfl rfl) ?_
          refine awpl_nil ?_
          refine kthen_normal ?_
          refine awp_region ?_
          refine awpl_op rfl (opTo_q (d := 28) rfl rfl ev_move) ?_
          refine awpl_op rfl (opTo_store rfl rfl rfl ty_int rfl rfl) ?_
          refine awpl_nil ?_
          refine kblock_normal ?_
          refine rndK (fr'' := [(0, .fn (.yield b10) [] []), (1, .ptr 1 0), (3, .i s4.1), (4, .i v11), (13, .bo (decide (v11 < 0))), (14, .fn (.yield b10) [] []), (15, .l cU a0), (16, .i s4.1), (17, .i s4.1), (18, .i v11), (19, .i ((w64 (s4.1 + v11)))), (20, .l cU v14), (21, .i s4.1), (22, .i v11), (23, .i ((w64 (s4.1 + v11)))), (24, .i ((w64 ((w64 (s4.1 + v11)) + 2))))]) (σ'' := [(1099999, .sus g0.w.heap.size ds10), (1099998, .lp b10 L10), (1000000, .hold (.l cU a0) (T10.getD 0 undef)), (1000002, .hold (.ptr 2 0) (T10.getD 2 undef)), (1000003, .hold (.ptr 3 0) (T10.getD 3 undef)), (1000004, .hold (.ptr 4 0) (T10.getD 4 undef)), (1000005, .hold (.ptr 5 0) (T10.getD 5 undef)), (1000006, .hold (.ptr 6 0) (T10.getD 6 undef)), (1000014, .hold (.fn (.func 57) [] [.ptr 1 0]) (T10.getD 14 undef)), (1, .cells [.l cU a0]), (6, .cells [.i ((w64 ((w64 (s4.1 + v11)) + 2)))]), (1005, .row 9 false 1 (List.map cS v19)), (5, .cells [.hs 1005 0]), (4, .cells [.i 0, .i 0]), (1003, .row 5 false 1 (List.map cU (([] : List UInt8)))), (3, .cells [.hs 1003 0]), (2, .cells [.l cS ([])])]) .off stoLe_refl rfl (.cons rfl (.cons rfl (.cons rfl (.cons rfl (.cons rfl (.cons rfl (.cons rfl (.cons rfl (.cons rfl (.cons rfl (.cons rfl (.cons rfl (.cons rfl (.cons rfl (.cons rfl (.cons rfl .nil)))))))))))))))) rfl (stoLe_cons rfl (stoLe_cons rfl (stoLe_cons rfl (stoLe_cons rfl (stoLe_cons rfl (stoLe_cons rfl (stoLe_cons rfl (stoLe_cons rfl (stoLe_cons rfl (stoLe_cons rfl (stoLe_cons rfl (stoLe_cons rfl (stoLe_cons rfl (stoLe_cons rfl (stoLe_cons rfl (stoLe_cons rfl (stoLe_cons rfl stoLe_nil))))))))))))))))) ?_
          refine awpl_yes (d := 13) rfl rfl rfl c13 (opTo_q (d := 26) rfl rfl (ev_not rfl)) ?_
          refine awpl_op rfl (opTo_q (d := 27) rfl rfl (ev_pick_f rfl c13)) ?_
          refine awpl_nil ?_
          refine kthen_normal ?_
          refine awp_cond (t := false) rfl (fun h => nomatch h) (fun _ => ?_)
          refine awp_skip ?_
          refine kthen_normal ?_
          refine awp_region ?_
          refine awpl_op rfl (opTo_q (d := 28) rfl rfl ev_move) ?_
          refine awpl_op rfl (opTo_q (d := 29) rfl rfl ev_move) ?_
          refine awpl_op rfl (opTo_q (d := 30) rfl rfl (ev_add rfl rfl)) ?_
          refine awpl_op rfl (opTo_q (d := 31) rfl rfl (ev_add rfl rfl)) ?_
          refine awpl_op rfl (opTo_q (d := 3) rfl rfl ev_assign) ?_
          refine awpl_nil ?_
          refine kblock_normal ?_
          cases hr
          exact ⟨rfl, (frLe_cons rfl (frLe_cons rfl (frLe_cons rfl frLe_nil))), (stoLe_cons rfl (stoLe_cons rfl (stoLe_cons rfl (stoLe_cons rfl (stoLe_cons rfl (stoLe_cons rfl (stoLe_cons rfl (stoLe_cons rfl (stoLe_cons rfl (stoLe_cons rfl (stoLe_cons rfl (stoLe_cons rfl (stoLe_cons rfl (stoLe_cons rfl (stoLe_cons rfl (stoLe_cons rfl (stoLe_cons rfl stoLe_nil)))))))))))))))))⟩
    · intro e fr2 st2 hq
      rcases o7 with b5 | b6
      · obtain ⟨rfl, hf, hs⟩ := hq
        refine kblock_ret ?_
        refine itrK (L' := L10) (fr'' := [(0, .l cU a0), (2, .ptr 2 0), (3, .ptr 3 0), (4, .ptr 4 0), (5, .ptr 5 0), (6, .ptr 6 0), (14, .fn (.func 57) [] [.ptr 1 0])]) (σ'' := [(1, .cells [.l cU a0]), (6, .cells [.i b5.1]), (1005, .row 9 false 1 (List.map cS b5.2)), (5, .cells [.hs 1005 0]), (4, .cells [.i 0, .i 0]), (1003, .row 5 false 1 (List.map cU (([] : List UInt8)))), (3, .cells [.hs 1003 0]), (2, .cells [.l cS ([])])]) (.inl rfl) hs rfl (.cons rfl (.cons rfl (.cons rfl (.cons rfl (.cons rfl (.cons rfl (.cons rfl .nil))))))) rfl (stoLe_cons rfl (stoLe_cons rfl (stoLe_cons rfl (stoLe_cons rfl (stoLe_cons rfl (stoLe_cons rfl (stoLe_cons rfl (stoLe_cons rfl stoLe_nil)))))))) rfl ?_
        refine .off ?_
        refine kblock_normal ?_
        refine kthen_normal ?_
        refine awp_seq ?_
        obtain ⟨v21, h22, hr⟩ := bind_some hr
        obtain ⟨v23, h24, hr⟩ := bind_some hr
        obtain ⟨v25, h26, hr⟩ := bind_some hr
        refine awp_drawn 6 [(34, .agg [.i v25.Code, .i v25.Index]), (33, .l cU v23), (32, .l cU v21), (31, .i b5.1), (30, .l cU a0), (29, .hs 1005 0)] mixed (by kernel_rfl) rfl rfl (.run (.plain rfl) (opG_q (ev_load rfl rfl ty_s_string rfl rfl)) (.run (.plain rfl) (opG_q ev_move) (.run (.plain rfl) (opG_q (ev_load rfl rfl ty_int rfl rfl)) (.run (.plain rfl) (opG_q (ev_cutL (F := cU) rfl rfl ty_s_uint8 ty_uint8 (fun _ => rfl) h22)) (.run (.plain rfl) (opG_append0 (F := cU) (xs := v21) (lim := 140737488355328) rfl rfl ty_s_uint8 ty_uint8 rfl rfl (fun _ => rfl) rfl h24) (.run (.plain rfl) (opG_call (basic_None_run  v25 h26) rfl) .nil)))))) rfl ?_
        refine awpl_op rfl (opTo_store rfl rfl rfl ty_s_string rfl rfl) ?_
        refine awpl_op rfl (opTo_store rfl rfl rfl ty_s_uint8 rfl rfl) ?_
        refine awpl_op rfl (opTo_store rfl rfl rfl ty_api_Fault rfl rfl) ?_
        refine awpl_nil ?_
        refine kthen_normal ?_
        refine awp_pubC (o := 2) (j := 0) (F := cS) (l := b5.2) rfl rfl rfl ?_
        refine awp_ret ?_
        cases hr
        exact kret' rfl (.cons (res_cell rfl rfl ty_s_string rfl rfl) (.cons (res_cell rfl rfl ty_s_uint8 rfl rfl) (.cons (res_cellN rfl rfl ty_api_Fault rfl rfl) .nil))) rfl
      · obtain ⟨rfl, hf, hs⟩ := hq
        refine kblock_ret ?_
        refine itrK (L' := (stop L10 .ret)) (fr'' := [(0, .l cU a0), (2, .ptr 2 0), (3, .ptr 3 0), (4, .ptr 4 0), (5, .ptr 5 0), (6, .ptr 6 0), (14, .fn (.func 57) [] [.ptr 1 0])]) (σ'' := [(1, .cells [.l cU a0]), (6, .cells [.i b6.1]), (1005, .row 9 false 1 (List.map cS b6.2.1)), (5, .cells [.hs 1005 0]), (4, .cells [.i b6.2.2.1, .i b6.2.2.2]), (3, .cells [.l cU ([])]), (2, .cells [.l cS ([])])]) (.inl rfl) hs rfl (.cons rfl (.cons rfl (.cons rfl (.cons rfl (.cons rfl (.cons rfl (.cons rfl .nil))))))) rfl (stoLe_cons rfl (stoLe_cons rfl (stoLe_cons rfl (stoLe_cons rfl (stoLe_cons rfl (stoLe_cons rfl (stoLe_cons rfl stoLe_nil))))))) rfl ?_
        refine .jump ?_
        refine awp_ret ?_
        refine kblock_ret ?_
        refine kthen_ret ?_
        cases hr
        exact kret' rfl (.cons (res_cell rfl rfl ty_s_string rfl rfl) (.cons (res_cell rfl rfl ty_s_uint8 rfl rfl) (.cons (res_cellN rfl rfl ty_api_Fault rfl rfl) .nil))) rfl
end Go.Proofs.Ytlpmbmilnoncdaa

/- A function of the program computes what its Lean function does. Written by program. -/
namespace Go.Proofs.Ytlpmbmilnoncdaa
open Go.RowKit
set_option maxRecDepth 100000
set_option maxHeartbeats 40000000
set_option linter.unusedVariables false
theorem bytes_Equal_run (a0 : List UInt8) (a1 : List UInt8) (r : Bool) (hr : bytes_Equal a0 a1 = some r) : Run Try.prog 59 [.l cU a0, .l cU a1] (.bo r) := by
  unfold bytes_Equal at hr
  refine run_of_awp (fn := Try.f59) ⟨Try.func59, rfl, by kernel_rfl⟩ rfl (fun _ => rfl) fun g0 hg => ?_
  refine awp_seq ?_
  refine awp_region ?_
  refine awpl_op rfl (opTo_q (d := 4) rfl rfl ev_assign) ?_
  refine awpl_nil ?_
  refine kthen_normal ?_
  refine awp_seq ?_
  refine awp_region ?_
  refine awpl_op rfl (opTo_q (d := 5) rfl rfl ev_move) ?_
  refine awpl_op rfl (opTo_q (d := 6) rfl rfl (ev_bytes2s rfl ty_s_uint8 ty_uint8 ty_string)) ?_
  refine awpl_op rfl (opTo_q (d := 7) rfl rfl ev_move) ?_
  refine awpl_op rfl (opTo_q (d := 8) rfl rfl (ev_bytes2s rfl ty_s_uint8 ty_uint8 ty_string)) ?_
  refine awpl_op rfl (opTo_q (d := 9) rfl rfl (ev_seql (a := a0) (b := a1) rfl rfl)) ?_
  refine awpl_op rfl (opTo_q (d := 4) rfl rfl ev_assign) ?_
  refine awpl_nil ?_
  refine kthen_normal ?_
  refine awp_ret ?_
  cases hr
  exact kret' rfl (.cons (res_tmp rfl) .nil) rfl
end Go.Proofs.Ytlpmbmilnoncdaa

/- A function of the program computes what its Lean function does. Written by program. -/
namespace Go.Proofs.Ytlpmbmilnoncdaa
open Go.RowKit
set_option maxRecDepth 100000
set_option maxHeartbeats 40000000
set_option linter.unusedVariables false
theorem bytes_HasPrefix_run (a0 : List UInt8) (a1 : List UInt8) (r : Bool) (hr : bytes_HasPrefix a0 a1 = some r) : Run Try.prog 42 [.l cU a0, .l cU a1] (.bo r) := by
  unfold bytes_HasPrefix at hr
  refine run_of_awp (fn := Try.f42) ⟨Try.func42, rfl, by kernel_rfl⟩ rfl (fun _ => rfl) fun g0 hg => ?_
  refine awp_seq ?_
  refine awp_region ?_
  refine awpl_op rfl (opTo_q (d := 4) rfl rfl ev_assign) ?_
  refine awpl_nil ?_
  refine kthen_normal ?_
  obtain ⟨j1, hx, hy⟩ := bind_some hr
  refine awp_join (fun j1 => [(4, .bo j1)]) (fun j1 => []) (fun z => j1 = z) ?_ ?_
  · have hr := hx
    clear hx hy
    refine awp_region ?_
    refine awpl_op rfl (opTo_q (d := 5) rfl rfl ev_move) ?_
    refine awpl_op rfl (opTo_q (d := 6) rfl rfl (ev_llen (f := cU) rfl ty_s_uint8.u)) ?_
    refine awpl_op rfl (opTo_q (d := 7) rfl rfl ev_move) ?_
    refine awpl_op rfl (opTo_q (d := 8) rfl rfl (ev_llen (f := cU) rfl ty_s_uint8.u)) ?_
    refine awpl_op rfl (opTo_q (d := 9) rfl rfl (ev_geq rfl rfl)) ?_
    refine awpl_op rfl (opTo_q (d := 10) rfl rfl ev_move) ?_
    refine bool_split (decide ((a1.length : Int) ≤ (a0.length : Int))) (fun c2 => ?_) (fun c2 => ?_)
    · replace hr := cond_t c2 hr
      refine awpl_yes (d := 10) rfl rfl rfl c2 (opTo_q (d := 11) rfl rfl ev_move) ?_
      refine awpl_yes (d := 10) rfl rfl rfl c2 (opTo_q (d := 12) rfl rfl ev_move) ?_
      refine awpl_yes (d := 10) rfl rfl rfl c2 (opTo_q (d := 13) rfl rfl (ev_llen (f := cU) rfl ty_s_uint8.u)) ?_
      obtain ⟨v3, h4, hr⟩ := bind_some hr
      refine awpl_yes (d := 10) rfl rfl rfl c2 (opTo_q (d := 14) rfl rfl (ev_cutH (F := cU) rfl rfl ty_s_uint8 ty_uint8 (fun _ => rfl) h4)) ?_
      refine awpl_yes (d := 10) rfl rfl rfl c2 (opTo_q (d := 15) rfl rfl ev_move) ?_
      obtain ⟨v5, h6, hr⟩ := bind_some hr
      refine awpl_yes (d := 10) rfl rfl rfl c2 (opTo_call (k := 16) (bytes_Equal_run v3 a1 v5 h6) rfl rfl) ?_
      refine awpl_op rfl (opTo_q (d := 17) rfl rfl (ev_pick_t rfl c2)) ?_
      refine awpl_op rfl (opTo_q (d := 4) rfl rfl ev_assign) ?_
      refine awpl_nil ?_
      cases hr
      exact joinK_normal _ rfl (frLe_cons rfl frLe_nil) stoLe_nil
    · replace hr := cond_f c2 hr
      refine awpl_no (d := 10) rfl rfl rfl c2 ?_
      refine awpl_no (d := 10) rfl rfl rfl c2 ?_
      refine awpl_no (d := 10) rfl rfl rfl c2 ?_
      refine awpl_no (d := 10) rfl rfl rfl c2 ?_
      refine awpl_no (d := 10) rfl rfl rfl c2 ?_
      refine awpl_no (d := 10) rfl rfl rfl c2 ?_
      refine awpl_op rfl (opTo_q (d := 17) rfl rfl (ev_pick_f rfl c2)) ?_
      refine awpl_op rfl (opTo_q (d := 4) rfl rfl ev_assign) ?_
      refine awpl_nil ?_
      cases hr
      exact joinK_normal _ rfl (frLe_cons rfl frLe_nil) stoLe_nil
  · rintro _ rfl
    have hr := hy
    clear hx hy
    refine awp_ret ?_
    cases hr
    exact kret' rfl (.cons (res_tmp rfl) .nil) rfl
end Go.Proofs.Ytlpmbmilnoncdaa

/- A function of the program computes what its Lean function does. Written by program. -/
namespace Go.Proofs.Ytlpmbmilnoncdaa
open Go.RowKit
set_option maxRecDepth 100000
set_option maxHeartbeats 40000000
set_option linter.unusedVariables false
theorem bytes_HasSuffix_run (a0 : List UInt8) (a1 : List UInt8) (r : Bool) (hr : bytes_HasSuffix a0 a1 = some r) : Run Try.prog 41 [.l cU a0, .l cU a1] (.bo r) := by
  unfold bytes_HasSuffix at hr
  refine run_of_awp (fn := Try.f41) ⟨Try.func41, rfl, by kernel_rfl⟩ rfl (fun _ => rfl) fun g0 hg => ?_
  refine awp_seq ?_
  refine awp_region ?_
  refine awpl_op rfl (opTo_q (d := 4) rfl rfl ev_assign) ?_
  refine awpl_nil ?_
  refine kthen_normal ?_
  obtain ⟨j1, hx, hy⟩ := bind_some hr
  refine awp_join (fun j1 => [(4, .bo j1)]) (fun j1 => []) (fun z => j1 = z) ?_ ?_
  · have hr := hx
    clear hx hy
    refine awp_region ?_
    refine awpl_op rfl (opTo_q (d := 5) rfl rfl ev_move) ?_
    refine awpl_op rfl (opTo_q (d := 6) rfl rfl (ev_llen (f := cU) rfl ty_s_uint8.u)) ?_
    refine awpl_op rfl (opTo_q (d := 7) rfl rfl ev_move) ?_
    refine awpl_op rfl (opTo_q (d := 8) rfl rfl (ev_llen (f := cU) rfl ty_s_uint8.u)) ?_
    refine awpl_op rfl (opTo_q (d := 9) rfl rfl (ev_geq rfl rfl)) ?_
    refine awpl_op rfl (opTo_q (d := 10) rfl rfl ev_move) ?_
    refine bool_split (decide ((a1.length : Int) ≤ (a0.length : Int))) (fun c2 => ?_) (fun c2 => ?_)
    · replace hr := cond_t c2 hr
      refine awpl_yes (d := 10) rfl rfl rfl c2 (opTo_q (d := 11) rfl rfl ev_move) ?_
      refine awpl_yes (d := 10) rfl rfl rfl c2 (opTo_q (d := 12) rfl rfl ev_move) ?_
      refine awpl_yes (d := 10) rfl rfl rfl c2 (opTo_q (d := 13) rfl rfl (ev_llen (f := cU) rfl ty_s_uint8.u)) ?_
      refine awpl_yes (d := 10) rfl rfl rfl c2 (opTo_q (d := 14) rfl rfl ev_move) ?_
      refine awpl_yes (d := 10) rfl rfl rfl c2 (opTo_q (d := 15) rfl rfl (ev_llen (f := cU) rfl ty_s_uint8.u)) ?_
      refine awpl_yes (d := 10) rfl rfl rfl c2 (opTo_q (d := 16) rfl rfl (ev_sub rfl rfl)) ?_
      obtain ⟨v3, h4, hr⟩ := bind_some hr
      refine awpl_yes (d := 10) rfl rfl rfl c2 (opTo_q (d := 17) rfl rfl (ev_cutL (F := cU) rfl rfl ty_s_uint8 ty_uint8 (fun _ => rfl) h4)) ?_
      refine awpl_yes (d := 10) rfl rfl rfl c2 (opTo_q (d := 18) rfl rfl ev_move) ?_
      obtain ⟨v5, h6, hr⟩ := bind_some hr
      refine awpl_yes (d := 10) rfl rfl rfl c2 (opTo_call (k := 19) (bytes_Equal_run v3 a1 v5 h6) rfl rfl) ?_
      refine awpl_op rfl (opTo_q (d := 20) rfl rfl (ev_pick_t rfl c2)) ?_
      refine awpl_op rfl (opTo_q (d := 4) rfl rfl ev_assign) ?_
      refine awpl_nil ?_
      cases hr
      exact joinK_normal _ rfl (frLe_cons rfl frLe_nil) stoLe_nil
    · replace hr := cond_f c2 hr
      refine awpl_no (d := 10) rfl rfl rfl c2 ?_
      refine awpl_no (d := 10) rfl rfl rfl c2 ?_
      refine awpl_no (d := 10) rfl rfl rfl c2 ?_
      refine awpl_no (d := 10) rfl rfl rfl c2 ?_
      refine awpl_no (d := 10) rfl rfl rfl c2 ?_
      refine awpl_no (d := 10) rfl rfl rfl c2 ?_
      refine awpl_no (d := 10) rfl rfl rfl c2 ?_
      refine awpl_no (d := 10) rfl rfl rfl c2 ?_
      refine awpl_no (d := 10) rfl rfl rfl c2 ?_
      refine awpl_op rfl (opTo_q (d := 20) rfl rfl (ev_pick_f rfl c2)) ?_
      refine awpl_op rfl (opTo_q (d := 4) rfl rfl ev_assign) ?_
      refine awpl_nil ?_
      cases hr
      exact joinK_normal _ rfl (frLe_cons rfl frLe_nil) stoLe_nil
  · rintro _ rfl
    have hr := hy
    clear hx hy
    refine awp_ret ?_
    cases hr
    exact kret' rfl (.cons (res_tmp rfl) .nil) rfl
end Go.Proofs.Ytlpmbmilnoncdaa

/- A function of the program computes what its Lean function does. Written by program. -/
namespace Go.Proofs.Ytlpmbmilnoncdaa
open Go.RowKit
set_option maxRecDepth 100000
set_option maxHeartbeats 40000000
set_option linter.unusedVariables false
theorem lines_Stuff_run (a0 : List UInt8) (r : (List UInt8) × TFault) (hr : lines_Stuff a0 = some r) : Run Try.prog 24 [.l cU a0] (.tup [.l cU r.1, .agg [.i r.2.Code, .i r.2.Index]]) := by
  unfold lines_Stuff at hr
  refine run_of_awp (fn := Try.f24) ⟨Try.func24, rfl, by kernel_rfl⟩ rfl (fun _ => rfl) fun g0 hg => ?_
  refine awp_seq ?_
  refine awp_region ?_
  refine awpl_op rfl (opTo_q (d := 2) rfl rfl ev_assign) ?_
  refine awpl_adopt 1002 (d := 2) 5 1 rfl rfl rfl ?_
  refine awpl_op rfl (opTo_alloc (k := 3) 3 rfl ty_api_Fault (.inr ⟨rfl, rfl⟩) rfl rfl rfl) ?_
  refine awpl_nil ?_
  refine kthen_normal ?_
  refine awp_seq ?_
  refine awp_seq ?_
  refine awp_region ?_
  refine awpl_op rfl (opTo_q (d := 6) rfl rfl ev_move) ?_
  refine awpl_op rfl (opTo_q (d := 7) rfl rfl (ev_llen (f := cU) rfl ty_s_uint8.u)) ?_
  refine awpl_op rfl (opTo_q (d := 8) rfl rfl (ev_gtr rfl rfl)) ?_
  refine awpl_nil ?_
  refine kthen_normal ?_
  refine awp_cond rfl (fun c1 => ?_) (fun c1 => ?_)
  · replace hr := cond_t c1 hr
    refine awp_seq ?_
    refine awp_region ?_
    obtain ⟨v2, h3, hr⟩ := bind_some hr
    refine awpl_op rfl (opTo_call (k := 9) (basic_Fault_run 1 ((-1)) v2 h3) rfl rfl) ?_
    refine awpl_op rfl (opTo_q (d := 2) rfl rfl ev_assign) ?_
    refine awpl_adopt 2002 (d := 2) 5 1 rfl rfl rfl ?_
    refine awpl_op rfl (opTo_store rfl rfl rfl ty_api_Fault rfl rfl) ?_
    refine awpl_nil ?_
    refine kthen_normal ?_
    refine awp_pub (d := 2) (F := cU) (l := (([] : List UInt8))) rfl rfl ?_
    refine awp_ret ?_
    refine kthen_ret ?_
    cases hr
    exact kret' rfl (.cons (res_tmp rfl) (.cons (res_cellN rfl rfl ty_api_Fault rfl rfl) .nil)) rfl
  · replace hr := cond_f c1 hr
    refine awp_skip ?_
    refine kthen_normal ?_
    refine awp_seq ?_
    obtain ⟨j4, hx, hy⟩ := bind_some hr
    refine awp_join (fun j4 => [(0, .l cU a0), (3, .ptr 3 0), (19, .bo j4)]) (fun j4 => [(3, .cells [.i 0, .i 0])]) (fun z => j4 = z) ?_ ?_
    · have hr := hx
      clear hx hy
      refine awp_region ?_
      refine awpl_op rfl (opTo_q (d := 10) rfl rfl ev_move) ?_
      refine awpl_op rfl (opTo_q (d := 11) rfl rfl (ev_llen (f := cU) rfl ty_s_uint8.u)) ?_
      refine awpl_op rfl (opTo_q (d := 12) rfl rfl (ev_gtr rfl rfl)) ?_
      refine awpl_op rfl (opTo_q (d := 13) rfl rfl ev_move) ?_
      refine bool_split (decide (0 < (a0.length : Int))) (fun c5 => ?_) (fun c5 => ?_)
      · replace hr := cond_t c5 hr
        refine awpl_yes (d := 13) rfl rfl rfl c5 (opTo_q (d := 14) rfl rfl ev_move) ?_
        refine awpl_litconv rfl (opGN_lit (F := cU) (l := ([(13 : UInt8), (10 : UInt8)] : List UInt8)) ty_s_uint8 ty_uint8 rfl (fun _ => rfl) rfl rfl) ty_s_uint8 ty_uint8 (wanted_yes (d := 13) rfl rfl rfl c5) (wanted_yes (d := 13) rfl rfl rfl c5) rfl ?_
        obtain ⟨v6, h7, hr⟩ := bind_some hr
        refine awpl_yes (d := 13) rfl rfl rfl c5 (opTo_call (k := 17) (bytes_HasSuffix_run a0 (([(13 : UInt8), (10 : UInt8)] : List UInt8)) v6 h7) rfl rfl) ?_
        refine awpl_yes (d := 13) rfl rfl rfl c5 (opTo_q (d := 18) rfl rfl (ev_not rfl)) ?_
        refine awpl_op rfl (opTo_q (d := 19) rfl rfl (ev_pick_t rfl c5)) ?_
        refine awpl_nil ?_
        cases hr
        exact joinK_normal _ rfl (frLe_cons rfl (frLe_cons rfl (frLe_cons rfl frLe_nil))) (stoLe_cons rfl stoLe_nil)
      · replace hr := cond_f c5 hr
        refine awpl_no (d := 13) rfl rfl rfl c5 ?_
        refine awpl_no (d := 13) rfl rfl rfl c5 ?_
        refine awpl_no (d := 13) rfl rfl rfl c5 ?_
        refine awpl_no (d := 13) rfl rfl rfl c5 ?_
        refine awpl_no (d := 13) rfl rfl rfl c5 ?_
        refine awpl_op rfl (opTo_q (d := 19) rfl rfl (ev_pick_f rfl c5)) ?_
        refine awpl_nil ?_
        cases hr
        exact joinK_normal _ rfl (frLe_cons rfl (frLe_cons rfl (frLe_cons rfl frLe_nil))) (stoLe_cons rfl stoLe_nil)
    · rintro _ rfl
      have hr := hy
      clear hx hy
      refine awp_cond rfl (fun c8 => ?_) (fun c8 => ?_)
      · replace hr := cond_t c8 hr
        refine awp_seq ?_
        refine awp_region ?_
        obtain ⟨v9, h10, hr⟩ := bind_some hr
        refine awpl_op rfl (opTo_call (k := 20) (basic_Fault_run 5 ((-2)) v9 h10) rfl rfl) ?_
        refine awpl_op rfl (opTo_q (d := 2) rfl rfl ev_assign) ?_
        refine awpl_adopt 1002 (d := 2) 5 1 rfl rfl rfl ?_
        refine awpl_op rfl (opTo_store rfl rfl rfl ty_api_Fault rfl rfl) ?_
        refine awpl_nil ?_
        refine kthen_normal ?_
        refine awp_pub (d := 2) (F := cU) (l := (([] : List UInt8))) rfl rfl ?_
        refine awp_ret ?_
        refine kthen_ret ?_
        cases hr
        exact kret' rfl (.cons (res_tmp rfl) (.cons (res_cellN rfl rfl ty_api_Fault rfl rfl) .nil)) rfl
      · replace hr := cond_f c8 hr
        refine awp_skip ?_
        refine kthen_normal ?_
        refine awp_seq ?_
        refine awp_region ?_
        refine awpl_op rfl (opTo_alloc (k := 4) 4 rfl ty_s_uint8 (.inl rfl) rfl rfl rfl) ?_
        refine awpl_adoptC 1004 (o := 4) (j := 0) 5 1 rfl rfl rfl rfl ?_
        refine awpl_nil ?_
        refine kthen_normal ?_
        refine awp_seq ?_
        refine awp_seq ?_
        refine awp_region ?_
        refine awpl_op rfl (opTo_q (d := 21) rfl rfl ev_move) ?_
        refine awpl_inl (fn := Try.f40) (args := [.l cU a0]) 900000 999999 [(3, .ptr 3 0), (4, .ptr 4 0)] (wanted_plain rfl) rfl ⟨Try.func40, rfl, by kernel_rfl⟩ rfl rfl (.cons rfl (.cons rfl .nil)) fun T9 ds9 hT9 => ?_
        refine awp_seq ?_
        refine awp_region ?_
        refine awpl_op rfl (opTo_box (k := 1) 1 rfl rfl rfl rfl rfl) ?_
        refine awpl_op rfl (opTo_q (d := 2) rfl rfl ev_assign) ?_
        refine awpl_nil ?_
        refine kthen_normal ?_
        refine awp_seq ?_
        refine awp_region ?_
        refine awpl_op rfl (opTo_q (d := 3) rfl rfl (ev_makeFunc rfl rfl)) ?_
        refine awpl_op rfl (opTo_q (d := 2) rfl rfl ev_assign) ?_
        refine awpl_nil ?_
        refine kthen_normal ?_
        refine awp_ret ?_
        refine inlK (cs := [.fn (.func 57) [] [.ptr 1 0]]) (fr'' := [(3, .ptr 3 0), (4, .ptr 4 0)]) (σ'' := [(1, .cells [.l cU a0]), (1004, .row 5 false 1 (List.map cU (([] : List UInt8)))), (4, .cells [.hs 1004 0]), (3, .cells [.i 0, .i 0])]) (.inl rfl) frLe_refl stoLe_refl (.cons (res_tmp rfl) .nil) (.cons rfl (.cons rfl .nil)) rfl (stoLe_cons rfl (stoLe_cons rfl (stoLe_cons rfl (stoLe_cons rfl stoLe_nil)))) ?_
        refine awpl_nil ?_
        refine kthen_normal ?_
        refine awp_block ?_
        refine awp_rangef (fn0 := Try.f57) 1000000 1099998 1099999 [(3, .ptr 3 0), (4, .ptr 4 0), (22, .fn (.func 57) [] [.ptr 1 0])] rfl rfl rfl ⟨Try.func57, rfl, by kernel_rfl⟩ rfl rfl rfl rfl rfl (.cons rfl (.cons rfl (.cons rfl .nil))) fun T10 b10 L10 ds10 hT10 hLs10 hLp10 hLt10 hLq10 hLa10 hLb10 => ?_
        refine awp_seq ?_
        refine awp_region ?_
        refine awpl_op rfl (opTo_q (d := 3) rfl rfl ev_assign) ?_
        refine awpl_nil ?_
        refine kthen_normal ?_
        refine awp_block ?_
        obtain ⟨b12, hl, hr⟩ := bind_some hr
        refine awp_loop (lines_Stuff_l1 a0) (fun s11 => [(0, .fn (.yield b10) [] []), (1, .ptr 1 0), (3, .i s11.1)]) (fun s11 => [(1099999, .sus g0.w.heap.size ds10), (1099998, .lp b10 L10), (1000003, .hold (.ptr 3 0) (T10.getD 3 undef)), (1000004, .hold (.ptr 4 0) (T10.getD 4 undef)), (1000022, .hold (.fn (.func 57) [] [.ptr 1 0]) (T10.getD 22 undef)), (1, .cells [.l cU a0]), (1004, .row 5 false 1 (List.map cU s11.2)), (4, .cells [.hs 1004 0]), (3, .cells [.i 0, .i 0])]) (fun b12 => At .ret [] [(1099999, .sus g0.w.heap.size ds10), (1099998, .lp b10 L10), (1000003, .hold (.ptr 3 0) (T10.getD 3 undef)), (1000004, .hold (.ptr 4 0) (T10.getD 4 undef)), (1000022, .hold (.fn (.func 57) [] [.ptr 1 0]) (T10.getD 22 undef)), (1, .cells [.l cU a0]), (1004, .row 5 false 1 (List.map cU b12)), (4, .cells [.hs 1004 0]), (3, .cells [.i 0, .i 0])]) ?_ ((0, ([] : List UInt8))) hl (frLe_cons rfl (frLe_cons rfl (frLe_cons rfl frLe_nil))) (stoLe_cons rfl (stoLe_cons rfl (stoLe_cons rfl (stoLe_cons rfl (stoLe_cons rfl (stoLe_cons rfl (stoLe_cons rfl (stoLe_cons rfl (stoLe_cons rfl stoLe_nil))))))))) ?_
        · intro s11 x13 hr
          unfold lines_Stuff_l1 at hr
          refine awp_block ?_
          refine awp_seq ?_
          refine awp_region ?_
          refine awpl_op rfl (opTo_q (d := 5) rfl rfl (ev_load rfl rfl ty_s_uint8 rfl rfl)) ?_
          refine awpl_op rfl (opTo_q (d := 6) rfl rfl ev_move) ?_
          obtain ⟨v14, h15, hr⟩ := bind_some hr
          refine awpl_op rfl (opTo_q (d := 7) rfl rfl (ev_cutL (F := cU) rfl rfl ty_s_uint8 ty_uint8 (fun _ => rfl) h15)) ?_
          refine awpl_litconv rfl (opGN_lit (F := cU) (l := ([(13 : UInt8), (10 : UInt8)] : List UInt8)) ty_s_uint8 ty_uint8 rfl (fun _ => rfl) rfl rfl) ty_s_uint8 ty_uint8 (wanted_plain rfl) (wanted_plain rfl) rfl ?_
          obtain ⟨v16, h17, hr⟩ := bind_some hr
          refine awpl_op rfl (opTo_call (k := 10) (bytes_Index_run v14 (([(13 : UInt8), (10 : UInt8)] : List UInt8)) v16 h17) rfl rfl) ?_
          refine awpl_op rfl (opTo_q (d := 4) rfl rfl ev_assign) ?_
          refine awpl_nil ?_
          refine kthen_normal ?_
          refine awp_seq ?_
          obtain ⟨j18, hx, hy⟩ := bind_some hr
          refine awp_join (fun j18 => [(0, .fn (.yield b10) [] []), (1, .ptr 1 0), (3, .i s11.1), (4, .i v16), (27, .bo j18.1)]) (fun j18 => [(1099999, .sus g0.w.heap.size ds10), (1099998, .lp b10 L10), (1000003, .hold (.ptr 3 0) (T10.getD 3 undef)), (1000004, .hold (.ptr 4 0) (T10.getD 4 undef)), (1000022, .hold (.fn (.func 57) [] [.ptr 1 0]) (T10.getD 22 undef)), (1, .cells [.l cU a0]), (1004, .row 5 false 1 (List.map cU j18.2)), (4, .cells [.hs 1004 0]), (3, .cells [.i 0, .i 0])]) (fun z => j18 = z) ?_ ?_
          · have hr := hx
            clear hx hy
            refine awp_region ?_
            refine awpl_op rfl (opTo_q (d := 11) rfl rfl ev_move) ?_
            refine awpl_op rfl (opTo_q (d := 12) rfl rfl (ev_lss rfl rfl)) ?_
            refine awpl_op rfl (opTo_q (d := 13) rfl rfl ev_move) ?_
            refine bool_split (decide (v16 < 0)) (fun c19 => ?_) (fun c19 => ?_)
            · replace hr := cond_t c19 hr
              refine awpl_no (d := 13) rfl rfl rfl c19 ?_
              refine awpl_no (d := 13) rfl rfl rfl c19 ?_
              refine awpl_no (d := 13) rfl rfl rfl c19 ?_
              refine awpl_no (d := 13) rfl rfl rfl c19 ?_
              refine awpl_no (d := 13) rfl rfl rfl c19 ?_
              refine awpl_no (d := 13) rfl rfl rfl c19 ?_
              refine awpl_no (d := 13) rfl rfl rfl c19 ?_
              refine awpl_no (d := 13) rfl rfl rfl c19 ?_
              refine awpl_no (d := 13) rfl rfl rfl c19 ?_
              refine awpl_no (d := 13) rfl rfl rfl c19 ?_
              refine awpl_no (d := 13) rfl rfl rfl c19 ?_
              refine awpl_no (d := 13) rfl rfl rfl c19 ?_
              refine awpl_no (d := 13) rfl rfl rfl c19 ?_
              refine awpl_op rfl (opTo_q (d := 27) rfl rfl (ev_pick_t rfl c19)) ?_
              refine awpl_nil ?_
              cases hr
              exact joinK_normal _ rfl (frLe_cons rfl (frLe_cons rfl (frLe_cons rfl (frLe_cons rfl (frLe_cons rfl frLe_nil))))) (stoLe_cons rfl (stoLe_cons rfl (stoLe_cons rfl (stoLe_cons rfl (stoLe_cons rfl (stoLe_cons rfl (stoLe_cons rfl (stoLe_cons rfl (stoLe_cons rfl stoLe_nil)))))))))
            · replace hr := cond_f c19 hr
              refine awpl_yes (d := 13) rfl rfl rfl c19 (opTo_q (d := 14) rfl rfl ev_move) ?_
              refine awpl_yes (d := 13) rfl rfl rfl c19 (opTo_q (d := 15) rfl rfl (ev_load rfl rfl ty_s_uint8 rfl rfl)) ?_
              refine awpl_yes (d := 13) rfl rfl rfl c19 (opTo_q (d := 16) rfl rfl ev_move) ?_
              refine awpl_yes (d := 13) rfl rfl rfl c19 (opTo_q (d := 17) rfl rfl ev_move) ?_
              refine awpl_yes (d := 13) rfl rfl rfl c19 (opTo_q (d := 18) rfl rfl ev_move) ?_
              refine awpl_yes (d := 13) rfl rfl rfl c19 (opTo_q (d := 19) rfl rfl (ev_add rfl rfl)) ?_
              obtain ⟨v20, h21, hr⟩ := bind_some hr
              refine awpl_yes (d := 13) rfl rfl rfl c19 (opTo_q (d := 20) rfl rfl (ev_cutLH (F := cU) rfl rfl rfl ty_s_uint8 ty_uint8 (fun _ => rfl) h21)) ?_
              refine awpl_yes (d := 13) rfl rfl rfl c19 (opTo_q (d := 21) rfl rfl ev_move) ?_
              refine awpl_yes (d := 13) rfl rfl rfl c19 (opTo_q (d := 22) rfl rfl ev_move) ?_
              refine awpl_yes (d := 13) rfl rfl rfl c19 (opTo_q (d := 23) rfl rfl (ev_add rfl rfl)) ?_
              refine awpl_yes (d := 13) rfl rfl rfl c19 (opTo_q (d := 24) rfl rfl (ev_add rfl rfl)) ?_
              refine awpl_yieldf (ps := [23, 24]) (args := [.l cU v20, .i ((w64 ((w64 (s11.1 + v16)) + 2)))]) 1000000 1600000 1099998 1699999 [(3, .ptr 3 0), (4, .ptr 4 0), (22, .fn (.func 57) [] [.ptr 1 0])] [(0, .fn (.yield b10) [] []), (1, .ptr 1 0), (3, .i s11.1), (4, .i v16), (13, .bo (decide (v16 < 0))), (14, .fn (.yield b10) [] []), (15, .l cU a0), (16, .i s11.1), (17, .i s11.1), (18, .i v16), (19, .i ((w64 (s11.1 + v16)))), (20, .l cU v20), (21, .i s11.1), (22, .i v16), (23, .i ((w64 (s11.1 + v16)))), (24, .i ((w64 ((w64 (s11.1 + v16)) + 2))))] (wanted_yes (d := 13) rfl rfl rfl c19) rfl rfl hLs10 hLp10 hLt10 hLq10 hLa10 hLb10 hT10 rfl rfl rfl rfl (.cons rfl (.cons rfl (.cons rfl (.cons rfl (.cons rfl (.cons rfl (.cons rfl (.cons rfl (.cons rfl (.cons rfl (.cons rfl (.cons rfl (.cons rfl (.cons rfl (.cons rfl (.cons rfl .nil)))))))))))))))) (.cons rfl (.cons rfl (.cons rfl .nil))) fun T16 ds16 hT16 => ?_
              refine awp_region ?_
              refine awpl_op rfl (opTo_q (d := 5) rfl rfl ev_assign) ?_
              refine awpl_nil ?_
              refine asgK frLe_refl stoLe_refl rfl ?_
              refine awp_block ?_
              obtain ⟨j22, hx, hy⟩ := bind_some hr
              refine awp_join (fun j22 => [(4, .ptr 4 0), (5, .l cU v20)]) (fun j22 => [(1699999, .sus g0.w.heap.size ds16), (1600000, .hold (.fn (.yield b10) [] []) (T16.getD 0 undef)), (1600001, .hold (.ptr 1 0) (T16.getD 1 undef)), (1600003, .hold (.i s11.1) (T16.getD 3 undef)), (1600004, .hold (.i v16) (T16.getD 4 undef)), (1600013, .hold (.bo (decide (v16 < 0))) (T16.getD 13 undef)), (1600014, .hold (.fn (.yield b10) [] []) (T16.getD 14 undef)), (1600015, .hold (.l cU a0) (T16.getD 15 undef)), (1600016, .hold (.i s11.1) (T16.getD 16 undef)), (1600017, .hold (.i s11.1) (T16.getD 17 undef)), (1600018, .hold (.i v16) (T16.getD 18 undef)), (1600019, .hold (.i ((w64 (s11.1 + v16)))) (T16.getD 19 undef)), (1600020, .hold (.l cU v20) (T16.getD 20 undef)), (1600021, .hold (.i s11.1) (T16.getD 21 undef)), (1600022, .hold (.i v16) (T16.getD 22 undef)), (1600023, .hold (.i ((w64 (s11.1 + v16)))) (T16.getD 23 undef)), (1600024, .hold (.i ((w64 ((w64 (s11.1 + v16)) + 2)))) (T16.getD 24 undef)), (1099999, .sus g0.w.heap.size ds10), (1099998, .lp b10 ((busy L10))), (1000003, .hold (.ptr 3 0) (T10.getD 3 undef)), (1000004, .hold (.ptr 4 0) (T10.getD 4 undef)), (1000022, .hold (.fn (.func 57) [] [.ptr 1 0]) (T10.getD 22 undef)), (1, .cells [.l cU a0]), (1004, .row 5 false 1 (List.map cU j22)), (4, .cells [.hs 1004 0]), (3, .cells [.i 0, .i 0])]) (fun z => j22 = z) ?_ ?_
              · have hr := hx
                clear hx hy
                refine awp_seq ?_
                refine awp_region ?_
                refine awpl_op rfl (opTo_q (d := 25) rfl rfl ev_move) ?_
                refine awpl_litconv rfl (opGN_lit (F := cU) (l := ([(46 : UInt8)] : List UInt8)) ty_s_uint8 ty_uint8 rfl (fun _ => rfl) rfl rfl) ty_s_uint8 ty_uint8 (wanted_plain rfl) (wanted_plain rfl) rfl ?_
                obtain ⟨v23, h24, hr⟩ := bind_some hr
                refine awpl_op rfl (opTo_call (k := 28) (bytes_HasPrefix_run v20 (([(46 : UInt8)] : List UInt8)) v23 h24) rfl rfl) ?_
                refine awpl_nil ?_
                refine kthen_normal ?_
                refine awp_cond rfl (fun c25 => ?_) (fun c25 => ?_)
                · replace hr := cond_t c25 hr
                  refine awp_region ?_
                  refine awpl_op rfl (opTo_q (d := 29) rfl rfl (ev_load rfl rfl ty_s_uint8 rfl rfl)) ?_
                  refine awpl_op rfl (opTo_g (d := 30) rfl rfl (opG_lit (F := cU) (l := ([(46 : UInt8)] : List UInt8)) ty_s_uint8 ty_uint8 rfl (fun _ => rfl) rfl rfl)) ?_
                  obtain ⟨v26, h27, hr⟩ := bind_some hr
                  refine awpl_op rfl (opTo_append (k := 31) (F := cU) (l := s11.2) (xs := (([(46 : UInt8)] : List UInt8))) (lim := 140737488355328) rfl rfl rfl rfl ty_s_uint8 ty_uint8 rfl rfl (fun _ => rfl) rfl h27) ?_
                  refine awpl_op rfl (opTo_store rfl rfl rfl ty_s_uint8 rfl rfl) ?_
                  refine awpl_nil ?_
                  cases hr
                  exact joinK_normal _ rfl (frLe_cons rfl (frLe_cons rfl frLe_nil)) (stoLe_cons rfl (stoLe_cons rfl (stoLe_cons rfl (stoLe_cons rfl (stoLe_cons rfl (stoLe_cons rfl (stoLe_cons rfl (stoLe_cons rfl (stoLe_cons rfl (stoLe_cons rfl (stoLe_cons rfl (stoLe_cons rfl (stoLe_cons rfl (stoLe_cons rfl (stoLe_cons rfl (stoLe_cons rfl (stoLe_cons rfl (stoLe_cons rfl (stoLe_cons rfl (stoLe_cons rfl (stoLe_cons rfl (stoLe_cons rfl (stoLe_cons rfl (stoLe_cons rfl (stoLe_cons rfl (stoLe_cons rfl stoLe_nil))))))))))))))))))))))))))
                · replace hr := cond_f c25 hr
                  refine awp_skip ?_
                  cases hr
                  exact joinK_normal _ rfl (frLe_cons rfl (frLe_cons rfl frLe_nil)) (stoLe_cons rfl (stoLe_cons rfl (stoLe_cons rfl (stoLe_cons rfl (stoLe_cons rfl (stoLe_cons rfl (stoLe_cons rfl (stoLe_cons rfl (stoLe_cons rfl (stoLe_cons rfl (stoLe_cons rfl (stoLe_cons rfl (stoLe_cons rfl (stoLe_cons rfl (stoLe_cons rfl (stoLe_cons rfl (stoLe_cons rfl (stoLe_cons rfl (stoLe_cons rfl (stoLe_cons rfl (stoLe_cons rfl (stoLe_cons rfl (stoLe_cons rfl (stoLe_cons rfl (stoLe_cons rfl (stoLe_cons rfl stoLe_nil))))))))))))))))))))))))))
              · rintro _ rfl
                have hr := hy
                clear hx hy
                refine awp_region ?_
                refine awpl_op rfl (opTo_q (d := 32) rfl rfl (ev_load rfl rfl ty_s_uint8 rfl rfl)) ?_
                refine awpl_op rfl (opTo_q (d := 33) rfl rfl ev_move) ?_
                obtain ⟨v28, h29, hr⟩ := bind_some hr
                refine awpl_op rfl (opTo_append (k := 34) (F := cU) (l := j22) (xs := v20) (lim := 140737488355328) rfl rfl rfl rfl ty_s_uint8 ty_uint8 rfl rfl (fun _ => rfl) rfl h29) ?_
                obtain ⟨v30, h31, hr⟩ := bind_some hr
                refine awpl_op rfl (opTo_appends (k := 35) (l := v28) (s := (([13, 10] : Str))) (lim := 140737488355328) rfl rfl rfl rfl ty_s_uint8 ty_string.u ty_uint8 rfl h31) ?_
                refine awpl_op rfl (opTo_store rfl rfl rfl ty_s_uint8 rfl rfl) ?_
                refine awpl_nil ?_
                refine kblock_normal ?_
                refine rndK (fr'' := [(0, .fn (.yield b10) [] []), (1, .ptr 1 0), (3, .i s11.1), (4, .i v16), (13, .bo (decide (v16 < 0))), (14, .fn (.yield b10) [] []), (15, .l cU a0), (16, .i s11.1), (17, .i s11.1), (18, .i v16), (19, .i ((w64 (s11.1 + v16)))), (20, .l cU v20), (21, .i s11.1), (22, .i v16), (23, .i ((w64 (s11.1 + v16)))), (24, .i ((w64 ((w64 (s11.1 + v16)) + 2))))]) (σ'' := [(1099999, .sus g0.w.heap.size ds10), (1099998, .lp b10 L10), (1000003, .hold (.ptr 3 0) (T10.getD 3 undef)), (1000004, .hold (.ptr 4 0) (T10.getD 4 undef)), (1000022, .hold (.fn (.func 57) [] [.ptr 1 0]) (T10.getD 22 undef)), (1, .cells [.l cU a0]), (1004, .row 5 false 1 (List.map cU v30)), (4, .cells [.hs 1004 0]), (3, .cells [.i 0, .i 0])]) .off stoLe_refl rfl (.cons rfl (.cons rfl (.cons rfl (.cons rfl (.cons rfl (.cons rfl (.cons rfl (.cons rfl (.cons rfl (.cons rfl (.cons rfl (.cons rfl (.cons rfl (.cons rfl (.cons rfl (.cons rfl .nil)))))))))))))))) rfl (stoLe_cons rfl (stoLe_cons rfl (stoLe_cons rfl (stoLe_cons rfl (stoLe_cons rfl (stoLe_cons rfl (stoLe_cons rfl (stoLe_cons rfl (stoLe_cons rfl stoLe_nil))))))))) ?_
                refine awpl_yes (d := 13) rfl rfl rfl c19 (opTo_q (d := 26) rfl rfl (ev_not rfl)) ?_
                refine awpl_op rfl (opTo_q (d := 27) rfl rfl (ev_pick_f rfl c19)) ?_
                refine awpl_nil ?_
                cases hr
                exact joinK_normal _ rfl (frLe_cons rfl (frLe_cons rfl (frLe_cons rfl (frLe_cons rfl (frLe_cons rfl frLe_nil))))) (stoLe_cons rfl (stoLe_cons rfl (stoLe_cons rfl (stoLe_cons rfl (stoLe_cons rfl (stoLe_cons rfl (stoLe_cons rfl (stoLe_cons rfl (stoLe_cons rfl stoLe_nil)))))))))
          · rintro _ rfl
            have hr := hy
            clear hx hy
            refine awp_cond rfl (fun c32 => ?_) (fun c32 => ?_)
            · replace hr := cond_t c32 hr
              refine awp_ret ?_
              refine kthen_ret ?_
              refine kblock_ret ?_
              cases hr
              exact ⟨by simp, rfl, frLe_nil, (stoLe_cons rfl (stoLe_cons rfl (stoLe_cons rfl (stoLe_cons rfl (stoLe_cons rfl (stoLe_cons rfl (stoLe_cons rfl (stoLe_cons rfl (stoLe_cons rfl stoLe_nil)))))))))⟩
            · replace hr := cond_f c32 hr
              refine awp_skip ?_
              refine kthen_normal ?_
              refine awp_region ?_
              refine awpl_op rfl (opTo_q (d := 28) rfl rfl ev_move) ?_
              refine awpl_op rfl (opTo_q (d := 29) rfl rfl ev_move) ?_
              refine awpl_op rfl (opTo_q (d := 30) rfl rfl (ev_add rfl rfl)) ?_
              refine awpl_op rfl (opTo_q (d := 31) rfl rfl (ev_add rfl rfl)) ?_
              refine awpl_op rfl (opTo_q (d := 3) rfl rfl ev_assign) ?_
              refine awpl_nil ?_
              refine kblock_normal ?_
              cases hr
              exact ⟨rfl, (frLe_cons rfl (frLe_cons rfl (frLe_cons rfl frLe_nil))), (stoLe_cons rfl (stoLe_cons rfl (stoLe_cons rfl (stoLe_cons rfl (stoLe_cons rfl (stoLe_cons rfl (stoLe_cons rfl (stoLe_cons rfl (stoLe_cons rfl stoLe_nil)))))))))⟩
        · intro e fr2 st2 hq
          obtain ⟨rfl, hf, hs⟩ := hq
          refine kblock_ret ?_
          refine itrK (L' := L10) (fr'' := [(3, .ptr 3 0), (4, .ptr 4 0), (22, .fn (.func 57) [] [.ptr 1 0])]) (σ'' := [(1, .cells [.l cU a0]), (1004, .row 5 false 1 (List.map cU b12)), (4, .cells [.hs 1004 0]), (3, .cells [.i 0, .i 0])]) (.inl rfl) hs rfl (.cons rfl (.cons rfl (.cons rfl .nil))) rfl (stoLe_cons rfl (stoLe_cons rfl (stoLe_cons rfl (stoLe_cons rfl stoLe_nil)))) rfl ?_
          refine .off ?_
          refine kblock_normal ?_
          refine kthen_normal ?_
          refine awp_seq ?_
          refine awp_region ?_
          refine awpl_op rfl (opTo_q (d := 36) rfl rfl (ev_load rfl rfl ty_s_uint8 rfl rfl)) ?_
          obtain ⟨v33, h34, hr⟩ := bind_some hr
          refine awpl_op rfl (opTo_appends (k := 37) (l := b12) (s := (([46, 13, 10] : Str))) (lim := 140737488355328) rfl rfl rfl rfl ty_s_uint8 ty_string.u ty_uint8 rfl h34) ?_
          obtain ⟨v35, h36, hr⟩ := bind_some hr
          refine awpl_op rfl (opTo_call (k := 38) (basic_None_run  v35 h36) rfl rfl) ?_
          refine awpl_op rfl (opTo_q (d := 2) rfl rfl ev_assign) ?_
          refine awpl_op rfl (opTo_store rfl rfl rfl ty_api_Fault rfl rfl) ?_
          refine awpl_nil ?_
          refine kthen_normal ?_
          refine awp_pub (d := 2) (F := cU) (l := v33) rfl rfl ?_
          refine awp_ret ?_
          cases hr
          exact kret' rfl (.cons (res_tmp rfl) (.cons (res_cellN rfl rfl ty_api_Fault rfl rfl) .nil)) rfl
end Go.Proofs.Ytlpmbmilnoncdaa

/- A function of the program computes what its Lean function does. Written by program. -/
namespace Go.Proofs.Ytlpmbmilnoncdaa
open Go.RowKit
set_option maxRecDepth 100000
set_option maxHeartbeats 40000000
set_option linter.unusedVariables false
theorem bytes_TrimPrefix_run (a0 : List UInt8) (a1 : List UInt8) (r : List UInt8) (hr : bytes_TrimPrefix a0 a1 = some r) : Run Try.prog 43 [.l cU a0, .l cU a1] (.l cU r) := by
  unfold bytes_TrimPrefix at hr
  refine run_of_awp (fn := Try.f43) ⟨Try.func43, rfl, by kernel_rfl⟩ rfl (fun _ => rfl) fun g0 hg => ?_
  refine awp_seq ?_
  refine awp_region ?_
  refine awpl_op rfl (opTo_q (d := 4) rfl rfl ev_assign) ?_
  refine awpl_nil ?_
  refine kthen_normal ?_
  refine awp_seq ?_
  refine awp_seq ?_
  refine awp_region ?_
  refine awpl_op rfl (opTo_q (d := 5) rfl rfl ev_move) ?_
  refine awpl_op rfl (opTo_q (d := 6) rfl rfl ev_move) ?_
  obtain ⟨v1, h2, hr⟩ := bind_some hr
  refine awpl_op rfl (opTo_call (k := 7) (bytes_HasPrefix_run a0 a1 v1 h2) rfl rfl) ?_
  refine awpl_nil ?_
  refine kthen_normal ?_
  refine awp_cond rfl (fun c3 => ?_) (fun c3 => ?_)
  · replace hr := cond_t c3 hr
    refine awp_seq ?_
    refine awp_region ?_
    refine awpl_op rfl (opTo_q (d := 8) rfl rfl ev_move) ?_
    refine awpl_op rfl (opTo_q (d := 9) rfl rfl ev_move) ?_
    refine awpl_op rfl (opTo_q (d := 10) rfl rfl (ev_llen (f := cU) rfl ty_s_uint8.u)) ?_
    obtain ⟨v4, h5, hr⟩ := bind_some hr
    refine awpl_op rfl (opTo_q (d := 11) rfl rfl (ev_cutL (F := cU) rfl rfl ty_s_uint8 ty_uint8 (fun _ => rfl) h5)) ?_
    refine awpl_op rfl (opTo_q (d := 4) rfl rfl ev_assign) ?_
    refine awpl_nil ?_
    refine kthen_normal ?_
    refine awp_ret ?_
    refine kthen_ret ?_
    cases hr
    exact kret' rfl (.cons (res_tmp rfl) .nil) rfl
  · replace hr := cond_f c3 hr
    refine awp_skip ?_
    refine kthen_normal ?_
    refine awp_seq ?_
    refine awp_region ?_
    refine awpl_op rfl (opTo_q (d := 12) rfl rfl ev_move) ?_
    refine awpl_op rfl (opTo_q (d := 4) rfl rfl ev_assign) ?_
    refine awpl_nil ?_
    refine kthen_normal ?_
    refine awp_ret ?_
    cases hr
    exact kret' rfl (.cons (res_tmp rfl) .nil) rfl
end Go.Proofs.Ytlpmbmilnoncdaa

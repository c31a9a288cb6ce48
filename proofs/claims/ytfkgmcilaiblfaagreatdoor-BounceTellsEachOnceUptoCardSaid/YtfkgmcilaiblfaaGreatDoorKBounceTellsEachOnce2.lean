/- Part 2 of the proof of the law BounceTellsEachOnce: what it needs. -/
import Derived.Test.YtfkgmcilaiblfaaGreatDoorKBounceTellsEachOnce1
import Derived.Test.YtfkgmcilaiblfaaGreatDoorShelf
set_option linter.unusedVariables false
set_option linter.unusedSimpArgs false
/- The law EnvelopeMatchesSpec in plain Lean. -/
namespace Go.Proofs.YtfkgmcilaiblfaaGreatDoor
open Go.RowKit
set_option linter.unusedVariables false
set_option maxHeartbeats 1000000

theorem smallM_of {m : TMessage} (h : TMessage.bk m ≤ 1048576) : smallM m := by
  unfold TMessage.bk at h
  have h1 := bkL_len (bk := TField.bk) (fun x => by unfold TField.bk; omega) m.Fields
  have h2 := bkL_len (bk := fun _ : UInt8 => 1) (fun x => by simp) m.Body
  refine ⟨⟨by omega, fun f hf => ?_⟩, by omega⟩
  have h5 := bkL_mem (bk := TField.bk) hf
  have h6 : TField.bk f = f.Name.length + 1 + (f.Value.length + 1) + 1 := rfl
  omega
def mailF (m : TMail) : TFault := if (envF m.Envelope).Code != 0 then envF m.Envelope else if (msgF m.Message).Code != 0 then ⟨(msgF m.Message).Code, -30⟩ else ⟨0, 0⟩
theorem envelope_Check_eq (m : TMail) (h1 : smallE m.Envelope) (h2 : smallM m.Message) : envelope_Check m = some (mailF m) := by
  unfold envelope_Check mailF
  rw [envelope_Validate_eq _ h1, message_Validate_eq _ h2]
  simp only [Option.bind_some, basic_Failed_eq, basic_Fault_eq, basic_None_eq]
  cases (envF m.Envelope).Code != 0 <;> cases (msgF m.Message).Code != 0 <;> rfl
end Go.Proofs.YtfkgmcilaiblfaaGreatDoor

/- Sending on: the plain functions of its parts, and what the typed functions compute. -/
namespace Go.Proofs.YtfkgmcilaiblfaaGreatDoor
open Go.RowKit
set_option linter.unusedVariables false
set_option maxHeartbeats 1000000

/-! ### rules as aliases -/
theorem map_fold {α β : Type} (f : α → β) (l : List α) : ∀ o : List β, l.foldl (fun o x => o ++ [f x]) o = o ++ l.map f := by
  induction l with
  | nil => intro o; simp
  | cons x l ih => intro o; simp [ih]
/-! ### letters -/
def lowC (c : UInt8) : UInt8 := bif decide ((65 : UInt8) ≤ c) && decide (c ≤ 90) then c + 97 - 65 else c
def lowP (s : Str) : Str := s.map lowC
theorem basic_Lower_eq (s : Str) (hs : s.length ≤ 1048576) : basic_Lower s = some (lowP s) := by
  unfold basic_Lower
  have key : ∀ r p : Str, s = p ++ r → iter (basic_Lower_l1 s) ((p.length : Int), p.map lowC ++ r) = some (lowP s) := by
    intro r
    induction r with
    | nil =>
      intro p h
      have hp : p = s := by simp [h]
      subst hp
      refine iter_out ?_
      unfold basic_Lower_l1
      dsimp only
      rw [dec_len]
      simp [lowP]
    | cons c r ih =>
      intro p h
      have hx : s[p.length]? = some c := by simp [h]
      have hi := lt_get hx
      have hx2 : (p.map lowC ++ c :: r)[p.length]? = some c := by
        rw [List.getElem?_append_right (by simp)]; simp
      have hb : basic_Lower_l1 s ((p.length : Int), p.map lowC ++ c :: r) = some (.cont (((p.length + 1 : Nat) : Int), (p ++ [c]).map lowC ++ r)) := by
        unfold basic_Lower_l1
        dsimp only
        rw [dec_lt hx, idx_get hx2]
        simp only [cond_true, Option.bind_some, u8_le1 65 c (by decide), u8_le2 90 c (by decide), sc p.length (by omega), Int.toNat_natCast]
        have hset : (p.map lowC ++ c :: r).set p.length (lowC c) = (p ++ [c]).map lowC ++ r := by
          rw [List.set_append_right _ _ (by simp)]
          simp
        have hsame : lowC c = c → p.map lowC ++ c :: r = (p ++ [c]).map lowC ++ r := by intro h; simp [h]
        unfold lowC at hset hsame ⊢
        cases h1 : decide ((65 : UInt8) ≤ c) <;> cases h2 : decide (c ≤ 90) <;> rw [h1, h2] at hset hsame <;> simp only [Bool.and_true, Bool.and_false, Bool.true_and, Bool.false_and, cond_true, cond_false, Option.bind_some] at hset hsame ⊢
        · rw [hsame trivial]
        · rw [hsame trivial]
        · rw [hsame trivial]
        · rw [hset]
      rw [iter_cont hb]
      have := ih (p ++ [c]) (by simp [h])
      simpa using this
  have := key s [] rfl
  have h2 : iter (basic_Lower_l1 s) (0, s) = some (lowP s) := this
  rw [h2]; rfl
def sameP (a b : Str) : Bool := lowP a == lowP b
theorem basic_Same_eq (a b : Str) (ha : a.length ≤ 1048576) (hb : b.length ≤ 1048576) : basic_Same a b = some (sameP a b) := by
  unfold basic_Same sameP
  rw [basic_Lower_eq a ha, basic_Lower_eq b hb]
  simp only [Option.bind_some]
  by_cases h : a.length = b.length
  · have : ((a.length : Int) == (b.length : Int)) = true := by simp [h]
    rw [this]; rfl
  · have : ((a.length : Int) == (b.length : Int)) = false := by rw [beq_eq_false_iff_ne]; omega
    rw [this]
    have : (lowP a == lowP b) = false := by
      rw [beq_eq_false_iff_ne]
      intro hc
      have := congrArg List.length hc
      simp [lowP] at this
      exact h this
    rw [this]; rfl

/-! ### fields -/
theorem header_name_eq (n : Str) (hn : n.length ≤ 1048576) : header_name n = some (fnP n) := by
  unfold header_name
  rw [fold_Fold_eq n [] hn (by simp)]
  simp only [Option.bind_some, basic_Failed_eq, Option.some.injEq]
  have h := codeP_eq ⟨n, []⟩
  unfold codeP at h
  dsimp only at h
  rw [h]
  unfold codeQ
  cases hf : fnP n with
  | false => rfl
  | true =>
    have h60 : n.length ≤ 60 := by unfold fnP at hf; simp only [Bool.and_eq_true, decide_eq_true_eq] at hf; exact hf.1.2
    have hl : flP n [] = [txt n []] := by unfold flP; exact linesOf_end (.inl (by have := txt_len n []; simp at this; omega))
    have hlb : longB (flP n []) = false := by
      rw [hl]
      have := txt_len n []
      unfold longB
      simp at this ⊢; omega
    have hv : valP [] = true := rfl
    rw [hlb, hv]; rfl
theorem header_valid_eq (l : List TField) (n : Str) (hl : smallF l) (hn : n.length ≤ 1048576) : header_valid l n = some (if (headF l).Code != 0 then headF l else if !fnP n then ⟨10, -3⟩ else ⟨0, 0⟩) := by
  unfold header_valid
  rw [header_Validate_eq l hl, header_name_eq n hn]
  simp only [Option.bind_some, basic_Failed_eq, basic_Fault_eq, basic_None_eq]
  cases (headF l).Code != 0 <;> cases fnP n <;> rfl
def getP (l : List TField) (n : Str) : List Str := (l.filter fun f => sameP f.Name n).map (·.Value)
theorem get_fold (n : Str) (l : List TField) : ∀ o : List Str, l.foldl (fun o (f : TField) => if sameP f.Name n then o ++ [f.Value] else o) o = o ++ getP l n := by
  unfold getP
  induction l with
  | nil => intro o; simp
  | cons f l ih => intro o; rw [List.foldl_cons, ih, List.filter_cons]; cases sameP f.Name n <;> simp
theorem header_Get_eq (l : List TField) (n : Str) (hl : smallF l) (hn : n.length ≤ 1048576) : header_Get l n = some (if (headF l).Code != 0 then ([], headF l) else if !fnP n then ([], ⟨10, -3⟩) else (getP l n, ⟨0, 0⟩)) := by
  unfold header_Get
  rw [header_valid_eq l n hl hn]
  obtain ⟨h1, h2⟩ := hl
  have := (iter_fold l (fun i (s : List Str) => (i, s)) (fun o (f : TField) => if sameP f.Name n then o ++ [f.Value] else o) id (fun i s => s.length ≤ i) (body := header_Get_l1 l n)
    (fun s _ => by unfold header_Get_l1; simp [dec_len]) (fun i f s hf hi => by
      have hlt := lt_get hf
      have hfs := h2 f (List.mem_of_getElem? hf)
      refine ⟨?_, by split <;> (try simp) <;> omega⟩
      unfold header_Get_l1
      dsimp only
      rw [dec_lt hf, idx_get hf]
      simp only [cond_true, Option.bind_some, sc i (by omega), basic_Same_eq _ _ hfs.1 hn]
      cases sameP f.Name n with
      | false => rfl
      | true =>
        simp only [cond_true, if_true]
        rw [app_ok (by simp; omega)]; rfl) [] (by simp)).1
  rw [this, get_fold]
  simp only [Option.bind_some, basic_Failed_eq, basic_None_eq]
  cases hc : (headF l).Code != 0 with
  | true => simp [hc]
  | false => cases hf : fnP n <;> simp

/-! ### a field in front -/
end Go.Proofs.YtfkgmcilaiblfaaGreatDoor

/- Sending on: a step, the tree. -/
namespace Go.Proofs.YtfkgmcilaiblfaaGreatDoor
open Go.RowKit
set_option linter.unusedVariables false
set_option maxHeartbeats 1000000

/-! ### a step -/
theorem mailF_msg {m : TMail} (h : (mailF m).Code = 0) : (envF m.Envelope).Code = 0 ∧ (msgF m.Message).Code = 0 := by
  unfold mailF at h
  by_cases h1 : (envF m.Envelope).Code = 0
  · refine ⟨h1, ?_⟩
    have e : ((envF m.Envelope).Code != 0) = false := by simp [h1]
    rw [e] at h
    simp only [Bool.false_eq_true, if_false] at h
    cases hc : (msgF m.Message).Code != 0 with
    | false => simpa using hc
    | true => rw [hc] at h; simpa using h
  · have e : ((envF m.Envelope).Code != 0) = true := by simpa using h1
    rw [e] at h
    simp only [if_true] at h
    exact absurd h h1
theorem msgF_head {m : TMessage} (h : (msgF m).Code = 0) : (headF m.Fields).Code = 0 := by
  unfold msgF at h
  cases hc : (headF m.Fields).Code != 0 with
  | false => simpa using hc
  | true => rw [hc] at h; simpa using h
/-! ### the tree -/
end Go.Proofs.YtfkgmcilaiblfaaGreatDoor

/- Sending on: the closed example; what a step makes. -/
namespace Go.Proofs.YtfkgmcilaiblfaaGreatDoor
open Go.RowKit
set_option linter.unusedVariables false
set_option maxHeartbeats 1000000

theorem L_plain_eq (l : List Str) (hl : l.length ≤ 1048576) : L_plain l = some ⟨⟨[115, 64, 120], l.map (fun s => ⟨s, 1⟩), [55]⟩, ⟨[], []⟩⟩ := by
  unfold L_plain
  have := (iter_fold l (fun i (s : List TRecipient) => (i, s)) (fun s x => s ++ [(⟨x, 1⟩ : TRecipient)]) id (fun i s => s.length ≤ i) (body := L_plain_l1 l)
    (fun s _ => by unfold L_plain_l1; simp [dec_len]) (fun i x s hx hi => by
      have hlt := lt_get hx
      refine ⟨?_, by simp; omega⟩
      unfold L_plain_l1
      dsimp only
      rw [dec_lt hx, idx_get hx]
      simp only [cond_true, Option.bind_some, sc i (by omega)]
      rw [app_ok (by simp; omega)]; rfl) [] (by simp)).1
  rw [this, map_fold]
  rfl
instance : DecidableEq TField := fun a b => decidable_of_iff (a.Name = b.Name ∧ a.Value = b.Value) (by cases a; cases b; simp)
instance : DecidableEq TMessage := fun a b => decidable_of_iff (a.Fields = b.Fields ∧ a.Body = b.Body) (by cases a; cases b; simp)
instance : DecidableEq TMail := fun a b => decidable_of_iff (a.Envelope = b.Envelope ∧ a.Message = b.Message) (by cases a; cases b; simp)
/-! ### what a step makes -/
end Go.Proofs.YtfkgmcilaiblfaaGreatDoor

/- The reference's side of messages: letters, values, recipients, a field in front, equal mails. -/
namespace Go.Proofs.YtfkgmcilaiblfaaGreatDoor
open Go.RowKit
set_option linter.unusedVariables false
set_option maxHeartbeats 1000000

end Go.Proofs.YtfkgmcilaiblfaaGreatDoor

/- Mailing lists: the plain functions, and what the typed functions of the program compute. -/
namespace Go.Proofs.YtfkgmcilaiblfaaGreatDoor
open Go.RowKit
set_option linter.unusedVariables false
set_option maxHeartbeats 1000000

/-! ### copies -/
/-! ### members -/
/-! ### mails that are held -/
/-! ### mails of the list -/
end Go.Proofs.YtfkgmcilaiblfaaGreatDoor

/- Trace fields: the plain functions, and what the typed functions compute. -/
namespace Go.Proofs.YtfkgmcilaiblfaaGreatDoor
open Go.RowKit
set_option linter.unusedVariables false
set_option maxHeartbeats 1000000
/-- the text of an instant -/
noncomputable def whenP (t : Int) : Option Str := match R_When t with | some (x, true) => some x | _ => none
theorem whenP_cases (t : Int) : (whenP t = none ∧ R_When t = some ([], false) ∧ ∃ d f, dates_Civil t 0 = some (d, f) ∧ f.Code = 3) ∨
    ∃ w D m y h mi s, w < 7 ∧ 1 ≤ D ∧ D ≤ 31 ∧ m < 12 ∧ 1 ≤ y ∧ y ≤ 4000 ∧ h < 24 ∧ mi < 60 ∧ s < 60 ∧ whenP t = some (dateT w D m y h mi s) ∧ R_When t = some (dateT w D m y h mi s, true) ∧ ∃ d, dates_Civil t 0 = some (d, ⟨0, 0⟩) ∧ dates_Print d = some (dateT w D m y h mi s, ⟨0, 0⟩) := by
  rcases when_both t with ⟨h1, h2⟩ | ⟨w, D, m, y, h, mi, s, b1, b2, b3, b4, b5, b6, b7, b8, b9, h1, h2⟩
  · exact .inl ⟨by unfold whenP; rw [h1], h1, h2⟩
  · exact .inr ⟨w, D, m, y, h, mi, s, b1, b2, b3, b4, b5, b6, b7, b8, b9, by unfold whenP; rw [h1], h1, h2⟩
theorem dateT_len {w D m y h mi s : Nat} (b1 : w < 7) (b3 : D ≤ 31) (b4 : m < 12) (b6 : y ≤ 4000) (b7 : h < 24) (b8 : mi < 60) (b9 : s < 60) : (dateT w D m y h mi s).length = 31 := by
  have l1 := padD_len (u := h) (k := 2) (by omega) (by omega)
  have l2 := padD_len (u := mi) (k := 2) (by omega) (by omega)
  have l3 := padD_len (u := s) (k := 2) (by omega) (by omega)
  have l4 := padD_len (u := D) (k := 2) (by omega) (by omega)
  have l5 := padD_len (u := y) (k := 4) (by omega) (by omega)
  have lw := wdT_len ⟨w, b1⟩
  have lm := moT_len ⟨m, b4⟩
  dsimp only at lw lm
  unfold dateT
  simp [l1, l2, l3, l4, l5, lw, lm]
theorem whenP_len {t : Int} {x : Str} (h : whenP t = some x) : x.length = 31 := by
  rcases whenP_cases t with ⟨h1, _⟩ | ⟨w, D, m, y, hh, mi, s, b1, b2, b3, b4, b5, b6, b7, b8, b9, h1, _⟩
  · rw [h] at h1; cases h1
  · rw [h] at h1
    cases h1
    exact dateT_len b1 b3 b4 b6 b7 b8 b9
def noM : TMessage := ⟨[], []⟩
/-! ### hosts -/
end Go.Proofs.YtfkgmcilaiblfaaGreatDoor

/- Notices: their parts and their making; plain functions, and what the typed functions compute. -/
namespace Go.Proofs.YtfkgmcilaiblfaaGreatDoor
open Go.RowKit
set_option linter.unusedVariables false
set_option maxHeartbeats 1000000

/-! ### words -/
def wFail : Str := [102, 97, 105, 108, 117, 114, 101]
def wDelay : Str := [100, 101, 108, 97, 121]
def wSucc : Str := [115, 117, 99, 99, 101, 115, 115]
def kindL : List Str := [[], wFail, wDelay, [], wSucc]
def kindW (k : Int) : Str := if k = 1 then wFail else if k = 2 then wDelay else if k = 4 then wSucc else []
def resL : List Str := [[], [115, 101, 110, 116], [108, 97, 116, 101, 114], [102, 97, 105, 108, 101, 100]]
def resW (r : Int) : Str := resL.getD r.toNat []
def KindOk (k : Int) : Prop := k = 1 ∨ k = 2 ∨ k = 4
theorem kindW_fin : ∀ k : Fin 5, idx kindL (k.val : Int) = some (kindW (k.val : Int)) := by decide
theorem kind_idx {k : Int} (h : 0 ≤ k ∧ k < 5) : idx kindL k = some (kindW k) := by
  have := kindW_fin ⟨k.toNat, by omega⟩
  rw [show (((⟨k.toNat, by omega⟩ : Fin 5).val : Nat) : Int) = k by show ((k.toNat : Nat) : Int) = k; omega] at this
  exact this
theorem kindW_ok {k : Int} (h : kindW k ≠ []) : KindOk k := by
  unfold kindW at h
  unfold KindOk
  split at h
  · omega
  · split at h
    · omega
    · split at h
      · omega
      · exact absurd rfl h
theorem kindW_ne {k : Int} (h : KindOk k) : kindW k ≠ [] := by
  rcases h with rfl | rfl | rfl <;> decide
theorem kindW_len (k : Int) : (kindW k).length ≤ 7 := by
  unfold kindW
  repeat' split
  all_goals decide
theorem notice_known_eq (k : Int) : notice_known k = some (kindW k != []) := by
  unfold notice_known notice_kinds
  simp only [Option.bind_some]
  by_cases h0 : 0 ≤ k
  · by_cases h5 : k < 5
    · have := kind_idx ⟨h0, h5⟩
      unfold kindL wFail wDelay wSucc at this
      rw [decide_eq_true h0, decide_eq_true h5, this]
      rfl
    · have e : kindW k = [] := by
        unfold kindW
        rw [if_neg (by omega), if_neg (by omega), if_neg (by omega)]
      rw [decide_eq_true h0, decide_eq_false h5, e]
      rfl
  · have e : kindW k = [] := by
      unfold kindW
      rw [if_neg (by omega), if_neg (by omega), if_neg (by omega)]
    rw [decide_eq_false h0, e]
    rfl
theorem resW_fin : ∀ r : Fin 4, idx resL (r.val : Int) = some (resW (r.val : Int)) ∧ (resW (r.val : Int)).length ≤ 6 := by decide
theorem res_idx {r : Int} (h : 0 ≤ r ∧ r < 4) : idx resL r = some (resW r) ∧ (resW r).length ≤ 6 := by
  have := resW_fin ⟨r.toNat, by omega⟩
  rw [show (((⟨r.toNat, by omega⟩ : Fin 4).val : Nat) : Int) = r by show ((r.toNat : Nat) : Int) = r; omega] at this
  exact this

/-! ### what is told -/
def toldQ (i : Nat) (t : TTold) : Option TFault := if !addrP t.Address then some ⟨10, i⟩ else if !(decide (1 ≤ t.Result) && decide (t.Result ≤ 3)) then some ⟨3, i⟩ else none
def toldF (l : List TTold) : TFault := if decide (l.length < 1) || decide (60 < l.length) then ⟨2, -15⟩ else (firstI toldQ 0 l).getD ⟨0, 0⟩
def smallT (l : List TTold) : Prop := l.length ≤ 1048576 ∧ ∀ t ∈ l, t.Address.length ≤ 1048576
def ToldOk (l : List TTold) : Prop := 1 ≤ l.length ∧ l.length ≤ 60 ∧ ∀ t ∈ l, addrP t.Address = true ∧ 1 ≤ t.Result ∧ t.Result ≤ 3
theorem notice_told_eq (l : List TTold) (h : smallT l) : notice_told l = some (toldF l) := by
  obtain ⟨h3, h4⟩ := h
  unfold notice_told toldF
  have hloop : iter (notice_told_l1 l) 0 = some ((firstI toldQ 0 l).elim (.inl ()) .inr) := by
    refine iter_first l _ (Sum.inl ()) Sum.inr ?_ ?_
    · unfold notice_told_l1; rw [dec_len]; rfl
    · intro i t ht
      have hi := lt_get ht
      have ha := h4 t (List.mem_of_getElem? ht)
      unfold notice_told_l1 toldQ
      rw [dec_lt ht, idx_get ht]
      simp only [cond_true, Option.bind_some, envelope_Address_eq _ (show t.Address.length < 4294967281 by omega), basic_Fault_eq, sc i (by omega)]
      cases addrP t.Address <;> cases decide (1 ≤ t.Result) <;> cases decide (t.Result ≤ 3) <;> rfl
  rw [hloop]
  have e1 : decide ((l.length : Int) < 1) = decide (l.length < 1) := by generalize l.length = n; rw [Bool.eq_iff_iff]; simp; omega
  have e2 : decide ((60 : Int) < (l.length : Int)) = decide (60 < l.length) := by rw [Bool.eq_iff_iff]; simp; omega
  simp only [Option.bind_some, elim_fault, basic_Fault_eq, basic_None_eq, e1, e2]
  cases decide (l.length < 1) <;> cases decide (60 < l.length) <;> rfl
theorem toldF_ok {l : List TTold} (h : (toldF l).Code = 0) : ToldOk l ∧ toldF l = ⟨0, 0⟩ := by
  unfold toldF at h ⊢
  split at h
  · exact absurd h (by decide)
  · rename_i hc
    rw [if_neg hc]
    simp only [Bool.or_eq_true, decide_eq_true_eq] at hc
    cases hf : firstI toldQ 0 l with
    | none =>
      refine ⟨⟨by omega, by omega, fun t ht => ?_⟩, rfl⟩
      obtain ⟨i, hi⟩ := List.mem_iff_getElem?.1 ht
      have := firstI_none.1 hf i t hi
      unfold toldQ at this
      split at this
      · cases this
      · rename_i ha
        split at this
        · cases this
        · rename_i hr
          simp only [Bool.not_eq_true', Bool.not_eq_false, Bool.and_eq_true, decide_eq_true_eq] at ha hr
          exact ⟨ha, hr.1, hr.2⟩
    | some r =>
      obtain ⟨i, x, hx, hq⟩ := firstI_some hf
      rw [hf] at h
      unfold toldQ at hq
      split at hq
      · cases hq; have h9 : (10 : Int) = 0 := h; exact absurd h9 (by decide)
      · split at hq
        · cases hq; have h9 : (3 : Int) = 0 := h; exact absurd h9 (by decide)
        · cases hq
theorem toldF_of {l : List TTold} (h : ToldOk l) : toldF l = ⟨0, 0⟩ := by
  obtain ⟨h1, h2, h3⟩ := h
  have e : (decide (l.length < 1) || decide (60 < l.length)) = false := by rw [decide_eq_false (by omega), decide_eq_false (by omega)]; rfl
  have hf : firstI toldQ 0 l = none := firstI_none.2 fun i t ht => by
    obtain ⟨a, b, c⟩ := h3 t (List.mem_of_getElem? ht)
    unfold toldQ
    rw [a, decide_eq_true b, decide_eq_true c]
    rfl
  unfold toldF
  rw [e, hf]
  rfl

/-! ### the parts of a notice -/
def idN (of : Str) (k : Int) : Str := of ++ [46, 110] ++ Lib.decDigits k.toNat
def aboutN (of : Str) (k : Int) : Str := if of = [] then kindW k else kindW k ++ [32] ++ of
def tellT (t : TTold) : Str := resW t.Result ++ [32] ++ t.Address ++ [13, 10]
def bodyN (l : List TTold) : Str := (l.map tellT).flatten
theorem dec_kind {k : Int} (h : 0 ≤ k ∧ k < 10) : Lib.decDigits k.toNat = [UInt8.ofNat (48 + k.toNat)] := decD_small (by omega)
theorem idN_len {of : Str} {k : Int} (h : 0 ≤ k ∧ k < 10) : (idN of k).length = of.length + 3 := by
  unfold idN; rw [dec_kind h]; simp
theorem notice_id_eq {of : Str} {k : Int} (h : 0 ≤ k ∧ k < 10) (ho : of.length ≤ 1048576) : notice_id of k = some (idN of k) := by
  unfold notice_id idN
  have e : strconv_Itoa k = some (Lib.decDigits k.toNat) := by
    have := strconv_Itoa_eq k.toNat (by omega)
    rwa [show ((k.toNat : Nat) : Int) = k by omega] at this
  have hd : (Lib.decDigits k.toNat).length = 1 := by rw [dec_kind h]; rfl
  rw [cat_ok (by simp; omega), e]
  simp only [Option.bind_some]
  rw [cat_ok (by simp; omega)]
  rfl
theorem trimSp_ne {s : Str} (h : s.getLast? ≠ some 32) : Lib.trimSuffix s [32] = s := by
  unfold Lib.trimSuffix
  cases hs : Lib.hasSuffix s [32] with
  | false => rfl
  | true =>
    exfalso
    have hh : ([32] : Str) <:+ s := by unfold Lib.hasSuffix at hs; simpa using hs
    obtain ⟨t, ht⟩ := hh
    exact h (by rw [← ht]; simp)
theorem trimSp_sp (s : Str) : Lib.trimSuffix (s ++ [32]) [32] = s := by
  unfold Lib.trimSuffix
  have hs : Lib.hasSuffix (s ++ [32]) [32] = true := by
    unfold Lib.hasSuffix
    rw [List.isSuffixOf_iff_suffix]
    exact ⟨s, rfl⟩
  rw [hs]
  simp
theorem name_last {s : Str} (h : nameP s = true) : s.getLast? ≠ some 32 := by
  intro hl
  unfold nameP at h
  simp only [Bool.and_eq_true, List.all_eq_true] at h
  have := h.2 32 (List.mem_of_getLast? hl)
  exact absurd this (by decide)
theorem notice_about_eq {of : Str} {k : Int} (h : KindOk k) (ho : of.length ≤ 1048576) (hn : of = [] ∨ nameP of = true) : notice_about of k = some (aboutN of k) := by
  have hk : 0 ≤ k ∧ k < 5 := by rcases h with rfl | rfl | rfl <;> omega
  have hi := kind_idx hk
  unfold kindL wFail wDelay wSucc at hi
  have hl := kindW_len k
  unfold notice_about notice_kinds aboutN
  simp only [Option.bind_some, hi]
  rw [cat_ok (by simp; omega)]
  simp only [Option.bind_some]
  rw [cat_ok (by simp; omega)]
  simp only [Option.bind_some]
  unfold strings_TrimSuffix
  rw [if_pos (by simp; omega)]
  rcases hn with rfl | hn
  · simp only [List.append_nil, if_true, trimSp_sp, Option.bind_some]
  · have hne : of ≠ [] := by rintro rfl; exact absurd hn (by decide)
    rw [if_neg hne, trimSp_ne (by rw [List.getLast?_append]; cases hg : of.getLast? with
      | none => simp at hg; exact absurd hg hne
      | some c => have := name_last hn; rw [hg] at this; simpa using this)]
    rfl
theorem addr_len' {a : Str} (h : addrP a = true) : a.length ≤ 121 := by
  unfold addrP domP at h
  simp only [Bool.and_eq_true, decide_eq_true_eq, List.length_drop] at h
  omega
theorem tellT_len {t : TTold} (h : addrP t.Address = true ∧ 1 ≤ t.Result ∧ t.Result ≤ 3) : (tellT t).length ≤ 130 := by
  have h1 := addr_len' h.1
  have h2 := (res_idx (r := t.Result) (by omega)).2
  unfold tellT
  simp
  omega
theorem bodyN_len {l : List TTold} (h : ∀ t ∈ l, addrP t.Address = true ∧ 1 ≤ t.Result ∧ t.Result ≤ 3) : (bodyN l).length ≤ 130 * l.length := by
  induction l with
  | nil => simp [bodyN]
  | cons t l ih =>
    have h1 := tellT_len (h t (by simp))
    have h2 := ih fun x hx => h x (by simp [hx])
    unfold bodyN at h2 ⊢
    simp only [List.map_cons, List.flatten_cons, List.length_append, List.length_cons]
    omega
theorem body_fold (l : List TTold) : ∀ s : Str, l.foldl (fun s t => s ++ tellT t) s = s ++ bodyN l := by
  induction l with
  | nil => intro s; simp [bodyN]
  | cons t l ih => intro s; rw [List.foldl_cons, ih]; simp [bodyN]
theorem notice_body_eq (l : List TTold) (h : ToldOk l) : notice_body l = some (bodyN l) := by
  obtain ⟨h1, h2, h3⟩ := h
  have := (iter_fold l (fun i (s : Str) => (s, i)) (fun s t => s ++ tellT t) id (fun i s => s.length ≤ 130 * i) (body := notice_body_l1 l)
    (fun s _ => by unfold notice_body_l1; simp [dec_len]) (fun i t s ht hi => by
      have hlt := lt_get ht
      have h5 := h3 t (List.mem_of_getElem? ht)
      have h6 := tellT_len h5
      have h7 := addr_len' h5.1
      obtain ⟨h8, h9⟩ := res_idx (r := t.Result) (by omega)
      unfold resL at h8
      refine ⟨?_, by simp; omega⟩
      unfold notice_body_l1 notice_results
      dsimp only
      rw [dec_lt ht, idx_get ht]
      simp only [cond_true, Option.bind_some, sc i (by omega), h8]
      rw [cat_ok (by simp; omega)]
      simp only [Option.bind_some]
      rw [cat_ok (by simp; omega)]
      simp only [Option.bind_some]
      rw [cat_ok (by simp; omega)]
      simp only [Option.bind_some]
      rw [cat_ok (by simp; omega)]
      rfl) [] (by simp)).1
  unfold notice_body
  rw [this, body_fold]
  rfl
/-! ### the notice -/
def fFrom : Str := [70, 114, 111, 109]
def fTo : Str := [84, 111]
def fSubj : Str := [83, 117, 98, 106, 101, 99, 116]
def fDate : Str := [68, 97, 116, 101]
def fNote : Str := [88, 45, 78, 111, 116, 105, 99, 101]
def noMail : TMail := ⟨⟨[], [], []⟩, ⟨[], []⟩⟩
def noteMsg (e : TEnvelope) (k : Int) (l : List TTold) (x : Str) : TMessage :=
  ⟨[⟨fFrom, [112, 111, 115, 116, 109, 97, 115, 116, 101, 114, 64] ++ domOf e.From⟩, ⟨fTo, e.From⟩, ⟨fSubj, [68, 101, 108, 105, 118, 101, 114, 121, 58, 32] ++ kindW k⟩, ⟨fDate, x⟩, ⟨fNote, aboutN e.Id k⟩], bodyN l⟩
def noteM (e : TEnvelope) (k : Int) (l : List TTold) (x : Str) : TMail := ⟨⟨[], [⟨e.From, 0⟩], idN e.Id k⟩, noteMsg e k l x⟩
noncomputable def makeP (m : TMail) (k : Int) (l : List TTold) (now : Int) : TMail × TFault :=
  bif (mailF m).Code != 0 then (noMail, mailF m) else bif m.Envelope.From == ([] : Str) then (noMail, ⟨8, -13⟩) else bif kindW k == ([] : Str) then (noMail, ⟨4, -14⟩) else
  bif decide (57 < m.Envelope.Id.length) then (noMail, ⟨1, -16⟩) else bif (toldF l).Code != 0 then (noMail, toldF l) else match whenP now with
    | none => (noMail, ⟨3, -2⟩)
    | some x => (noteM m.Envelope k l x, ⟨0, 0⟩)
theorem mailF_parts {m : TMail} (h : (mailF m).Code = 0) : (envF m.Envelope).Code = 0 ∧ (msgF m.Message).Code = 0 := mailF_msg h
theorem envF_id {e : TEnvelope} (h : (envF e).Code = 0) : e.Id = [] ∨ nameP e.Id = true := by
  unfold envF at h
  split at h
  · exact absurd h (by decide)
  · split at h
    · exact absurd h (by decide)
    · split at h
      · exact absurd h (by decide)
      · rename_i hc
        by_cases h0 : e.Id = []
        · exact .inl h0
        · right
          have : (e.Id != ([] : Str)) = true := by simpa using h0
          rw [this] at hc
          simpa using hc
theorem domOf_len (s : Str) : (domOf s).length ≤ s.length := by unfold domOf; split <;> simp
theorem notice_Make_eq (m : TMail) (k : Int) (l : List TTold) (now : Int) (h1 : smallE m.Envelope) (h2 : smallM m.Message) (h3 : smallT l) : notice_Make m k l now = some (makeP m k l now) := by
  unfold notice_Make makeP
  rw [envelope_Check_eq _ h1 h2]
  simp only [Option.bind_some, basic_Failed_eq, basic_Fault_eq, basic_None_eq]
  cases hc : (mailF m).Code != 0 with
  | true => rfl
  | false =>
    have hm0 : (mailF m).Code = 0 := by simpa using hc
    have hid := envF_id (mailF_parts hm0).1
    have h57 : m.Envelope.Id.length ≤ 60 := by
      rcases hid with h | h
      · rw [h]; decide
      · exact (nameP_len h).2
    simp only [cond_false]
    cases hf : m.Envelope.From == ([] : Str) with
    | true => rfl
    | false =>
      simp only [cond_false, notice_known_eq, Option.bind_some]
      cases hk : kindW k == ([] : Str) with
      | true =>
        have : (!(kindW k != ([] : Str))) = true := by unfold bne; rw [hk]; rfl
        rw [this]
        rfl
      | false =>
        have hk2 : (!(kindW k != ([] : Str))) = false := by unfold bne; rw [hk]; rfl
        have hk1 : KindOk k := kindW_ok (by simpa using hk)
        have hk0 : 0 ≤ k ∧ k < 5 := by rcases hk1 with rfl | rfl | rfl <;> omega
        have hki := kind_idx hk0
        unfold kindL wFail wDelay wSucc at hki
        have hkl := kindW_len k
        rw [hk2, notice_id_eq (by omega) (by omega)]
        simp only [cond_false, Option.bind_some]
        have e60 : decide ((60 : Int) < ((idN m.Envelope.Id k).length : Int)) = decide (57 < m.Envelope.Id.length) := by rw [idN_len (by omega), Bool.eq_iff_iff]; simp; omega
        rw [e60]
        cases h7 : decide (57 < m.Envelope.Id.length) with
        | true => rfl
        | false =>
          simp only [cond_false, notice_told_eq l h3, Option.bind_some]
          cases ht : (toldF l).Code != 0 with
          | true => rfl
          | false =>
            obtain ⟨ht1, ht2⟩ := toldF_ok (l := l) (by simpa using ht)
            simp only [cond_false]
            rcases whenP_cases now with ⟨w1, _, d, f, w2, w3⟩ | ⟨w, D, mo, y, hh, mi, s, b1, b2, b3, b4, b5, b6, b7, b8, b9, w1, _, d, w2, w3⟩
            · rw [w1, w2]
              simp only [Option.bind_some, w3]
              rfl
            · rw [w1, w2]
              generalize hX : dateT w D mo y hh mi s = X at *
              have hFl := h1.1
              have hdl := domOf_len m.Envelope.From
              simp only [Option.bind_some, bne_self_eq_false, cond_false, w3]
              rw [envelope_Split_eq _ (by omega)]
              simp only [Option.bind_some, splitP_dom, notice_kinds, hki, notice_about_eq hk1 (show m.Envelope.Id.length ≤ 1048576 by omega) hid, notice_body_eq l ht1]
              rw [cat_ok (by simp; omega)]
              simp only [Option.bind_some]
              rw [cat_ok (by simp; omega)]
              rfl
end Go.Proofs.YtfkgmcilaiblfaaGreatDoor

/- Notices: reading; what is made is read. -/
namespace Go.Proofs.YtfkgmcilaiblfaaGreatDoor
open Go.RowKit
set_option linter.unusedVariables false
set_option maxHeartbeats 1000000

theorem slIdx_eq (l : List Str) (s : Str) (hl : l.length ≤ 1048576) : slices_Index_string_string l s = some ((firstI (fun i x => if x == s then some ((i : Nat) : Int) else none) 0 l).getD (-1)) := by
  unfold slices_Index_string_string
  rw [iter_first l (fun i x => if x == s then some ((i : Nat) : Int) else none) (.inl ()) .inr]
  · simp only [Option.bind_some, elim_idx]
  · unfold slices_Index_string_string_l1; rw [dec_len]; rfl
  · intro i x hx
    have hi := lt_get hx
    unfold slices_Index_string_string_l1
    rw [dec_lt hx, idx_get hx]
    have e : (s == x) = (x == s) := by rw [Bool.eq_iff_iff]; simp; exact ⟨fun h => h.symm, fun h => h.symm⟩
    simp only [cond_true, Option.bind_some, sc i (by omega), e]
    cases x == s <;> rfl
def kindI (w : Str) : Int := if [] = w then 0 else if wFail = w then 1 else if wDelay = w then 2 else if wSucc = w then 4 else -1
def resI (w : Str) : Int := if [] = w then 0 else if [115, 101, 110, 116] = w then 1 else if [108, 97, 116, 101, 114] = w then 2 else if [102, 97, 105, 108, 101, 100] = w then 3 else -1
theorem kindI_eq (w : Str) : (firstI (fun i x => if x == w then some ((i : Nat) : Int) else none) 0 kindL).getD (-1) = kindI w := by
  unfold kindL kindI
  by_cases h0 : ([] : Str) = w
  · rw [if_pos h0]; subst h0; rfl
  rw [if_neg h0]
  by_cases h1 : wFail = w
  · rw [if_pos h1]; subst h1; rfl
  rw [if_neg h1]
  by_cases h2 : wDelay = w
  · rw [if_pos h2]; subst h2; rfl
  rw [if_neg h2]
  by_cases h4 : wSucc = w
  · rw [if_pos h4]; subst h4; rfl
  rw [if_neg h4]
  have h0' : w ≠ [] := fun e => h0 e.symm
  simp [firstI, h0, h0', h1, h2, h4]
theorem resI_eq (w : Str) : (firstI (fun i x => if x == w then some ((i : Nat) : Int) else none) 0 resL).getD (-1) = resI w := by
  unfold resL resI
  by_cases h0 : ([] : Str) = w
  · rw [if_pos h0]; subst h0; rfl
  rw [if_neg h0]
  by_cases h1 : ([115, 101, 110, 116] : Str) = w
  · rw [if_pos h1]; subst h1; rfl
  rw [if_neg h1]
  by_cases h2 : ([108, 97, 116, 101, 114] : Str) = w
  · rw [if_pos h2]; subst h2; rfl
  rw [if_neg h2]
  by_cases h4 : ([102, 97, 105, 108, 101, 100] : Str) = w
  · rw [if_pos h4]; subst h4; rfl
  rw [if_neg h4]
  have h0' : w ≠ [] := fun e => h0 e.symm
  simp [firstI, h0, h0', h1, h2, h4]
theorem kindI_small (w : Str) : kindI w < 5 := by
  unfold kindI
  repeat' split
  all_goals decide
theorem kindI_kindW {k : Int} (h : KindOk k) : kindI (kindW k) = k := by
  rcases h with rfl | rfl | rfl <;> decide
theorem resI_resW {r : Int} (h : 1 ≤ r ∧ r ≤ 3) : resI (resW r) = r := by
  have : r = 1 ∨ r = 2 ∨ r = 3 := by omega
  rcases this with rfl | rfl | rfl <;> decide

/-! ### cuts -/
theorem cut_first {c : UInt8} {t x r : Str} (h : c ∉ x) : Lib.cut (x ++ c :: t ++ r) (c :: t) = (x, r, true) := by
  have hi : Lib.index (x ++ c :: t ++ r) (c :: t) = (x.length : Int) := by
    refine Lib.index_first (by simp) ?_ ?_
    · unfold Lib.occAt
      rw [show (x ++ c :: t ++ r).drop x.length = c :: t ++ r by simp]
      simp
    · intro j hj
      cases ho : Lib.occAt (x ++ c :: t ++ r) (c :: t) j with
      | false => rfl
      | true =>
        exfalso
        have := Lib.occAt_head rfl ho
        rw [List.append_assoc, List.getElem?_append_left hj] at this
        exact h (List.mem_of_getElem? this)
  unfold Lib.cut
  rw [hi, if_pos (by omega)]
  simp
theorem cut_none {c : UInt8} {t x : Str} (h : c ∉ x) : Lib.cut x (c :: t) = (x, [], false) := by
  have hi : Lib.index x (c :: t) = -1 := by
    refine Lib.index_none fun j hj => ?_
    cases ho : Lib.occAt x (c :: t) j with
    | false => rfl
    | true =>
      exfalso
      have := Lib.occAt_head rfl ho
      exact h (List.mem_of_getElem? this)
  unfold Lib.cut
  rw [hi, if_neg (by omega)]
theorem cut_len1 (s p : Str) : (Lib.cut s p).1.length ≤ s.length := by unfold Lib.cut; split <;> simp; omega
theorem cut_len2 (s p : Str) : (Lib.cut s p).2.1.length ≤ s.length := by unfold Lib.cut; split <;> simp
theorem cut_less {s p : Str} (hs : s ≠ []) (hp : 1 ≤ p.length) : (Lib.cut s p).2.1.length < s.length := by
  have : 1 ≤ s.length := by cases s with
    | nil => exact absurd rfl hs
    | cons a b => simp
  unfold Lib.cut
  split
  · simp; omega
  · show 0 < s.length; omega

/-! ### the lines of a notice -/
def lineB (s : Str) (n : Nat) : Bool := !(Lib.cut s [13, 10]).2.2 || !(Lib.cut (Lib.cut s [13, 10]).1 [32]).2.2 || decide (resI (Lib.cut (Lib.cut s [13, 10]).1 [32]).1 < 1) || decide (60 < n)
def lineT (s : Str) : TTold := ⟨(Lib.cut (Lib.cut s [13, 10]).1 [32]).2.1, resI (Lib.cut (Lib.cut s [13, 10]).1 [32]).1⟩
def listP : Nat → Str → List TTold → Option (List TTold)
  | 0, _, _ => none
  | n + 1, s, out => if s = [] then some out else bif lineB s out.length then none else listP n (Lib.cut s [13, 10]).2.1 (out ++ [lineT s])
theorem listP_small : ∀ (n : Nat) (s : Str) (out l : List TTold), listP n s out = some l → s.length ≤ 1048576 → out.length ≤ 61 → (∀ t ∈ out, t.Address.length ≤ 1048576) → l.length ≤ 61 ∧ ∀ t ∈ l, t.Address.length ≤ 1048576
  | 0, s, out, l, h, _, _, _ => by cases h
  | n + 1, s, out, l, h, hs, h1, h2 => by
    unfold listP at h
    split at h
    · cases h; exact ⟨h1, h2⟩
    · cases hb : lineB s out.length with
      | true => rw [hb] at h; cases h
      | false =>
        rw [hb] at h
        have h60 : out.length ≤ 60 := by
          unfold lineB at hb
          simp only [Bool.or_eq_false_iff, decide_eq_false_iff_not] at hb
          omega
        refine listP_small n _ _ l h (Nat.le_trans (cut_len2 _ _) hs) (by simp; omega) fun t ht => ?_
        rcases List.mem_append.1 ht with ht | ht
        · exact h2 t ht
        · obtain rfl := List.mem_singleton.1 ht
          have c1 := cut_len1 s [13, 10]
          have c2 := cut_len2 (Lib.cut s [13, 10]).1 [32]
          show (Lib.cut (Lib.cut s [13, 10]).1 [32]).2.1.length ≤ _
          omega
def resV : Str × Str × Str × Str := ([], [115, 101, 110, 116], [108, 97, 116, 101, 114], [102, 97, 105, 108, 101, 100])
theorem list_loop : ∀ (n : Nat) (s : Str) (out : List TTold), s.length < n → s.length ≤ 1048576 → out.length ≤ 61 →
    iter (notice_list_l1 resV) (s, out) = some (match listP n s out with | some l => .inl l | none => .inr ([], false))
  | 0, s, out, h, _, _ => absurd h (by omega)
  | n + 1, s, out, hn, hs, ho => by
    unfold listP
    by_cases h0 : s = []
    · subst h0
      rw [if_pos rfl]
      exact iter_out rfl
    · have e0 : (s != ([] : Str)) = true := by simpa using h0
      have c1 := cut_len1 s [13, 10]
      have c3 := cut_less (p := [13, 10]) h0 (by decide)
      have hx : slices_Index_string_string ([resV.1, resV.2.1, resV.2.2.1, resV.2.2.2] : List Str) (Lib.cut (Lib.cut s [13, 10]).1 [32]).1 = some (resI (Lib.cut (Lib.cut s [13, 10]).1 [32]).1) := by
        have := slIdx_eq resL (Lib.cut (Lib.cut s [13, 10]).1 [32]).1 (by decide)
        rw [resI_eq] at this
        exact this
      have e60 : decide ((60 : Int) < (out.length : Int)) = decide (60 < out.length) := by rw [Bool.eq_iff_iff]; simp; omega
      have hb : (bif (!(Lib.cut s [13, 10]).2.2) then some true else (bif (!(Lib.cut (Lib.cut s [13, 10]).1 [32]).2.2) then some true else (bif decide (resI (Lib.cut (Lib.cut s [13, 10]).1 [32]).1 < 1) then some true else some (decide ((60 : Int) < (out.length : Int)))))) = some (lineB s out.length) := by
        unfold lineB
        rw [e60]
        cases (Lib.cut s [13, 10]).2.2 <;> cases (Lib.cut (Lib.cut s [13, 10]).1 [32]).2.2 <;> cases decide (resI (Lib.cut (Lib.cut s [13, 10]).1 [32]).1 < 1) <;> rfl
      have hbody : notice_list_l1 resV (s, out) = (bif lineB s out.length then some (.out (.inr (([], false)))) else (app 5864062014805 out [lineT s]).bind fun v21 => some (.cont ((Lib.cut s [13, 10]).2.1, v21))) := by
        unfold notice_list_l1
        dsimp only
        rw [e0]
        unfold strings_Cut
        rw [if_pos (by omega)]
        simp only [cond_true, Option.bind_some]
        rw [if_pos (by omega)]
        simp only [Option.bind_some, hx]
        rw [hb]
        rfl
      rw [if_neg h0]
      cases hc : lineB s out.length with
      | true => rw [hc] at hbody; exact iter_out hbody
      | false =>
        have h60 : out.length ≤ 60 := by
          unfold lineB at hc
          simp only [Bool.or_eq_false_iff, decide_eq_false_iff_not] at hc
          omega
        rw [hc, app_ok (by simp; omega)] at hbody
        rw [iter_cont hbody]
        exact list_loop n _ _ (by omega) (by omega) (by simp; omega)
theorem notice_list_eq (s : Str) (hs : s.length ≤ 1048576) : notice_list s = some (match listP (s.length + 1) s [] with | some l => (l, !((toldF l).Code != 0)) | none => ([], false)) := by
  have := list_loop (s.length + 1) s [] (by omega) hs (by simp)
  unfold notice_list notice_results
  simp only [Option.bind_some]
  have this' : iter (notice_list_l1 (([] : Str), ([115, 101, 110, 116] : Str), ([108, 97, 116, 101, 114] : Str), ([102, 97, 105, 108, 101, 100] : Str))) (s, ([] : List TTold)) = _ := this
  rw [this']
  cases hl : listP (s.length + 1) s [] with
  | none => rfl
  | some l =>
    obtain ⟨l1, l2⟩ := listP_small _ _ _ _ hl hs (by simp) (fun t ht => by cases ht)
    simp only [Option.bind_some, Sum.elim_inl, notice_told_eq l ⟨by omega, l2⟩, basic_Failed_eq]

/-! ### reading -/
def noN : TNotice := ⟨0, [], []⟩
def headB (v : Str) : Bool := decide (kindI (Lib.cut v [32]).1 < 1) || (Lib.cut v [32]).1 == ([] : Str) || ((Lib.cut v [32]).2.2 && !nameP (Lib.cut v [32]).2.1) || decide (60 < (idN (Lib.cut v [32]).2.1 (kindI (Lib.cut v [32]).1)).length)
def readP (m : TMessage) : TNotice × Bool :=
  match getP m.Fields fNote with
  | [] => (noN, false)
  | v :: _ => bif headB v then (noN, false) else match listP (m.Body.length + 1) m.Body [] with
    | some l => bif (toldF l).Code != 0 then (noN, false) else (⟨kindI (Lib.cut v [32]).1, (Lib.cut v [32]).2.1, l⟩, true)
    | none => (noN, false)
theorem getP_val {l : List TField} {n : Str} {v : Str} (h : v ∈ getP l n) : ∃ f ∈ l, f.Value = v := by
  unfold getP at h
  obtain ⟨f, hf, rfl⟩ := List.mem_map.1 h
  exact ⟨f, (List.mem_filter.1 hf).1, rfl⟩
theorem notice_Read_eq (m : TMessage) (hm : smallM m) : notice_Read m = some (bif (msgF m).Code != 0 then (noN, false, msgF m) else ((readP m).1, (readP m).2, ⟨0, 0⟩)) := by
  unfold notice_Read
  rw [message_Validate_eq m hm]
  simp only [Option.bind_some, basic_Failed_eq, basic_None_eq]
  cases hc : (msgF m).Code != 0 with
  | true => rfl
  | false =>
    have hc0 : (msgF m).Code = 0 := by simpa using hc
    have hg : header_Get m.Fields ([88, 45, 78, 111, 116, 105, 99, 101] : Str) = some (getP m.Fields fNote, ⟨0, 0⟩) := by
      rw [header_Get_eq _ _ hm.1 (by decide)]
      have h1 : ((headF m.Fields).Code != 0) = false := by simp [msgF_head hc0]
      have h2 : fnP ([88, 45, 78, 111, 116, 105, 99, 101] : Str) = true := by decide
      rw [h1, h2]
      rfl
    simp only [cond_false, hg, Option.bind_some]
    unfold readP
    cases hv : getP m.Fields fNote with
    | nil => rfl
    | cons v r =>
      obtain ⟨f, hf, hfv⟩ := getP_val (n := fNote) (l := m.Fields) (v := v) (by rw [hv]; simp)
      have hvl : v.length ≤ 1048576 := by have := (hm.1.2 f hf).2; rw [hfv] at this; exact this
      have e0 : (((v :: r).length : Int) == 0) = false := by rw [beq_eq_false_iff_ne]; simp; omega
      have ei : idx (v :: r) 0 = some v := rfl
      have c1 := cut_len2 v [32]
      have hx : slices_Index_string_string (([([] : Str), ([102, 97, 105, 108, 117, 114, 101] : Str), ([100, 101, 108, 97, 121] : Str), ([] : Str), ([115, 117, 99, 99, 101, 115, 115] : Str)] : List Str)) (Lib.cut v [32]).1 = some (kindI (Lib.cut v [32]).1) := by
        have := slIdx_eq kindL (Lib.cut v [32]).1 (by decide)
        rw [kindI_eq] at this
        exact this
      have hk5 := kindI_small (Lib.cut v [32]).1
      have hb : (bif decide (kindI (Lib.cut v [32]).1 < 1) then some true else (bif ((Lib.cut v [32]).1 == ([] : Str)) then some true else (bif (Lib.cut v [32]).2.2 then (basic_Name (Lib.cut v [32]).2.1).bind fun v23 => (bif (!v23) then some true else (notice_id (Lib.cut v [32]).2.1 (kindI (Lib.cut v [32]).1)).bind fun v26 => some (decide ((60 : Int) < (v26.length : Int)))) else (notice_id (Lib.cut v [32]).2.1 (kindI (Lib.cut v [32]).1)).bind fun v28 => some (decide ((60 : Int) < (v28.length : Int)))))) = some (headB v) := by
        unfold headB
        by_cases h1 : kindI (Lib.cut v [32]).1 < 1
        · rw [decide_eq_true h1]; rfl
        · rw [decide_eq_false h1, basic_Name_eq _ (by omega), notice_id_eq (by omega) (by omega)]
          have e60 : decide ((60 : Int) < ((idN (Lib.cut v [32]).2.1 (kindI (Lib.cut v [32]).1)).length : Int)) = decide (60 < (idN (Lib.cut v [32]).2.1 (kindI (Lib.cut v [32]).1)).length) := by rw [Bool.eq_iff_iff]; simp; omega
          simp only [Option.bind_some, e60]
          cases ((Lib.cut v [32]).1 == ([] : Str)) <;> cases (Lib.cut v [32]).2.2 <;> cases nameP (Lib.cut v [32]).2.1 <;> rfl
      have hs : strings_Cut v [32] = some (Lib.cut v [32]) := by unfold strings_Cut; rw [if_pos (by omega)]
      rw [e0, ei]
      simp only [cond_false, Option.bind_some, hs, notice_kinds, hx]
      rw [hb]
      simp only [Option.bind_some]
      cases hh : headB v with
      | true => rfl
      | false =>
        simp only [cond_false, notice_list_eq m.Body hm.2, Option.bind_some]
        cases listP (m.Body.length + 1) m.Body [] with
        | none => rfl
        | some l => dsimp only; cases (toldF l).Code != 0 <;> rfl

/-! ### what is made is read -/
theorem good_or {c : UInt8} (h : goodC c = true ∨ c = 64) : c ≠ 13 ∧ c ≠ 10 ∧ c ≠ 0 ∧ c ≠ 32 ∧ c ≠ 9 := by
  refine ⟨?_, ?_, ?_, ?_, ?_⟩ <;> rintro rfl <;> exact absurd h (by decide)
theorem small_good {c : UInt8} (h : smallC c = true) : goodC c = true := by
  unfold smallC at h
  unfold goodC lettC
  simp only [Bool.or_eq_true] at h ⊢
  rcases h with ((h | h) | h) | h
  · exact .inl (.inl (.inl (.inl (.inl (.inl (.inl h))))))
  · exact .inl (.inl (.inl (.inl (.inl (.inr h)))))
  · exact .inl (.inl (.inl (.inl (.inr h))))
  · exact .inl (.inl (.inr h))
theorem dom_chars {a : Str} (h : domP a = true) {c : UInt8} (hc : c ∈ a) : goodC c = true ∨ c = 64 := by
  unfold domP at h
  simp only [Bool.and_eq_true, List.all_eq_true] at h
  exact .inl (small_good (h.1.2 c hc))
theorem addr_chars {a : Str} (h : addrP a = true) {c : UInt8} (hc : c ∈ a) : goodC c = true ∨ c = 64 := by
  unfold addrP at h
  simp only [Bool.and_eq_true, decide_eq_true_eq, List.all_eq_true] at h
  obtain ⟨⟨⟨⟨h1, h2⟩, h3⟩, h4⟩, h5⟩ := h
  have hs : a = a.take (atP a) ++ 64 :: a.drop (atP a + 1) := by
    have hx : a[atP a] = 64 := by
      have := List.findIdx_getElem (p := (· == (64 : UInt8))) (xs := a) (w := h1)
      exact eq_of_beq this
    conv => lhs; rw [← List.take_append_drop (atP a) a]
    rw [List.drop_eq_getElem_cons h1, hx]
  rw [hs] at hc
  rcases List.mem_append.1 hc with hc | hc
  · exact .inl (h4 c hc)
  · rcases List.mem_cons.1 hc with rfl | hc
    · exact .inr rfl
    · exact dom_chars h5 hc
theorem name_chars {a : Str} (h : nameP a = true) {c : UInt8} (hc : c ∈ a) : goodC c = true ∨ c = 64 := by
  unfold nameP at h
  simp only [Bool.and_eq_true, List.all_eq_true] at h
  have := h.2 c hc
  unfold nameC at this
  unfold goodC
  left
  simp only [Bool.or_eq_true] at this ⊢
  exact .inl (.inl this)
theorem resW_chars : ∀ r : Fin 4, (13 : UInt8) ∉ resW (r.val : Int) ∧ (32 : UInt8) ∉ resW (r.val : Int) ∧ ∀ c ∈ resW (r.val : Int), c ≠ 10 := by decide
theorem resW_ch {r : Int} (h : 1 ≤ r ∧ r ≤ 3) : (13 : UInt8) ∉ resW r ∧ (32 : UInt8) ∉ resW r ∧ ∀ c ∈ resW r, c ≠ 10 := by
  have := resW_chars ⟨r.toNat, by omega⟩
  rw [show (((⟨r.toNat, by omega⟩ : Fin 4).val : Nat) : Int) = r by show ((r.toNat : Nat) : Int) = r; omega] at this
  exact this
theorem kindW_ch {k : Int} (h : KindOk k) : (32 : UInt8) ∉ kindW k := by rcases h with rfl | rfl | rfl <;> decide
theorem listP_body : ∀ (l : List TTold) (n : Nat) (out : List TTold), (bodyN l).length < n → out.length + l.length ≤ 60 → (∀ t ∈ l, addrP t.Address = true ∧ 1 ≤ t.Result ∧ t.Result ≤ 3) → listP n (bodyN l) out = some (out ++ l)
  | _, 0, _, h, _, _ => absurd h (by omega)
  | [], n + 1, out, _, _, _ => by unfold listP bodyN; simp
  | t :: l, n + 1, out, hn, hl, h => by
    have ht := h t (by simp)
    obtain ⟨r1, r2, r3⟩ := resW_ch ht.2
    have hb : bodyN (t :: l) = (resW t.Result ++ [32] ++ t.Address) ++ 13 :: [10] ++ bodyN l := by
      unfold bodyN
      simp only [List.map_cons, List.flatten_cons, tellT, List.append_assoc, List.cons_append, List.nil_append]
    have h13 : (13 : UInt8) ∉ resW t.Result ++ [32] ++ t.Address := by
      intro hx
      rcases List.mem_append.1 hx with hx | hx
      · rcases List.mem_append.1 hx with hx | hx
        · exact r1 hx
        · exact absurd (List.mem_singleton.1 hx) (by decide)
      · exact (good_or (addr_chars ht.1 hx)).1 rfl
    have hc1 : Lib.cut (bodyN (t :: l)) [13, 10] = (resW t.Result ++ [32] ++ t.Address, bodyN l, true) := by rw [hb]; exact cut_first h13
    have hc2 : Lib.cut (resW t.Result ++ [32] ++ t.Address) [32] = (resW t.Result, t.Address, true) := cut_first r2
    have hne : bodyN (t :: l) ≠ [] := by rw [hb]; simp
    have hlb : lineB (bodyN (t :: l)) out.length = false := by
      unfold lineB
      rw [hc1, hc2]
      simp only [List.length_cons] at hl
      rw [resI_resW ht.2, decide_eq_false (show ¬ t.Result < 1 by omega), decide_eq_false (show ¬ 60 < out.length by omega)]
      rfl
    have hlt : lineT (bodyN (t :: l)) = t := by
      unfold lineT
      rw [hc1, hc2, resI_resW ht.2]
    have hll : (bodyN l).length < (bodyN (t :: l)).length := by rw [hb]; simp; omega
    unfold listP
    rw [if_neg hne, hlb, hc1, hlt]
    simp only [cond_false]
    rw [listP_body l n _ (by omega) (by simp only [List.length_append, List.length_cons, List.length_nil] at hl ⊢; omega) fun x hx => h x (by simp [hx])]
    simp
theorem get_note (e : TEnvelope) (k : Int) (l : List TTold) (x : Str) : getP (noteMsg e k l x).Fields fNote = [aboutN e.Id k] := by
  have s1 : sameP fFrom fNote = false := by decide +kernel
  have s2 : sameP fTo fNote = false := by decide +kernel
  have s3 : sameP fSubj fNote = false := by decide +kernel
  have s4 : sameP fDate fNote = false := by decide +kernel
  have s5 : sameP fNote fNote = true := by decide +kernel
  unfold noteMsg getP
  simp [List.filter_cons, s1, s2, s3, s4, s5]
theorem cut_about {of : Str} {k : Int} (hk : KindOk k) : (Lib.cut (aboutN of k) [32]).1 = kindW k ∧ (Lib.cut (aboutN of k) [32]).2.1 = of ∧ ((Lib.cut (aboutN of k) [32]).2.2 = true → of ≠ []) := by
  unfold aboutN
  by_cases h : of = []
  · subst h
    rw [if_pos rfl, cut_none (kindW_ch hk)]
    exact ⟨rfl, rfl, fun h => by cases h⟩
  · rw [if_neg h, show kindW k ++ [32] ++ of = kindW k ++ 32 :: [] ++ of by simp, cut_first (kindW_ch hk)]
    exact ⟨rfl, rfl, fun _ => h⟩
theorem head_about {of : Str} {k : Int} (hk : KindOk k) (hid : of = [] ∨ nameP of = true) (h57 : of.length ≤ 57) : headB (aboutN of k) = false := by
  obtain ⟨c1, c2, c3⟩ := cut_about (of := of) hk
  have hk0 : 1 ≤ k ∧ k < 10 := by rcases hk with rfl | rfl | rfl <;> omega
  unfold headB
  rw [c1, c2, kindI_kindW hk, idN_len (by omega), decide_eq_false (by omega), decide_eq_false (show ¬ 60 < of.length + 3 by omega), beq_eq_false_iff_ne.2 (kindW_ne hk)]
  cases hx : (Lib.cut (aboutN of k) [32]).2.2 with
  | false => rfl
  | true =>
    rcases hid with h | h
    · exact absurd h (c3 hx)
    · rw [h]; rfl
theorem read_note {e : TEnvelope} {k : Int} {l : List TTold} {x : Str} (hk : KindOk k) (hid : e.Id = [] ∨ nameP e.Id = true) (h57 : e.Id.length ≤ 57) (ht : ToldOk l) : readP (noteMsg e k l x) = (⟨k, e.Id, l⟩, true) := by
  obtain ⟨c1, c2, c3⟩ := cut_about (of := e.Id) hk
  have hb : listP ((noteMsg e k l x).Body.length + 1) (noteMsg e k l x).Body [] = some l := by
    have := listP_body l ((bodyN l).length + 1) [] (by omega) (by have := ht.2.1; simpa using this) ht.2.2
    show listP ((bodyN l).length + 1) (bodyN l) [] = some l
    simpa using this
  unfold readP
  rw [get_note]
  simp only [head_about hk hid h57, cond_false, hb, toldF_of ht, c1, c2, kindI_kindW hk]
  rfl
end Go.Proofs.YtfkgmcilaiblfaaGreatDoor

/- The law EnvelopesOfDomainsJoin in plain Lean. -/
namespace Go.Proofs.YtfkgmcilaiblfaaGreatDoor
open Go.RowKit
set_option linter.unusedVariables false
set_option maxHeartbeats 1000000

theorem recF_inv {l : List TRecipient} (h : (recF l).Code = 0) : (∀ r ∈ l, addrP r.Address = true ∧ noteP r.Notify = true) ∧ (l.map (·.Address)).Nodup := by
  have hz : firstI (recQ l) 0 l = none := by
    unfold recF at h
    cases hf : firstI (recQ l) 0 l with
    | none => rfl
    | some f =>
      exfalso
      rw [hf] at h
      obtain ⟨i, x, hx, hq⟩ := firstI_some hf
      unfold recQ at hq
      split at hq
      · cases hq; simp at h
      · split at hq
        · cases hq; simp at h
        · split at hq
          · cases hq; simp at h
          · cases hq
  rw [firstI_none] at hz
  have key : ∀ (i : Nat) r, l[i]? = some r → addrP r.Address = true ∧ noteP r.Notify = true ∧ (l.take i).any (fun x => x.Address == r.Address) = false := by
    intro i r hr
    have := hz i r hr
    rw [Nat.zero_add] at this
    unfold recQ at this
    cases h1 : addrP r.Address with
    | false => rw [h1] at this; simp at this
    | true =>
      cases h2 : noteP r.Notify with
      | false => rw [h1, h2] at this; simp at this
      | true =>
        cases h3 : (l.take i).any (fun x => x.Address == r.Address) with
        | true => rw [h1, h2, h3] at this; simp at this
        | false => exact ⟨rfl, rfl, rfl⟩
  refine ⟨fun r hr => ?_, ?_⟩
  · obtain ⟨i, hi⟩ := List.getElem?_of_mem hr
    exact ⟨(key i r hi).1, (key i r hi).2.1⟩
  · rw [List.Nodup, List.pairwise_iff_getElem]
    intro i j hi hj hij
    simp only [List.length_map] at hi hj
    simp only [List.getElem_map]
    have h3 := (key j l[j] (List.getElem?_eq_getElem hj)).2.2
    rw [List.any_eq_false] at h3
    have := h3 l[i] (List.mem_of_getElem? (i := i) (by rw [List.getElem?_take_of_lt hij]; exact List.getElem?_eq_getElem hi))
    simpa using this
/-! ### domains -/
end Go.Proofs.YtfkgmcilaiblfaaGreatDoor

/- Notices: what is made is a valid mail. -/
namespace Go.Proofs.YtfkgmcilaiblfaaGreatDoor
open Go.RowKit
set_option linter.unusedVariables false
set_option maxHeartbeats 1000000

theorem valP_of {v : Str} (h : ∀ c ∈ v, endC c = false) (h1 : ∀ c, v.head? = some c → blankC c = false) (h2 : ∀ c, v.getLast? = some c → blankC c = false) : valP v = true := by
  have ha : v.any endC = false := by
    rw [List.any_eq_false]
    intro c hc
    rw [h c hc]
    decide
  unfold valP edgeP
  rw [ha]
  cases hh : v.head? with
  | none => rfl
  | some a =>
    cases hl : v.getLast? with
    | none => rfl
    | some b => dsimp only; rw [h1 a hh, h2 b hl]; rfl
theorem good_end {c : UInt8} (h : goodC c = true ∨ c = 64) : endC c = false ∧ blankC c = false := by
  obtain ⟨h1, h2, h3, h4, h5⟩ := good_or h
  unfold endC blankC
  rw [beq_eq_false_iff_ne.2 h1, beq_eq_false_iff_ne.2 h2, beq_eq_false_iff_ne.2 h3, beq_eq_false_iff_ne.2 h4, beq_eq_false_iff_ne.2 h5]
  exact ⟨rfl, rfl⟩
theorem valP_good {v : Str} (h : ∀ c ∈ v, goodC c = true ∨ c = 64) : valP v = true :=
  valP_of (fun c hc => (good_end (h c hc)).1) (fun c hc => (good_end (h c (List.mem_of_mem_head? hc))).2) (fun c hc => (good_end (h c (List.mem_of_getLast? hc))).2)
theorem mem_flat {L : List Str} {l : Str} (h : l ∈ L) : l.length ≤ L.flatten.length := by
  induction L with
  | nil => cases h
  | cons a L ih =>
    rw [List.flatten_cons, List.length_append]
    rcases List.mem_cons.1 h with rfl | h
    · omega
    · have := ih h; omega
theorem fl_flat (n v : Str) : (flP n v).flatten.length = n.length + 2 + v.length := by
  unfold flP
  rw [(linesOf_join _ (txt n v) _ (Nat.le_refl _)).1, txt_len]
theorem code_short {n v : Str} (hn : fnP n = true) (hv : valP v = true) (hl : n.length + 2 + v.length ≤ 998) : codeP ⟨n, v⟩ = 0 := by
  have hb : longB (flP n v) = false := by
    unfold longB
    rw [List.any_eq_false]
    intro l h
    have := mem_flat h
    rw [fl_flat] at this
    simp
    omega
  rw [codeP_eq]
  unfold codeQ
  dsimp only
  rw [hn, hv, hb, if_neg (show ¬ 4000 < v.length by omega)]
  rfl
theorem addL_len (L : List Str) : ∀ a : List UInt8, (L.foldl addL a).length = a.length + L.flatten.length + 2 * L.length := by
  induction L with
  | nil => intro a; simp
  | cons l L ih => intro a; rw [List.foldl_cons, ih]; unfold addL; simp; omega
theorem addF_len (a : List UInt8) (f : TField) : (addF a f).length ≤ a.length + 3 * (f.Name.length + f.Value.length) + 8 := by
  unfold addF
  rw [addL_len, fl_flat]
  have := fl_len f.Name f.Value
  omega

/-! ### bodies of lines -/
theorem bodyP_line : ∀ (t : Str) (c : Nat) (r : Str), (∀ x ∈ t, x ≠ 13 ∧ x ≠ 10) → c + t.length ≤ 998 → bodyP c (t ++ 13 :: 10 :: r) = bodyP 0 r
  | [], c, r, _, _ => by simp [bodyP]
  | x :: t, c, r, h, hl => by
    have hx := h x (by simp)
    have ih := bodyP_line t (c + 1) r (fun y hy => h y (by simp [hy])) (by simp at hl; omega)
    obtain ⟨y, r', hy⟩ : ∃ y r', t ++ 13 :: 10 :: r = y :: r' := by cases t with
      | nil => exact ⟨_, _, rfl⟩
      | cons a b => exact ⟨_, _, rfl⟩
    rw [List.cons_append, hy]
    rw [hy] at ih
    conv => lhs; unfold bodyP
    rw [beq_eq_false_iff_ne.2 hx.1, beq_eq_false_iff_ne.2 hx.2, if_neg (show ¬ 998 < c + 1 by simp at hl; omega)]
    simpa using ih
theorem bodyN_cons (t : TTold) (l : List TTold) : bodyN (t :: l) = (resW t.Result ++ [32] ++ t.Address) ++ 13 :: 10 :: bodyN l := by
  unfold bodyN
  simp only [List.map_cons, List.flatten_cons, tellT, List.append_assoc, List.cons_append, List.nil_append]
theorem bodyN_valid : ∀ l : List TTold, (∀ t ∈ l, addrP t.Address = true ∧ 1 ≤ t.Result ∧ t.Result ≤ 3) → bodyP 0 (bodyN l) = none
  | [], _ => rfl
  | t :: l, h => by
    have ht := h t (by simp)
    obtain ⟨r1, r2, r3⟩ := resW_ch ht.2
    have h7 := addr_len' ht.1
    have h8 := (res_idx (r := t.Result) (by omega)).2
    rw [bodyN_cons, bodyP_line _ 0 _ ?_ (by simp; omega)]
    · exact bodyN_valid l fun x hx => h x (by simp [hx])
    · intro x hx
      rcases List.mem_append.1 hx with hx | hx
      · rcases List.mem_append.1 hx with hx | hx
        · exact ⟨fun e => r1 (e ▸ hx), r3 x hx⟩
        · rw [List.mem_singleton.1 hx]; decide
      · exact ⟨(good_or (addr_chars ht.1 hx)).1, (good_or (addr_chars ht.1 hx)).2.1⟩

/-! ### the text of a date is a value -/
theorem wdT_ch : ∀ w : Fin 7, (wdT w.val).all (fun c => !endC c) = true ∧ (wdT w.val).head?.map blankC = some false := by decide
theorem moT_ch : ∀ m : Fin 12, (moT m.val).all (fun c => !endC c) = true := by decide
theorem dig_end {c : UInt8} (h : 48 ≤ c.toNat ∧ c.toNat ≤ 57) : endC c = false := by
  have hne : ∀ k : UInt8, k.toNat < 48 → c ≠ k := by rintro k hk rfl; omega
  unfold endC
  rw [beq_eq_false_iff_ne.2 (hne 13 (by decide)), beq_eq_false_iff_ne.2 (hne 10 (by decide)), beq_eq_false_iff_ne.2 (hne 0 (by decide))]
  rfl
theorem decD_dig : ∀ (k u : Nat), u < 10 ^ (k + 1) → ∀ c ∈ Lib.decDigits u, 48 ≤ c.toNat ∧ c.toNat ≤ 57
  | k, u, hu, c, hc => by
    by_cases h : u < 10
    · rw [decD_small h] at hc
      rw [List.mem_singleton.1 hc]
      have : (UInt8.ofNat (48 + u)).toNat = 48 + u := by simp; omega
      omega
    · rw [decD_big h] at hc
      cases k with
      | zero => exact absurd (by simpa using hu) h
      | succ k =>
        rcases List.mem_append.1 hc with hc | hc
        · exact decD_dig k (u / 10) (by rw [Nat.pow_succ] at hu; omega) c hc
        · rw [decD_small (by omega)] at hc
          rw [List.mem_singleton.1 hc]
          have : (UInt8.ofNat (48 + u % 10)).toNat = 48 + u % 10 := by simp; omega
          omega
theorem padD_end {u k : Nat} (hu : u < 10 ^ 10) : ∀ c ∈ padD u k, endC c = false := by
  intro c hc
  unfold padD at hc
  rcases List.mem_append.1 hc with hc | hc
  · rw [(List.mem_replicate.1 hc).2]; decide
  · exact dig_end (decD_dig 9 u hu c hc)
theorem dateT_val {w D m y h mi s : Nat} (b1 : w < 7) (b3 : D ≤ 31) (b4 : m < 12) (b6 : y ≤ 4000) (b7 : h < 24) (b8 : mi < 60) (b9 : s < 60) : valP (dateT w D m y h mi s) = true := by
  have hw := wdT_ch ⟨w, b1⟩
  have hm := moT_ch ⟨m, b4⟩
  dsimp only at hw hm
  obtain ⟨hw1, hw2⟩ := hw
  simp only [List.all_eq_true, Bool.not_eq_true'] at hw1 hm
  refine valP_of ?_ ?_ ?_
  · intro c hc
    unfold dateT at hc
    simp only [List.mem_append] at hc
    have lit : ∀ l : Str, l.all (fun c => !endC c) = true → c ∈ l → endC c = false := fun l hl hc => by
      have := List.all_eq_true.1 hl c hc
      simpa using this
    rcases hc with ((((((((((((hc | hc) | hc) | hc) | hc) | hc) | hc) | hc) | hc) | hc) | hc) | hc) | hc) | hc
    · exact hw1 c hc
    · exact lit _ (by decide) hc
    · exact padD_end (by omega) c hc
    · exact lit _ (by decide) hc
    · exact hm c hc
    · exact lit _ (by decide) hc
    · exact padD_end (by omega) c hc
    · exact lit _ (by decide) hc
    · exact padD_end (by omega) c hc
    · exact lit _ (by decide) hc
    · exact padD_end (by omega) c hc
    · exact lit _ (by decide) hc
    · exact padD_end (by omega) c hc
    · exact lit _ (by decide) hc
  · intro c hc
    unfold dateT at hc
    cases hw0 : wdT w with
    | nil => rw [hw0] at hw2; cases hw2
    | cons a r =>
      rw [hw0] at hw2 hc
      have : a = c := by simpa using hc
      subst this
      simpa using hw2
  · intro c hc
    unfold dateT at hc
    rw [List.getLast?_append] at hc
    have : (48 : UInt8) = c := by simpa using hc
    subst this
    decide
theorem whenP_val {t : Int} {x : Str} (h : whenP t = some x) : valP x = true := by
  rcases whenP_cases t with ⟨h1, _⟩ | ⟨w, D, m, y, hh, mi, s, b1, b2, b3, b4, b5, b6, b7, b8, b9, h1, _⟩
  · rw [h] at h1; cases h1
  · rw [h] at h1
    cases h1
    exact dateT_val b1 b3 b4 b6 b7 b8 b9

/-! ### the mail that is made -/
theorem envF_from {e : TEnvelope} (h : (envF e).Code = 0) (hf : e.From ≠ []) : addrP e.From = true := by
  unfold envF at h
  split at h
  · exact absurd h (by decide)
  · rename_i hc
    unfold fromB at hc
    have : (e.From != ([] : Str)) = true := by simpa using hf
    rw [this] at hc
    simpa using hc
theorem about_val {of : Str} {k : Int} (h : KindOk k) (hid : of = [] ∨ nameP of = true) : valP (aboutN of k) = true := by
  have hkl : valP (kindW k) = true := by rcases h with rfl | rfl | rfl <;> decide
  have hke : ∀ c ∈ kindW k, endC c = false := by rcases h with rfl | rfl | rfl <;> decide
  have hkh : (kindW k).head?.map blankC = some false := by rcases h with rfl | rfl | rfl <;> decide
  unfold aboutN
  by_cases h0 : of = []
  · rw [if_pos h0]; exact hkl
  · rw [if_neg h0]
    have hn : nameP of = true := by exact hid.resolve_left h0
    refine valP_of ?_ ?_ ?_
    · intro c hc
      rcases List.mem_append.1 hc with hc | hc
      · rcases List.mem_append.1 hc with hc | hc
        · exact hke c hc
        · rw [List.mem_singleton.1 hc]; decide
      · exact (good_end (name_chars hn hc)).1
    · intro c hc
      cases hk : kindW k with
      | nil => rw [hk] at hkh; cases hkh
      | cons a r =>
        rw [hk] at hkh hc
        have : a = c := by simpa using hc
        subst this
        simpa using hkh
    · intro c hc
      rw [List.getLast?_append] at hc
      cases hl : of.getLast? with
      | none => simp at hl; exact absurd hl h0
      | some b =>
        rw [hl] at hc
        have : b = c := by simpa using hc
        subst this
        exact (good_end (name_chars hn (List.mem_of_getLast? hl))).2
theorem subj_val {k : Int} (h : KindOk k) : valP ([68, 101, 108, 105, 118, 101, 114, 121, 58, 32] ++ kindW k) = true := by rcases h with rfl | rfl | rfl <;> decide
theorem about_len {of : Str} {k : Int} (h57 : of.length ≤ 57) : (aboutN of k).length ≤ 65 := by
  have := kindW_len k
  unfold aboutN
  split
  · omega
  · simp; omega
theorem dom_len60 {a : Str} (h : addrP a = true) : (domOf a).length ≤ 60 ∧ ∀ c ∈ domOf a, goodC c = true ∨ c = 64 := by
  have hd := domOf_len a
  unfold addrP at h
  simp only [Bool.and_eq_true, decide_eq_true_eq] at h
  unfold domOf
  rw [if_pos h.1.1.1.1]
  refine ⟨?_, fun c hc => dom_chars h.2 hc⟩
  have := h.2
  unfold domP at this
  simp only [Bool.and_eq_true, decide_eq_true_eq] at this
  exact this.1.1
theorem post_val {a : Str} (h : addrP a = true) : valP ([112, 111, 115, 116, 109, 97, 115, 116, 101, 114, 64] ++ domOf a) = true := by
  refine valP_good fun c hc => ?_
  rcases List.mem_append.1 hc with hc | hc
  · have : ∀ c ∈ ([112, 111, 115, 116, 109, 97, 115, 116, 101, 114, 64] : Str), goodC c = true ∨ c = 64 := by decide
    exact this c hc
  · exact (dom_len60 h).2 c hc
structure NoteIn (m : TMail) (k : Int) (l : List TTold) (x : Str) : Prop where
  mail : (mailF m).Code = 0
  frm : m.Envelope.From ≠ []
  kind : KindOk k
  id57 : m.Envelope.Id.length ≤ 57
  told : ToldOk l
  len : x.length = 31
  val : valP x = true
theorem NoteIn.idn {m : TMail} {k : Int} {l : List TTold} {x : Str} (h : NoteIn m k l x) : m.Envelope.Id = [] ∨ nameP m.Envelope.Id = true := envF_id (mailF_parts h.mail).1
theorem NoteIn.addr {m : TMail} {k : Int} {l : List TTold} {x : Str} (h : NoteIn m k l x) : addrP m.Envelope.From = true := envF_from (mailF_parts h.mail).1 h.frm
theorem make_in {m : TMail} {k : Int} {l : List TTold} {now : Int} (h : (makeP m k l now).2.Code = 0) : ∃ x, whenP now = some x ∧ makeP m k l now = (noteM m.Envelope k l x, ⟨0, 0⟩) ∧ NoteIn m k l x := by
  unfold makeP at h ⊢
  cases hc : (mailF m).Code != 0 with
  | true => rw [hc] at h; simp only [cond_true] at h; rw [h] at hc; cases hc
  | false =>
    rw [hc] at h
    cases hf : m.Envelope.From == ([] : Str) with
    | true => rw [hf] at h; have h9 : (8 : Int) = 0 := h; exact absurd h9 (by omega)
    | false =>
      rw [hf] at h
      cases hk : kindW k == ([] : Str) with
      | true => rw [hk] at h; have h9 : (4 : Int) = 0 := h; exact absurd h9 (by omega)
      | false =>
        rw [hk] at h
        cases h7 : decide (57 < m.Envelope.Id.length) with
        | true => rw [h7] at h; have h9 : (1 : Int) = 0 := h; exact absurd h9 (by omega)
        | false =>
          rw [h7] at h
          cases ht : (toldF l).Code != 0 with
          | true => rw [ht] at h; simp only [cond_false, cond_true] at h; rw [h] at ht; cases ht
          | false =>
            rw [ht] at h
            simp only [cond_false] at h ⊢
            cases hw : whenP now with
            | none => rw [hw] at h; have h9 : (3 : Int) = 0 := h; exact absurd h9 (by omega)
            | some x =>
              refine ⟨x, rfl, rfl, by simpa using hc, by simpa using hf, kindW_ok (by simpa using hk), by simpa using h7, (toldF_ok (by simpa using ht)).1, whenP_len hw, whenP_val hw⟩
theorem note_fields {m : TMail} {k : Int} {l : List TTold} {x : Str} (h : NoteIn m k l x) : ∀ f ∈ (noteMsg m.Envelope k l x).Fields, codeP f = 0 ∧ f.Name.length ≤ 8 ∧ f.Value.length ≤ 121 := by
  have h1 := dom_len60 h.addr
  have h2 := addr_len' h.addr
  have h3 := kindW_len k
  have h4 := about_len (of := m.Envelope.Id) (k := k) h.id57
  have h5 := h.len
  have n1 : fnP fFrom = true := by decide
  have n2 : fnP fTo = true := by decide
  have n3 : fnP fSubj = true := by decide
  have n4 : fnP fDate = true := by decide
  have n5 : fnP fNote = true := by decide
  intro f hf
  unfold noteMsg at hf
  simp only [List.mem_cons, List.not_mem_nil, or_false] at hf
  rcases hf with rfl | rfl | rfl | rfl | rfl
  · exact ⟨code_short n1 (post_val h.addr) (by simp [fFrom]; omega), show List.length fFrom ≤ 8 by decide, by simp; omega⟩
  · exact ⟨code_short n2 (valP_good fun c hc => addr_chars h.addr hc) (by simp [fTo]; omega), show List.length fTo ≤ 8 by decide, by simpa using h2⟩
  · exact ⟨code_short n3 (subj_val h.kind) (by simp [fSubj]; omega), show List.length fSubj ≤ 8 by decide, by simp; omega⟩
  · exact ⟨code_short n4 h.val (by simp [fDate]; omega), show List.length fDate ≤ 8 by decide, by simp; omega⟩
  · exact ⟨code_short n5 (about_val h.kind h.idn) (by simp [fNote]; omega), show List.length fNote ≤ 8 by decide, by simp; omega⟩
theorem note_msg {m : TMail} {k : Int} {l : List TTold} {x : Str} (h : NoteIn m k l x) : msgF (noteMsg m.Envelope k l x) = ⟨0, 0⟩ := by
  have hf := note_fields h
  have hq : firstI fieldQ 0 (noteMsg m.Envelope k l x).Fields = none := firstI_none.2 fun i f hif => by
    have := (hf f (List.mem_of_getElem? hif)).1
    unfold fieldQ
    rw [this]
    rfl
  have hh : headF (noteMsg m.Envelope k l x).Fields = ⟨0, 0⟩ := by
    unfold headF
    rw [hq, if_neg (by show ¬ 60 < 5; omega)]
    rfl
  have hb := bodyN_len h.told.2.2
  have h60 := h.told.2.1
  have hlen : (bytesP (noteMsg m.Envelope k l x)).length ≤ 12000 := by
    unfold bytesP
    have key : ∀ (L : List TField) (a : List UInt8), (∀ f ∈ L, f.Name.length ≤ 8 ∧ f.Value.length ≤ 121) → (L.foldl addF a).length ≤ a.length + 395 * L.length := by
      intro L
      induction L with
      | nil => intro a _; simp
      | cons f L ih =>
        intro a hL
        have h1 := hL f (by simp)
        have h2 := addF_len a f
        have h3 := ih (addF a f) fun g hg => hL g (by simp [hg])
        rw [List.foldl_cons, List.length_cons]
        omega
    have := key (noteMsg m.Envelope k l x).Fields [] fun f hfm => (hf f hfm).2
    have e5 : (noteMsg m.Envelope k l x).Fields.length = 5 := rfl
    have eb : (noteMsg m.Envelope k l x).Body = bodyN l := rfl
    rw [e5] at this
    rw [eb]
    simp only [List.length_append, List.length_nil, List.length_cons] at this ⊢
    omega
  unfold msgF
  rw [hh, if_neg (by decide), if_neg (by omega)]
  unfold bodyF
  show (bodyP 0 (bodyN l)).elim _ _ = _
  rw [bodyN_valid l h.told.2.2]
  rfl
theorem note_small {m : TMail} {k : Int} {l : List TTold} {x : Str} (h : NoteIn m k l x) {f : Str} (hf : f = [] ∨ addrP f = true) : smallE ⟨f, [⟨m.Envelope.From, 0⟩], idN m.Envelope.Id k⟩ ∧ smallM (noteMsg m.Envelope k l x) := by
  have h1 := addr_len' h.addr
  have h2 : (idN m.Envelope.Id k).length = m.Envelope.Id.length + 3 := idN_len (by rcases h.kind with rfl | rfl | rfl <;> omega)
  have h3 := h.id57
  have hb := bodyN_len h.told.2.2
  have h60 := h.told.2.1
  have hfl : f.length ≤ 1048576 := by
    rcases hf with rfl | hf
    · simp
    · have := addr_len' hf; omega
  refine ⟨⟨hfl, show (idN m.Envelope.Id k).length ≤ _ by omega, by simp, fun a ha => ?_⟩, ⟨by show 5 ≤ _; omega, fun g hg => ?_⟩, ?_⟩
  · obtain rfl := List.mem_singleton.1 ha
    show m.Envelope.From.length ≤ _
    omega
  · have := note_fields h g hg; omega
  · show (bodyN l).length ≤ _
    omega
theorem note_read {m : TMail} {k : Int} {l : List TTold} {x : Str} (h : NoteIn m k l x) : notice_Read (noteMsg m.Envelope k l x) = some (⟨k, m.Envelope.Id, l⟩, true, ⟨0, 0⟩) := by
  rw [notice_Read_eq _ (note_small h (.inl rfl)).2, note_msg h, read_note h.kind h.idn h.id57 h.told]
  rfl
end Go.Proofs.YtfkgmcilaiblfaaGreatDoor

/- Trace fields: the closed example of the laws. -/
namespace Go.Proofs.YtfkgmcilaiblfaaGreatDoor
open Go.RowKit
set_option linter.unusedVariables false
set_option maxHeartbeats 1000000
def stT0 : Str := [84, 104, 117, 44, 32, 48, 49, 32, 74, 97, 110, 32, 49, 57, 55, 48, 32, 48, 48, 58, 48, 48, 58, 48, 48, 32, 43, 48, 48, 48, 48]
theorem dateT_0 : dateT 4 1 0 1970 0 0 0 = stT0 := by
  have e0 : padD 0 2 = [48, 48] := by unfold padD; rw [decD_small (by omega)]; rfl
  have e1 : padD 1 2 = [48, 49] := by unfold padD; rw [decD_small (by omega)]; rfl
  have e2 : padD 1970 4 = [49, 57, 55, 48] := by
    unfold padD
    rw [decD_big (by omega), decD_big (u := 1970 / 10) (by omega), decD_big (u := 1970 / 10 / 10) (by omega), decD_small (u := 1970 / 10 / 10 / 10) (by omega), decD_small (u := 1970 / 10 / 10 % 10) (by omega), decD_small (u := 1970 / 10 % 10) (by omega), decD_small (u := 1970 % 10) (by omega)]
    rfl
  unfold dateT
  rw [e0, e1, e2]
  rfl
theorem whenP_0 : whenP 0 = some stT0 := by
  rcases R_When_in 0 (by omega) (by omega) with ⟨_, h⟩ | ⟨Y, M, g, hY1, hY2, hM, hN, hd, hw⟩
  · exfalso; omega
  · have hn := domI_nn Y M
    have hm12 := domI_mono Y (show M + 1 ≤ 12 by omega)
    have hys := befI_succ Y
    rw [domI_12] at hm12
    have e70 : befI 1971 = 719527 := by decide
    have hY : Y = 1970 := year_unique (n := 719162) ⟨by omega, by omega⟩ ⟨by rw [befI_1970]; omega, by show (719162 : Int) < befI 1971; rw [e70]; omega⟩
    subst hY
    rw [befI_1970] at hN
    have hg : g = 0 := by omega
    subst hg
    have hM0 : M = 0 := month_unique (y := 1970) (n := 0) hd ⟨by simp [domI], by decide⟩
    subst hM0
    unfold whenP
    rw [hw]
    show some (dateT 4 1 0 1970 0 0 0) = _
    rw [dateT_0]
theorem noM_small : smallM noM := ⟨⟨by decide, fun f hf => by cases hf⟩, by decide⟩
end Go.Proofs.YtfkgmcilaiblfaaGreatDoor

/- Notices: the closed example of the laws. -/
namespace Go.Proofs.YtfkgmcilaiblfaaGreatDoor
open Go.RowKit
set_option linter.unusedVariables false
set_option maxHeartbeats 1000000
def tM : TMail := ⟨⟨[115, 64, 120], [⟨[97, 64, 121], 1⟩], [55]⟩, ⟨[], []⟩⟩
def tL : List TTold := [⟨[97, 64, 121], 3⟩]
theorem tIn : NoteIn tM 1 tL stT0 :=
  ⟨by kernel_rfl, by decide, .inl rfl, by decide, ⟨by decide, by decide, fun t ht => by
    obtain rfl := List.mem_singleton.1 ht
    exact ⟨by kernel_rfl, by decide, by decide⟩⟩, by decide, by decide⟩
theorem tM_small : smallE tM.Envelope ∧ smallM tM.Message :=
  ⟨⟨by decide, by decide, by decide, fun a ha => by
    obtain rfl := List.mem_singleton.1 ha
    decide⟩, noM_small⟩
end Go.Proofs.YtfkgmcilaiblfaaGreatDoor

/- Bounces: which notices are due. -/
namespace Go.Proofs.YtfkgmcilaiblfaaGreatDoor
open Go.RowKit
set_option linter.unusedVariables false
set_option maxHeartbeats 1000000
/-- what a notice of a kind tells -/
def tellQ (k r : Int) (p : TRecipient × Int) : Option TTold := if (p.2 == r && (iAnd p.1.Notify k != 0)) = true then some ⟨p.1.Address, p.2⟩ else none
def pick (tos : List TRecipient) (res : List Int) (k r : Int) : List TTold := (tos.zip res).filterMap (tellQ k r)
theorem pick_small {tos : List TRecipient} {res : List Int} {k r : Int} (h : smallR tos) : smallT (pick tos res k r) := by
  refine ⟨?_, fun t ht => ?_⟩
  · have h1 := List.length_filterMap_le (tellQ k r) (tos.zip res)
    have h2 : (tos.zip res).length ≤ tos.length := by simp; omega
    unfold pick
    have := h.1
    omega
  · unfold pick at ht
    obtain ⟨p, hp, hq⟩ := List.mem_filterMap.1 ht
    unfold tellQ at hq
    split at hq
    · cases hq
      exact h.2 _ (List.of_mem_zip hp).1
    · cases hq
theorem tell_fold (k r : Int) (L : List (TRecipient × Int)) : ∀ o : List TTold, L.foldl (fun o p => if (p.2 == r && (iAnd p.1.Notify k != 0)) = true then o ++ [⟨p.1.Address, p.2⟩] else o) o = o ++ L.filterMap (tellQ k r) := by
  induction L with
  | nil => intro o; simp
  | cons p L ih =>
    intro o
    rw [List.foldl_cons, ih, List.filterMap_cons]
    unfold tellQ
    by_cases h : (p.2 == r && (iAnd p.1.Notify k != 0)) = true
    · rw [if_pos h, if_pos h]; simp
    · rw [if_neg h, if_neg h]
theorem tell_loop (m : TMail) (res : List Int) (d : Tbounce_due) (hl : res.length = m.Envelope.To.length) (hs : res.length ≤ 1048576) : iter (bounce_Due_l4 m res d) (0, ([] : List TTold)) = some (pick m.Envelope.To res d.kind d.result) := by
  have hz : (m.Envelope.To.zip res).length = res.length := by simp; omega
  have := (iter_fold (m.Envelope.To.zip res) (fun i (s : List TTold) => (i, s)) (fun o p => if (p.2 == d.result && (iAnd p.1.Notify d.kind != 0)) = true then o ++ [⟨p.1.Address, p.2⟩] else o) id (fun i s => s.length ≤ i) (body := bounce_Due_l4 m res d)
    (fun s _ => by unfold bounce_Due_l4; rw [hz]; simp [dec_len]) (fun i p s hp hi => by
      have hlt := lt_get hp
      rw [List.getElem?_zip_eq_some] at hp
      obtain ⟨hp1, hp2⟩ := hp
      refine ⟨?_, by split <;> (try simp) <;> omega⟩
      unfold bounce_Due_l4
      dsimp only
      rw [dec_lt hp2, idx_get hp2, idx_get hp1]
      simp only [cond_true, Option.bind_some, sc i (by omega)]
      cases p.2 == d.result with
      | false => rfl
      | true =>
        cases iAnd p.1.Notify d.kind != 0 with
        | false => rfl
        | true =>
          simp only [cond_true, Option.bind_some, Bool.and_self, if_true]
          rw [app_ok (by simp; omega)]
          rfl) [] (by simp)).1
  rw [this, tell_fold]
  rfl
def kindsD : List Tbounce_due := [⟨1, 3⟩, ⟨2, 2⟩, ⟨4, 1⟩]
noncomputable def goD (m : TMail) (res : List Int) (now : Int) : List Tbounce_due → List TMail → List TMail ⊕ (List TMail × TFault)
  | [], out => .inl out
  | d :: t, out => bif ((pick m.Envelope.To res d.kind d.result).length : Int) == 0 then goD m res now t out else
    bif (makeP m d.kind (pick m.Envelope.To res d.kind d.result) now).2.Code != 0 then .inr ([], (makeP m d.kind (pick m.Envelope.To res d.kind d.result) now).2) else
    goD m res now t (out ++ [(makeP m d.kind (pick m.Envelope.To res d.kind d.result) now).1])
theorem goD_cons (m : TMail) (res : List Int) (now : Int) (d : Tbounce_due) (t : List Tbounce_due) (out : List TMail) : goD m res now (d :: t) out = bif ((pick m.Envelope.To res d.kind d.result).length : Int) == 0 then goD m res now t out else
    bif (makeP m d.kind (pick m.Envelope.To res d.kind d.result) now).2.Code != 0 then .inr ([], (makeP m d.kind (pick m.Envelope.To res d.kind d.result) now).2) else
    goD m res now t (out ++ [(makeP m d.kind (pick m.Envelope.To res d.kind d.result) now).1]) := rfl
theorem due_loop (m : TMail) (res : List Int) (now : Int) (h1 : smallE m.Envelope) (h2 : smallM m.Message) (hl : res.length = m.Envelope.To.length) (hs : res.length ≤ 1048576) : iter (bounce_Due_l2 m res now) (0, ([] : List TMail)) = some (goD m res now kindsD []) := by
  refine iter_listI kindsD (fun n (s : List TMail) => ((n : Int), s)) (fun _ r s => goD m res now r s) (fun n _ s => s.length ≤ n) ?_ ?_ [] rfl (by simp)
  · intro s _
    unfold bounce_Due_l2
    rfl
  · intro p d r s hp hi
    have hlt : decide (((p.length : Nat) : Int) < 3) = true := by
      have : (p ++ d :: r).length = 3 := by rw [← hp]; rfl
      simp at this ⊢
      omega
    have h3p : p.length ≤ 3 := by
      have : (p ++ d :: r).length = 3 := by rw [← hp]; rfl
      simp at this
      omega
    have hd : idx ([(Tbounce_due.mk 1 3), (Tbounce_due.mk 2 2), (Tbounce_due.mk 4 1)] : List Tbounce_due) (p.length : Int) = some d := by
      show idx kindsD (p.length : Int) = some d
      rw [hp]
      exact idx_app p d r
    unfold bounce_Due_l2 bounce_Due_k3
    dsimp only
    rw [hlt, hd]
    simp only [cond_true, Option.bind_some, tell_loop m res d hl hs, sc p.length (by omega)]
    rw [goD_cons]
    cases h0 : ((pick m.Envelope.To res d.kind d.result).length : Int) == 0 with
    | true => exact .inr ⟨s, rfl, rfl, by omega⟩
    | false =>
      simp only [cond_false, notice_Make_eq m d.kind _ now h1 h2 (pick_small h1.2.2), Option.bind_some, basic_Failed_eq]
      cases hc : (makeP m d.kind (pick m.Envelope.To res d.kind d.result) now).2.Code != 0 with
      | true => exact .inl rfl
      | false =>
        simp only [cond_false]
        rw [app_ok (by simp; omega)]
        exact .inr ⟨_, rfl, rfl, by simp; omega⟩
def resB (r : Int) : Bool := decide (r < 0) || decide (3 < r)
noncomputable def dueP (m : TMail) (res : List Int) (now : Int) : List TMail × TFault :=
  bif (mailF m).Code != 0 then ([], mailF m) else bif (res.length : Int) != (m.Envelope.To.length : Int) then ([], ⟨9, -17⟩) else bif res.any resB then ([], ⟨3, -17⟩) else
  bif (readP m.Message).2 || m.Envelope.From == ([] : Str) then ([], ⟨0, 0⟩) else match goD m res now kindsD [] with
    | .inl out => (out, ⟨0, 0⟩)
    | .inr x => x
theorem bounce_Due_eq (m : TMail) (res : List Int) (now : Int) (h1 : smallE m.Envelope) (h2 : smallM m.Message) (hs : res.length ≤ 1048576) : bounce_Due m res now = some (dueP m res now) := by
  unfold bounce_Due dueP
  rw [envelope_Check_eq _ h1 h2]
  simp only [Option.bind_some, basic_Failed_eq, basic_Fault_eq, basic_None_eq]
  cases hc : (mailF m).Code != 0 with
  | true => rfl
  | false =>
    have hmsg := (mailF_parts (m := m) (by simpa using hc)).2
    simp only [cond_false]
    cases hl : (res.length : Int) != (m.Envelope.To.length : Int) with
    | true => rfl
    | false =>
      have hl' : res.length = m.Envelope.To.length := by
        have : (res.length : Int) = (m.Envelope.To.length : Int) := by simpa using hl
        omega
      have hloop : iter (bounce_Due_l1 res) 0 = some (if res.any resB then .inr ([], ⟨3, -17⟩) else .inl ()) := by
        rw [iter_first res (fun _ r => if resB r then some (([] : List TMail), (⟨3, -17⟩ : TFault)) else none) (.inl ()) .inr, firstI_any]
        · cases res.any resB <;> rfl
        · unfold bounce_Due_l1; rw [dec_len]; rfl
        · intro i r hr
          have hi := lt_get hr
          unfold bounce_Due_l1 resB
          rw [dec_lt hr, idx_get hr]
          simp only [cond_true, Option.bind_some, sc i (by omega), basic_Fault_eq]
          cases decide (r < 0) <;> cases decide (3 < r) <;> rfl
      simp only [cond_false, hloop, Option.bind_some]
      cases ha : res.any resB with
      | true => rfl
      | false =>
        have hmc : ((msgF m.Message).Code != 0) = false := by simp [hmsg]
        simp only [Bool.false_eq_true, if_false, Sum.elim_inl, cond_false, notice_Read_eq _ h2, hmc, Option.bind_some]
        cases hr : (readP m.Message).2 with
        | true => rfl
        | false =>
          cases hf : m.Envelope.From == ([] : Str) with
          | true => rfl
          | false =>
            simp only [cond_false, Option.bind_some, due_loop m res now h1 h2 hl' hs, Bool.or_self]
            cases goD m res now kindsD [] <;> rfl

/-! ### what the notices are -/
noncomputable def xN (now : Int) : Str := (whenP now).getD []
def someD (m : TMail) (res : List Int) (d : Tbounce_due) : Bool := !(((pick m.Envelope.To res d.kind d.result).length : Int) == 0)
theorem goD_ok (m : TMail) (res : List Int) (now : Int) : ∀ (t : List Tbounce_due) (out l : List TMail), goD m res now t out = .inl l →
    l = out ++ (t.filter (someD m res)).map (fun d => noteM m.Envelope d.kind (pick m.Envelope.To res d.kind d.result) (xN now)) ∧
    ∀ d ∈ t.filter (someD m res), NoteIn m d.kind (pick m.Envelope.To res d.kind d.result) (xN now)
  | [], out, l, h => by
    unfold goD at h
    cases h
    exact ⟨by simp, fun d hd => by cases hd⟩
  | d :: t, out, l, h => by
    rw [goD_cons] at h
    have hs : someD m res d = !(((pick m.Envelope.To res d.kind d.result).length : Int) == 0) := rfl
    rw [List.filter_cons, hs]
    cases h0 : ((pick m.Envelope.To res d.kind d.result).length : Int) == 0 with
    | true =>
      rw [h0] at h
      simp only [cond_true] at h
      exact goD_ok m res now t out l h
    | false =>
      rw [h0] at h
      simp only [cond_false] at h
      cases hc : (makeP m d.kind (pick m.Envelope.To res d.kind d.result) now).2.Code != 0 with
      | true => rw [hc] at h; cases h
      | false =>
        rw [hc] at h
        simp only [cond_false] at h
        obtain ⟨x, hx1, hx2, hx3⟩ := make_in (by simpa using hc)
        have hxn : xN now = x := by unfold xN; rw [hx1]; rfl
        rw [hx2] at h
        obtain ⟨i1, i2⟩ := goD_ok m res now t _ l h
        refine ⟨?_, ?_⟩
        · rw [i1, hxn]
          simp [List.append_assoc]
        · intro d' hd'
          simp only [Bool.not_false, if_true] at hd'
          rcases List.mem_cons.1 hd' with rfl | hd'
          · rw [hxn]; exact hx3
          · exact i2 d' hd'
theorem goD_bad (m : TMail) (res : List Int) (now : Int) : ∀ (t : List Tbounce_due) (out : List TMail) (x : List TMail × TFault), goD m res now t out = .inr x → x.1 = [] ∧ x.2.Code ≠ 0
  | [], out, x, h => by unfold goD at h; cases h
  | d :: t, out, x, h => by
    unfold goD at h
    cases h0 : ((pick m.Envelope.To res d.kind d.result).length : Int) == 0 with
    | true => rw [h0] at h; exact goD_bad m res now t _ x h
    | false =>
      rw [h0] at h
      simp only [cond_false] at h
      cases hc : (makeP m d.kind (pick m.Envelope.To res d.kind d.result) now).2.Code != 0 with
      | true => rw [hc] at h; cases h; exact ⟨rfl, by simpa using hc⟩
      | false => rw [hc] at h; exact goD_bad m res now t _ x h
/-- what is due, if nothing is wrong -/
structure DueIn (m : TMail) (res : List Int) (now : Int) (l : List TMail) : Prop where
  mail : (mailF m).Code = 0
  len : res.length = m.Envelope.To.length
  rng : ∀ r ∈ res, 0 ≤ r ∧ r ≤ 3
  rest : (l = [] ∧ ((readP m.Message).2 = true ∨ m.Envelope.From = [])) ∨ ((readP m.Message).2 = false ∧ m.Envelope.From ≠ [] ∧
    l = (kindsD.filter (someD m res)).map (fun d => noteM m.Envelope d.kind (pick m.Envelope.To res d.kind d.result) (xN now)) ∧
    ∀ d ∈ kindsD.filter (someD m res), NoteIn m d.kind (pick m.Envelope.To res d.kind d.result) (xN now))
theorem due_in (m : TMail) (res : List Int) (now : Int) : ((dueP m res now).1 = [] ∧ (dueP m res now).2.Code ≠ 0) ∨ ((dueP m res now).2 = ⟨0, 0⟩ ∧ DueIn m res now (dueP m res now).1) := by
  unfold dueP
  cases hc : (mailF m).Code != 0 with
  | true => exact .inl ⟨rfl, by simpa using hc⟩
  | false =>
    cases hl : (res.length : Int) != (m.Envelope.To.length : Int) with
    | true => exact .inl ⟨rfl, show (9 : Int) ≠ 0 by decide⟩
    | false =>
      have hl' : res.length = m.Envelope.To.length := by
        have : (res.length : Int) = (m.Envelope.To.length : Int) := by simpa using hl
        omega
      cases ha : res.any resB with
      | true => exact .inl ⟨rfl, show (3 : Int) ≠ 0 by decide⟩
      | false =>
        have hr : ∀ r ∈ res, 0 ≤ r ∧ r ≤ 3 := fun r h => by
          have := List.any_eq_false.1 ha r h
          unfold resB at this
          simp at this
          exact this
        cases hrd : (readP m.Message).2 || m.Envelope.From == ([] : Str) with
        | true => exact .inr ⟨rfl, by simpa using hc, hl', hr, .inl ⟨rfl, by simpa using hrd⟩⟩
        | false =>
          simp only [Bool.or_eq_false_iff, beq_eq_false_iff_ne] at hrd
          simp only [cond_false]
          cases hg : goD m res now kindsD [] with
          | inl out =>
            obtain ⟨g1, g2⟩ := goD_ok m res now kindsD [] out hg
            exact .inr ⟨rfl, by simpa using hc, hl', hr, .inr ⟨hrd.1, hrd.2, by simpa using g1, g2⟩⟩
          | inr x => exact .inl (goD_bad m res now kindsD [] x hg)
end Go.Proofs.YtfkgmcilaiblfaaGreatDoor

/- Bounces: the closed example of the laws; no notice about a notice; how often an address is told of. -/
namespace Go.Proofs.YtfkgmcilaiblfaaGreatDoor
open Go.RowKit
set_option linter.unusedVariables false
set_option maxHeartbeats 1000000
theorem make_of {m : TMail} {k : Int} {l : List TTold} {now : Int} {x : Str} (h : NoteIn m k l x) (hw : whenP now = some x) : makeP m k l now = (noteM m.Envelope k l x, ⟨0, 0⟩) := by
  unfold makeP
  rw [h.mail, beq_eq_false_iff_ne.2 h.frm, beq_eq_false_iff_ne.2 (kindW_ne h.kind), decide_eq_false (show ¬ 57 < m.Envelope.Id.length by have := h.id57; omega), toldF_of h.told, hw]
  rfl
def dM : TMail := ⟨⟨[115, 64, 120], [⟨[97, 64, 121], 1⟩, ⟨[98, 64, 121], 1⟩], [55]⟩, ⟨[], []⟩⟩
theorem dIn : NoteIn dM 1 tL stT0 := ⟨by kernel_rfl, by decide, .inl rfl, by decide, tIn.told, by decide, by decide⟩
theorem dM_small : smallE dM.Envelope ∧ smallM dM.Message :=
  ⟨⟨by decide, by decide, by decide, fun a ha => by
    have : ∀ a ∈ dM.Envelope.To, a.Address.length ≤ 1048576 := by decide
    exact this a ha⟩, noM_small⟩
theorem due_dM : dueP dM [3, 1] 0 = ([noteM dM.Envelope 1 tL stT0], ⟨0, 0⟩) := by
  have p1 : pick dM.Envelope.To [3, 1] 1 3 = tL := by kernel_rfl
  have p2 : pick dM.Envelope.To [3, 1] 2 2 = [] := by kernel_rfl
  have p3 : pick dM.Envelope.To [3, 1] 4 1 = [] := by kernel_rfl
  have hg : goD dM [3, 1] 0 kindsD [] = .inl [noteM dM.Envelope 1 tL stT0] := by
    unfold kindsD goD goD goD goD
    dsimp only
    rw [p1, p2, p3, make_of dIn whenP_0]
    rfl
  have hr : (readP dM.Message).2 = false := by kernel_rfl
  have hm : (mailF dM).Code = 0 := dIn.mail
  unfold dueP
  rw [hm, hr, hg]
  rfl
theorem due_tM : dueP tM [0] 0 = ([], ⟨0, 0⟩) := by
  have p1 : pick tM.Envelope.To [0] 1 3 = [] := by kernel_rfl
  have p2 : pick tM.Envelope.To [0] 2 2 = [] := by kernel_rfl
  have p3 : pick tM.Envelope.To [0] 4 1 = [] := by kernel_rfl
  have hg : goD tM [0] 0 kindsD [] = .inl [] := by
    unfold kindsD goD goD goD goD
    dsimp only
    rw [p1, p2, p3]
    rfl
  have hr : (readP tM.Message).2 = false := by kernel_rfl
  have hm : (mailF tM).Code = 0 := tIn.mail
  unfold dueP
  rw [hm, hr, hg]
  rfl
theorem due_tM0 : dueP tM [] 0 = ([], ⟨9, -17⟩) := by
  have hm : (mailF tM).Code = 0 := tIn.mail
  unfold dueP
  rw [hm]
  rfl
theorem L_dues_eq : L_dues = some true := by
  have h1 : L_plain (([([97, 64, 121] : Str), ([98, 64, 121] : Str)] : List Str)) = some dM := L_plain_eq _ (by decide)
  have h2 : L_plain (([([97, 64, 121] : Str)] : List Str)) = some tM := L_plain_eq _ (by decide)
  have b1 : bounce_Due dM (([3, 1] : List Int)) 0 = some ([noteM dM.Envelope 1 tL stT0], ⟨0, 0⟩) := by rw [bounce_Due_eq _ _ _ dM_small.1 dM_small.2 (by decide), due_dM]
  have b2 : bounce_Due tM (([0] : List Int)) 0 = some ([], ⟨0, 0⟩) := by rw [bounce_Due_eq _ _ _ tM_small.1 tM_small.2 (by decide), due_tM]
  have b3 : bounce_Due tM ([]) 0 = some ([], ⟨9, -17⟩) := by rw [bounce_Due_eq _ _ _ tM_small.1 tM_small.2 (by decide), due_tM0]
  have hn : noteM dM.Envelope 1 tL stT0 = ⟨⟨[], [⟨[115, 64, 120], 0⟩], [55, 46, 110, 49]⟩, noteMsg dM.Envelope 1 tL stT0⟩ := by
    unfold noteM idN
    rw [dec_kind (by decide)]
    rfl
  unfold L_dues
  rw [h1, h2]
  simp only [Option.bind_some]
  rw [b1, b2, b3, hn]
  simp only [Option.bind_some, R_At_eq]
  show _ = some true
  kernel_rfl
/-! ### how often an address is told of -/
def cntA (a : Str) (l : List TTold) : Nat := l.countP fun t => t.Address == a
theorem cntA_le (a : Str) (l : List TTold) : cntA a l ≤ l.length := List.countP_le_length
theorem pick_count (k r : Int) : ∀ (L : List (TRecipient × Int)) (i : Nat) (p : TRecipient × Int), (L.map (·.1.Address)).Nodup → L[i]? = some p →
    cntA p.1.Address (L.filterMap (tellQ k r)) = if (p.2 == r && (iAnd p.1.Notify k != 0)) = true then 1 else 0
  | [], i, p, _, h => by cases h
  | q :: L, i, p, hn, h => by
    have hn' := List.nodup_cons.1 (by simpa using hn : (q.1.Address :: L.map (·.1.Address)).Nodup)
    have tail0 : ∀ a : Str, a ∉ L.map (·.1.Address) → cntA a (L.filterMap (tellQ k r)) = 0 := by
      intro a ha
      unfold cntA
      rw [List.countP_eq_zero]
      intro t ht
      obtain ⟨x, hx, hq⟩ := List.mem_filterMap.1 ht
      unfold tellQ at hq
      split at hq
      · cases hq
        intro he
        exact ha (List.mem_map.2 ⟨x, hx, by simpa using he⟩)
      · cases hq
    cases i with
    | zero =>
      have : q = p := by simpa using h
      subst this
      have h0 := tail0 q.1.Address hn'.1
      rw [List.filterMap_cons]
      unfold tellQ
      by_cases hc : (q.2 == r && (iAnd q.1.Notify k != 0)) = true
      · simp only [if_pos hc]
        unfold cntA at h0 ⊢
        rw [List.countP_cons]
        unfold tellQ at h0
        rw [h0]
        simp
      · simp only [if_neg hc]
        unfold tellQ at h0
        exact h0
    | succ i =>
      have hi : L[i]? = some p := by simpa using h
      have ih := pick_count k r L i p hn'.2 hi
      have hne : q.1.Address ≠ p.1.Address := by
        intro he
        exact hn'.1 (he ▸ List.mem_map.2 ⟨p, List.mem_of_getElem? hi, rfl⟩)
      rw [List.filterMap_cons]
      unfold tellQ
      by_cases hc : (q.2 == r && (iAnd q.1.Notify k != 0)) = true
      · simp only [if_pos hc]
        unfold cntA at ih ⊢
        rw [List.countP_cons]
        unfold tellQ at ih
        rw [ih]
        simp [hne]
      · simp only [if_neg hc]
        unfold tellQ at ih
        exact ih
theorem count_loop (m : TMail) (s : Int) (i : Nat) (rcp : TRecipient) (v : TNotice × Bool × TFault) (hs : s = (i : Int)) (hi : m.Envelope.To[i]? = some rcp) (hv : v.1.Told.length ≤ 60) (n : Nat) (hn : n ≤ 1000000) :
    iter (L_BounceTellsEachOnce_l3 m s v) ((n : Int), 0) = some ((n + cntA rcp.Address v.1.Told : Nat) : Int) := by
  subst hs
  have := (iter_fold v.1.Told (fun j (s : Nat) => ((s : Int), j)) (fun c t => if t.Address == rcp.Address then c + 1 else c) (fun s : Nat => (s : Int)) (fun j s => s ≤ 1000000 + j) (body := L_BounceTellsEachOnce_l3 m (i : Int) v)
    (fun s _ => by unfold L_BounceTellsEachOnce_l3; simp [dec_len]) (fun j t s ht hj => by
      have hlt := lt_get ht
      refine ⟨?_, by split <;> omega⟩
      unfold L_BounceTellsEachOnce_l3
      dsimp only
      rw [dec_lt ht, idx_get ht, idx_get hi]
      simp only [cond_true, Option.bind_some, sc j (by omega), sc s (by omega)]
      cases t.Address == rcp.Address <;> rfl) n (by omega)).1
  rw [this]
  have key : ∀ (l : List TTold) (n : Nat), l.foldl (fun c t => if (t.Address == rcp.Address) = true then c + 1 else c) n = n + cntA rcp.Address l := by
    intro l
    induction l with
    | nil => intro n; simp [cntA]
    | cons t l ih =>
      intro n
      rw [List.foldl_cons, ih]
      unfold cntA
      rw [List.countP_cons]
      split <;> omega
  rw [key]
end Go.Proofs.YtfkgmcilaiblfaaGreatDoor

/- The law BounceTellsEachOnce in plain Lean. -/
namespace Go.Proofs.YtfkgmcilaiblfaaGreatDoor
open Go.RowKit
set_option linter.unusedVariables false
set_option maxHeartbeats 1000000
theorem and_kinds : ∀ n : Fin 8, (iAnd (n.val : Int) 4 != 0) = decide (4 ≤ (n.val : Int)) ∧ (iAnd (n.val : Int) 2 != 0) = (iRem (iQuo (n.val : Int) 2) 2 == 1) ∧ (iAnd (n.val : Int) 1 != 0) = (iRem (n.val : Int) 2 == 1) := by decide +kernel
def asksP (r n : Int) : Bool := (r == 1 && decide (4 ≤ n)) || (r == 2 && (iRem (iQuo n 2) 2 == 1)) || (r == 3 && (iRem n 2 == 1))
def hitN (r n k q : Int) : Nat := if (r == q && (iAnd n k != 0)) = true then 1 else 0
theorem hits (r n : Int) (hn : noteP n = true) : hitN r n 1 3 + hitN r n 2 2 + hitN r n 4 1 = if asksP r n = true then 1 else 0 := by
  obtain ⟨a, rfl⟩ := note_fin hn
  obtain ⟨q4, q2, q1⟩ := and_kinds a
  unfold hitN asksP
  rw [q4, q2, q1]
  by_cases h1 : r = 1
  · subst h1
    cases decide (4 ≤ (a.val : Int)) <;> simp
  by_cases h2 : r = 2
  · subst h2
    cases iRem (iQuo (a.val : Int) 2) 2 == 1 <;> simp
  by_cases h3 : r = 3
  · subst h3
    cases iRem (a.val : Int) 2 == 1 <;> simp
  simp [h1, h2, h3]
theorem L_BounceTellsEachOnce_true (a0 : TMail) (a1 : List Int) (a2 : Int) (o0 : TMail.ok a0) (o1 : okL ok64 a1) (o2 : ok64 a2) (hk : TMail.bk a0 + bkL (fun _ => 1) a1 + (fun _ => 1) a2 ≤ 1048576) : L_BounceTellsEachOnce a0 a1 a2 = some true := by
  dsimp only at hk
  have hb : TMail.bk a0 = TEnvelope.bk a0.Envelope + TMessage.bk a0.Message + 1 := rfl
  have h1 : smallE a0.Envelope := smallE_of (by omega)
  have h2 : smallM a0.Message := smallM_of (by omega)
  have h3 := bkL_len (bk := fun _ : Int => 1) (fun x => by simp) a1
  unfold L_BounceTellsEachOnce
  rw [bounce_Due_eq _ _ _ h1 h2 (by omega), L_dues_eq]
  simp only [Option.bind_some, Bool.not_true, cond_false, cond_true]
  rcases due_in a0 a1 a2 with ⟨d1, d2⟩ | ⟨d1, d2⟩
  · have : ((dueP a0 a1 a2).2.Code != 0) = true := by simpa using d2
    rw [this, d1]
    simp only [cond_true, Option.bind_some]
    have : ((dueP a0 a1 a2).2.Code == 0) = false := by simpa using d2
    rw [this]
    rfl
  · rw [d1]
    simp only [bne_self_eq_false, cond_false]
    generalize hV : dueP a0 a1 a2 = V at *
    cases hf : a0.Envelope.From == ([] : Str) with
    | true => rfl
    | false =>
      have hfr : a0.Envelope.From ≠ [] := by simpa using hf
      have hlen : ((a1.length : Int) != (a0.Envelope.To.length : Int)) = false := by rw [d2.len]; simp
      simp only [hlen, cond_false, Option.bind_some]
      have hmsg := (mailF_parts d2.mail).2
      have henv := (mailF_parts d2.mail).1
      have hmc : ((msgF a0.Message).Code != 0) = false := by simp [hmsg]
      have hrec : (recF a0.Envelope.To).Code = 0 := by
        have h := henv
        unfold envF at h
        split at h
        · exact absurd h (by decide)
        · split at h
          · exact absurd h (by decide)
          · split at h
            · exact absurd h (by decide)
            · exact h
      obtain ⟨hrec1, hrec2⟩ := recF_inv hrec
      rw [notice_Read_eq _ h2, hmc]
      simp only [Option.bind_some, cond_false]
      have hall : ∀ n ∈ V.1, ∃ k l x, n = noteM a0.Envelope k l x ∧ NoteIn a0 k l x := by
        rcases d2.rest with ⟨h, _⟩ | ⟨_, _, h, hn⟩
        · rw [h]; intro n hn; cases hn
        · intro n hm
          rw [h] at hm
          obtain ⟨d, hd, rfl⟩ := List.mem_map.1 hm
          exact ⟨_, _, _, rfl, hn d hd⟩
      have hlen3 : V.1.length ≤ 3 := by
        rcases d2.rest with ⟨h, _⟩ | ⟨_, _, h, hn⟩
        · rw [h]; simp
        · rw [h, List.length_map]
          exact Nat.le_trans (List.length_filter_le _ _) (by decide)
      rw [iter_first a1 (fun _ _ => (none : Option Bool)) (.inl ()) .inr]
      · have hff : firstI (fun _ (_ : Int) => (none : Option Bool)) 0 a1 = none := firstI_none.2 fun _ _ _ => rfl
        rw [hff]
        rfl
      · unfold L_BounceTellsEachOnce_l1
        rw [dec_len]
        rfl
      · intro i r hr
        have hi := lt_get hr
        obtain ⟨rcp, hrcp⟩ : ∃ rcp, a0.Envelope.To[i]? = some rcp := ⟨_, List.getElem?_eq_getElem (by have := d2.len; omega)⟩
        have hnote := (hrec1 rcp (List.mem_of_getElem? hrcp)).2
        -- the count over all notices
        have hcount : iter (L_BounceTellsEachOnce_l2 a0 V (i : Int)) (0, 0) = some (.inl ((V.1.foldl (fun c n => c + cntA rcp.Address (readP n.Message).1.Told) 0 : Nat) : Int)) := by
          have := (iter_fold V.1 (fun j (s : Nat) => ((s : Int), j)) (fun c n => c + cntA rcp.Address (readP n.Message).1.Told) (fun s : Nat => (Sum.inl (s : Int) : Int ⊕ Bool)) (fun j s => s ≤ 60 * j) (body := L_BounceTellsEachOnce_l2 a0 V (i : Int))
            (fun s _ => by unfold L_BounceTellsEachOnce_l2; simp [dec_len]) (fun j n s hn hj => by
              have hlt := lt_get hn
              obtain ⟨k, l, x, rfl, hin⟩ := hall n (List.mem_of_getElem? hn)
              have hrd : readP (noteM a0.Envelope k l x).Message = (⟨k, a0.Envelope.Id, l⟩, true) := read_note hin.kind hin.idn hin.id57 hin.told
              have hnr : notice_Read (noteM a0.Envelope k l x).Message = some (⟨k, a0.Envelope.Id, l⟩, true, ⟨0, 0⟩) := note_read hin
              have hc := cntA_le rcp.Address l
              have h60 := hin.told.2.1
              rw [hrd]
              refine ⟨?_, by dsimp only; omega⟩
              unfold L_BounceTellsEachOnce_l2
              dsimp only
              rw [dec_lt hn, idx_get hn]
              simp only [cond_true, Option.bind_some, hnr, bne_self_eq_false, cond_false, Bool.not_true, sc j (by omega)]
              rw [count_loop a0 (i : Int) i rcp _ rfl hrcp h60 s (by omega)]
              rfl) 0 (by omega)).1
          exact this
        have hsum : V.1.foldl (fun c n => c + cntA rcp.Address (readP n.Message).1.Told) 0 = if (asksP r rcp.Notify && !(readP a0.Message).2) = true then 1 else 0 := by
          rcases d2.rest with ⟨h, hor⟩ | ⟨hno, _, h, hn⟩
          · rcases hor with hor | hor
            · rw [h, hor]; simp
            · exact absurd hor hfr
          · have hfold : ∀ (L : List Tbounce_due) (c : Nat), (∀ d ∈ L, NoteIn a0 d.kind (pick a0.Envelope.To a1 d.kind d.result) (xN a2)) →
                (L.map (fun d => noteM a0.Envelope d.kind (pick a0.Envelope.To a1 d.kind d.result) (xN a2))).foldl (fun c n => c + cntA rcp.Address (readP n.Message).1.Told) c = L.foldl (fun c d => c + cntA rcp.Address (pick a0.Envelope.To a1 d.kind d.result)) c := by
              intro L
              induction L with
              | nil => intro c _; rfl
              | cons d L ih =>
                intro c hL
                have hin := hL d (by simp)
                have hrd : readP (noteM a0.Envelope d.kind (pick a0.Envelope.To a1 d.kind d.result) (xN a2)).Message = (⟨d.kind, a0.Envelope.Id, pick a0.Envelope.To a1 d.kind d.result⟩, true) := read_note hin.kind hin.idn hin.id57 hin.told
                rw [List.map_cons, List.foldl_cons, List.foldl_cons, hrd]
                exact ih _ fun d' hd' => hL d' (by simp [hd'])
            have hfil : ∀ (L : List Tbounce_due) (c : Nat), (L.filter (someD a0 a1)).foldl (fun c d => c + cntA rcp.Address (pick a0.Envelope.To a1 d.kind d.result)) c = L.foldl (fun c d => c + cntA rcp.Address (pick a0.Envelope.To a1 d.kind d.result)) c := by
              intro L
              induction L with
              | nil => intro c; rfl
              | cons d L ih =>
                intro c
                rw [List.filter_cons, List.foldl_cons]
                cases hs : someD a0 a1 d with
                | true => simp only [if_true, List.foldl_cons]; exact ih _
                | false =>
                  have h0 : cntA rcp.Address (pick a0.Envelope.To a1 d.kind d.result) = 0 := by
                    have := cntA_le rcp.Address (pick a0.Envelope.To a1 d.kind d.result)
                    unfold someD at hs
                    have hz : (pick a0.Envelope.To a1 d.kind d.result).length = 0 := by simpa using hs
                    omega
                  simp only [Bool.false_eq_true, if_false, h0, Nat.add_zero]
                  exact ih _
            have hpk : ∀ k q : Int, cntA rcp.Address (pick a0.Envelope.To a1 k q) = hitN r rcp.Notify k q := by
              intro k q
              have hz : (a0.Envelope.To.zip a1)[i]? = some (rcp, r) := List.getElem?_zip_eq_some.2 ⟨hrcp, hr⟩
              have hmap : (a0.Envelope.To.zip a1).map (·.1.Address) = a0.Envelope.To.map (·.Address) := by
                have : (a0.Envelope.To.zip a1).map Prod.fst = a0.Envelope.To := List.map_fst_zip (by have := d2.len; omega)
                rw [show (fun p : TRecipient × Int => p.1.Address) = (fun x : TRecipient => x.Address) ∘ Prod.fst from rfl, ← List.map_map, this]
              exact pick_count k q (a0.Envelope.To.zip a1) i (rcp, r) (by rw [hmap]; exact hrec2) hz
            rw [h, hfold _ _ hn, hfil, hno]
            show 0 + cntA rcp.Address (pick a0.Envelope.To a1 1 3) + cntA rcp.Address (pick a0.Envelope.To a1 2 2) + cntA rcp.Address (pick a0.Envelope.To a1 4 1) = _
            rw [hpk, hpk, hpk, Nat.zero_add, hits r rcp.Notify hnote]
            simp
        have hasks : ((idx a1 (i : Int)).bind fun v47 => (bif (v47 == 1) then (idx a0.Envelope.To (i : Int)).bind fun v50 => (bif decide (4 ≤ v50.Notify) then some true else (idx a1 (i : Int)).bind fun v53 => (bif (v53 == 2) then (idx a0.Envelope.To (i : Int)).bind fun v56 => (bif ((iRem ((iQuo v56.Notify 2)) 2) == 1) then some true else (idx a1 (i : Int)).bind fun v59 => (bif (v59 == 3) then (idx a0.Envelope.To (i : Int)).bind fun v62 => some (((iRem v62.Notify 2) == 1)) else some false)) else (idx a1 (i : Int)).bind fun v64 => (bif (v64 == 3) then (idx a0.Envelope.To (i : Int)).bind fun v67 => some (((iRem v67.Notify 2) == 1)) else some false))) else (idx a1 (i : Int)).bind fun v69 => (bif (v69 == 2) then (idx a0.Envelope.To (i : Int)).bind fun v72 => (bif ((iRem ((iQuo v72.Notify 2)) 2) == 1) then some true else (idx a1 (i : Int)).bind fun v75 => (bif (v75 == 3) then (idx a0.Envelope.To (i : Int)).bind fun v78 => some (((iRem v78.Notify 2) == 1)) else some false)) else (idx a1 (i : Int)).bind fun v80 => (bif (v80 == 3) then (idx a0.Envelope.To (i : Int)).bind fun v83 => some (((iRem v83.Notify 2) == 1)) else some false)))) = some (asksP r rcp.Notify) := by
          rw [idx_get hr, idx_get hrcp]
          simp only [Option.bind_some]
          unfold asksP
          cases r == 1 <;> cases r == 2 <;> cases r == 3 <;> cases decide (4 ≤ rcp.Notify) <;> cases iRem (iQuo rcp.Notify 2) 2 == 1 <;> cases iRem rcp.Notify 2 == 1 <;> rfl
        unfold L_BounceTellsEachOnce_l1
        rw [dec_lt hr]
        simp only [cond_true]
        rw [hcount]
        simp only [Option.bind_some, Sum.elim_inl]
        rw [hasks, hsum]
        simp only [Option.bind_some, sc i (by omega)]
        cases asksP r rcp.Notify <;> cases (readP a0.Message).2 <;> rfl
end Go.Proofs.YtfkgmcilaiblfaaGreatDoor

namespace Go.Proofs.YtfkgmcilaiblfaaGreatDoor
open Go.RowKit
set_option maxRecDepth 100000
set_option maxHeartbeats 40000000
set_option linter.unusedVariables false
theorem L_plain_run (a0 : List Str) (r : TMail) (hr : L_plain a0 = some r) : Run Tryz.prog 40 [.l cS a0] (.agg [.s r.Envelope.From, .l TRecipient.pc r.Envelope.To, .s r.Envelope.Id, .l TField.pc r.Message.Fields, .l cU r.Message.Body]) := by
 unfold L_plain at hr
 refine rf (fn := Tryz.f40) ⟨Tryz.func40, rfl, by kernel_rfl⟩ rfl (fun _ => rfl) fun g0 hg => ?_
 refine rn tk 10 rfl ?_
 refine awpl_adoptC 1003 (o := 3) (j := 1) 44 2 rfl rfl rfl rfl (hO ?_)
 refine rn tk 1 rfl ?_
 refine awpl_adoptC 2003 (o := 3) (j := 1) 44 2 rfl rfl rfl rfl (hO ?_)
 refine rn tk 9 rfl ?_
 refine al1 hr (fun s1 => [(0, .l cS a0), (2, .ptr 2 0), (3, .ptr 3 0), (4, .i s1.1)]) (fun s1 => [(2003, .row 44 false 2 (List.map TRecipient.pc s1.2)), (3, .cells [.s (([115, 64, 120] : Str)), .hs 2003 0, .s (([55] : Str)), .l TField.pc ([]), .l cU ([])]), (2, .cells [.s (([] : Str)), .l TRecipient.pc ([]), .s (([] : Str)), .l TField.pc ([]), .l cU ([])])]) (.exit 0) (fun b2 => [(2, .ptr 2 0), (3, .ptr 3 0)]) (fun b2 => [(2003, .row 44 false 2 (List.map TRecipient.pc b2)), (3, .cells [.s (([115, 64, 120] : Str)), .hs 2003 0, .s (([55] : Str)), .l TField.pc ([]), .l cU ([])]), (2, .cells [.s (([] : Str)), .l TRecipient.pc ([]), .s (([] : Str)), .l TField.pc ([]), .l cU ([])])]) rfl rfl (fun s1 x3 hr => ?_) (fun b2 hr => ?_)
 ·
  unfold L_plain_l1 at hr
  refine rn tk 5 rfl ?_
  refine wn tk rfl rfl rfl ?_
  refine rn tk 3 rfl ?_
  refine ac 10 hr rfl (fun c4 hr => ?_) (fun c4 hr => ?_)
  ·
   refine rn tk 4 rfl ?_
   obtain ⟨v5, h6, hr⟩ := bind_some hr
   refine dr 9 [(21, .l TRecipient.pc (([(TRecipient.mk v5 1)] : List TRecipient))), (20, .agg [.s v5, .i 1]), (19, .s v5), (18, .ep [pS v5]), (17, .i s1.1), (16, .l cS a0), (15, .hs 2003 0), (14, .ptr 3 1), (13, .ptr 3 0)] mixed (by kernel_rfl) rfl rfl (pq tk rfl (.plain rfl) (pq tk rfl (.plain rfl) (pq tk rfl (.plain rfl) (pq tk rfl (.plain rfl) (pq tk rfl (.plain rfl) (.run (.plain rfl) (opG_q (ev_idx (f := cS) rfl rfl ty_s_string ty_string rfl h6)) (pq tk rfl (.plain rfl) (pq tk rfl (.plain rfl) (.run (.plain rfl) (opG_lit (F := TRecipient.pc) (l := ([(TRecipient.mk v5 1)] : List TRecipient)) ty_s_api_Recipient ty_api_Recipient rfl (fun _ => rfl) rfl rfl) .nil))))))))) rfl ?_
   obtain ⟨v7, h8, hr⟩ := bind_some hr
   refine wa tk h8 rfl rfl rfl rfl (fun _ => rfl) rfl rfl ?_
   refine rn tk 11 rfl ?_
   cases hr
   exact atc rfl rfl
  ·
   refine rn tk 2 rfl ?_
   cases hr
   exact ato rfl rfl rfl rfl
 ·
  refine rn tk 8 rfl ?_
  refine awp_pubC (o := 2) (j := 1) (F := TRecipient.pc) (l := b2) rfl rfl rfl (hC ?_)
  refine rn tk 1 rfl ?_
  cases hr
  exact kr tk (.inr rfl) rfl rfl
theorem R_At_run (a0 : Int) (a1 : Int) (r : TFault) (hr : R_At a0 a1 = some r) : Run Tryz.prog 33 [.i a0, .i a1] (.agg [.i r.Code, .i r.Index]) := by
 unfold R_At at hr
 refine rf (fn := Tryz.f33) ⟨Tryz.func33, rfl, by kernel_rfl⟩ rfl (fun _ => rfl) fun g0 hg => ?_
 refine rn tk 14 rfl ?_
 cases hr
 exact kr tk (.inr rfl) rfl rfl
theorem basic_Failed_run (a0 : TFault) (r : Bool) (hr : basic_Failed a0 = some r) : Run Tryz.prog 20 [.agg [.i a0.Code, .i a0.Index]] (.bo r) := by
 unfold basic_Failed at hr
 refine rf (fn := Tryz.f20) ⟨Tryz.func20, rfl, by kernel_rfl⟩ rfl (fun _ => rfl) fun g0 hg => ?_
 refine rn tk 15 rfl ?_
 cases hr
 exact kr tk (.inr rfl) rfl rfl
theorem basic_Fault_run (a0 : Int) (a1 : Int) (r : TFault) (hr : basic_Fault a0 a1 = some r) : Run Tryz.prog 21 [.i a0, .i a1] (.agg [.i r.Code, .i r.Index]) := by
 unfold basic_Fault at hr
 refine rf (fn := Tryz.f21) ⟨Tryz.func21, rfl, by kernel_rfl⟩ rfl (fun _ => rfl) fun g0 hg => ?_
 refine rn tk 14 rfl ?_
 cases hr
 exact kr tk (.inr rfl) rfl rfl
theorem basic_None_run  (r : TFault) (hr : basic_None = some r) : Run Tryz.prog 31 [] (.agg [.i r.Code, .i r.Index]) := by
 unfold basic_None at hr
 refine rf (fn := Tryz.f31) ⟨Tryz.func31, rfl, by kernel_rfl⟩ rfl (fun _ => rfl) fun g0 hg => ?_
 refine rn tk 12 rfl ?_
 cases hr
 exact kr tk (.inr rfl) rfl rfl
theorem basic_Letter_run (a0 : UInt8) (r : Bool) (hr : basic_Letter a0 = some r) : Run Tryz.prog 66 [.u8 a0] (.bo r) := by
 unfold basic_Letter at hr
 refine rf (fn := Tryz.f66) ⟨Tryz.func66, rfl, by kernel_rfl⟩ rfl (fun _ => rfl) fun g0 hg => ?_
 refine rn tk 5 rfl ?_
 refine jb hr (fun j1 => [(2, .bo j1)]) (fun j1 => []) (fun j1 hr => ?_) (fun j1 hr => ?_)
 ·
  refine rn tk 4 rfl ?_
  refine bs 5 hr rfl (fun c2 hr => ?_) (fun c2 hr => ?_)
  ·
   refine rn tk 4 rfl ?_
   refine bs 9 hr rfl (fun c3 hr => ?_) (fun c3 hr => ?_)
   ·
    refine rn tk 17 rfl ?_
    cases hr
    exact jn _ rfl rfl rfl
   ·
    refine rn tk 3 rfl ?_
    refine bs 12 hr rfl (fun c4 hr => ?_) (fun c4 hr => ?_)
    ·
     refine rn tk 5 rfl ?_
     refine bs 17 hr rfl (fun c5 hr => ?_) (fun c5 hr => ?_)
     ·
      refine rn tk 9 rfl ?_
      cases hr
      exact jn _ rfl rfl rfl
     ·
      refine rn tk 3 rfl ?_
      refine bs 20 hr rfl (fun c6 hr => ?_) (fun c6 hr => ?_)
      ·
       refine rn tk 6 rfl ?_
       cases hr
       exact jn _ rfl rfl rfl
      ·
       refine rn tk 6 rfl ?_
       cases hr
       exact jn _ rfl rfl rfl
    ·
     refine rn tk 8 rfl ?_
     refine bs 20 hr rfl (fun c7 hr => ?_) (fun c7 hr => ?_)
     ·
      refine rn tk 6 rfl ?_
      cases hr
      exact jn _ rfl rfl rfl
     ·
      refine rn tk 6 rfl ?_
      cases hr
      exact jn _ rfl rfl rfl
  ·
   refine rn tk 7 rfl ?_
   refine bs 12 hr rfl (fun c8 hr => ?_) (fun c8 hr => ?_)
   ·
    refine rn tk 5 rfl ?_
    refine bs 17 hr rfl (fun c9 hr => ?_) (fun c9 hr => ?_)
    ·
     refine rn tk 9 rfl ?_
     cases hr
     exact jn _ rfl rfl rfl
    ·
     refine rn tk 3 rfl ?_
     refine bs 20 hr rfl (fun c10 hr => ?_) (fun c10 hr => ?_)
     ·
      refine rn tk 6 rfl ?_
      cases hr
      exact jn _ rfl rfl rfl
     ·
      refine rn tk 6 rfl ?_
      cases hr
      exact jn _ rfl rfl rfl
   ·
    refine rn tk 8 rfl ?_
    refine bs 20 hr rfl (fun c11 hr => ?_) (fun c11 hr => ?_)
    ·
     refine rn tk 6 rfl ?_
     cases hr
     exact jn _ rfl rfl rfl
    ·
     refine rn tk 6 rfl ?_
     cases hr
     exact jn _ rfl rfl rfl
 ·
  refine rn tk 1 rfl ?_
  cases hr
  exact kr tk (.inr rfl) rfl rfl
theorem basic_Name_run (a0 : Str) (r : Bool) (hr : basic_Name a0 = some r) : Run Tryz.prog 46 [.s a0] (.bo r) := by
 unfold basic_Name at hr
 refine rf (fn := Tryz.f46) ⟨Tryz.func46, rfl, by kernel_rfl⟩ rfl (fun _ => rfl) fun g0 hg => ?_
 refine rn tk 5 rfl ?_
 refine jb hr (fun j1 => [(2, .bo j1)]) (fun j1 => []) (fun j1 hr => ?_) (fun j1 hr => ?_)
 ·
  refine rn tk 4 rfl ?_
  refine bs 5 hr rfl (fun c2 hr => ?_) (fun c2 hr => ?_)
  ·
   refine rn tk 5 rfl ?_
   refine bs 10 hr rfl (fun c3 hr => ?_) (fun c3 hr => ?_)
   ·
    refine rn tk 1 rfl ?_
    refine ug rfl rfl rfl ?_
    refine ct hr (fun j4 => [(10, .bo true), (12, .bo j4)]) (fun j4 => []) (fun j4 hr jump4 => ?_) (fun j4 hr => ?_)
    ·
     refine il (fn := Tryz.f68) (args := [.s a0, .fn (.func 84) [] []]) 400000 499999 [(10, .bo true)] rfl ⟨Tryz.func68, rfl, by kernel_rfl⟩ rfl rfl rfl fun T4 ds4 => ?_
     refine rn tk 14 rfl ?_
     refine al2 hr (fun s5 => [(0, .s a0), (1, .fn (.func 84) [] []), (7, .i ((a0.length : Int))), (8, .i s5)]) (fun s5 => [(499999, .sus g0.w.heap.size ds4), (400010, .hold (.bo true) (T4.getD 10 undef))]) (.exit 0) (fun b6 => []) (fun b6 => [(499999, .sus g0.w.heap.size ds4), (400010, .hold (.bo true) (T4.getD 10 undef))]) .ret (fun b7 => [(4, .bo false)]) (fun b7 => [(499999, .sus g0.w.heap.size ds4), (400010, .hold (.bo true) (T4.getD 10 undef))]) rfl rfl (fun s5 x9 hr => ?_) (fun b6 hr => ?_) (fun b7 hr => ?_)
     ·
      unfold basic_Name_l1 at hr
      refine rn tk 6 rfl ?_
      refine ac 9 hr rfl (fun c10 hr => ?_) (fun c10 hr => ?_)
      ·
       refine rn tk 15 rfl ?_
       obtain ⟨v11, h12, hr⟩ := bind_some hr
       refine ws tk h12 rfl rfl rfl rfl ?_
       refine il (fn := Tryz.f84) (args := [.u8 v11]) 600000 699999 [(0, .s a0), (1, .fn (.func 84) [] []), (7, .i ((a0.length : Int))), (8, .i s5)] rfl ⟨Tryz.func84, rfl, by kernel_rfl⟩ rfl rfl rfl fun T6 ds6 => ?_
       refine rn tk 5 rfl ?_
       refine jb hr (fun j13 => [(2, .bo j13)]) (fun j13 => [(699999, .sus g0.w.heap.size ds6), (600000, .hold (.s a0) (T6.getD 0 undef)), (600001, .hold (.fn (.func 84) [] []) (T6.getD 1 undef)), (600007, .hold (.i ((a0.length : Int))) (T6.getD 7 undef)), (600008, .hold (.i s5) (T6.getD 8 undef)), (499999, .sus g0.w.heap.size ds4), (400010, .hold (.bo true) (T4.getD 10 undef))]) (fun j13 hr => ?_) (fun j13 hr => ?_)
       ·
        refine rn tk 2 rfl ?_
        obtain ⟨v14, h15, hr⟩ := bind_some hr
        refine cl (basic_Letter_run _ _ h15) rfl rfl ?_
        refine rn tk 1 rfl ?_
        refine bs 5 hr rfl (fun c16 hr => ?_) (fun c16 hr => ?_)
        ·
         refine rn tk 13 rfl ?_
         cases hr
         exact jn _ rfl rfl rfl
        ·
         refine rn tk 4 rfl ?_
         refine bs 9 hr rfl (fun c17 hr => ?_) (fun c17 hr => ?_)
         ·
          refine rn tk 9 rfl ?_
          cases hr
          exact jn _ rfl rfl rfl
         ·
          refine rn tk 4 rfl ?_
          refine bs 13 hr rfl (fun c18 hr => ?_) (fun c18 hr => ?_)
          ·
           refine rn tk 5 rfl ?_
           cases hr
           exact jn _ rfl rfl rfl
          ·
           refine rn tk 5 rfl ?_
           cases hr
           exact jn _ rfl rfl rfl
       ·
        refine rn tk 1 rfl ?_
        refine ie tk [.bo j13] [(0, .s a0), (1, .fn (.func 84) [] []), (7, .i ((a0.length : Int))), (8, .i s5)] [(499999, .sus g0.w.heap.size ds4), (400010, .hold (.bo true) (T4.getD 10 undef))] (.inr rfl) rfl rfl rfl rfl (hO ?_)
        refine rn tk 3 rfl ?_
        refine ac 16 hr rfl (fun c19 hr => ?_) (fun c19 hr => ?_)
        ·
         refine rn tk 8 rfl ?_
         cases hr
         exact ato rfl rfl rfl rfl
        ·
         refine rn tk 7 rfl ?_
         cases hr
         exact atc rfl rfl
      ·
       refine rn tk 2 rfl ?_
       cases hr
       exact ato rfl rfl rfl rfl
     ·
      refine rn tk 8 rfl ?_
      refine ie tk [.bo true] [(10, .bo true)] [] (.inr rfl) rfl rfl rfl rfl ?_
      cases hr
      exact jump4 _ _ rfl rfl
     ·
      refine rn tk 2 rfl ?_
      refine ie tk [.bo false] [(10, .bo true)] [] (.inr rfl) rfl rfl rfl rfl ?_
      cases hr
      exact jump4 _ _ rfl rfl
    ·
     refine rn tk 3 rfl ?_
     cases hr
     exact jn _ rfl rfl rfl
   ·
    refine rn tk 5 rfl ?_
    cases hr
    exact jn _ rfl rfl rfl
  ·
   refine rn tk 10 rfl ?_
   cases hr
   exact jn _ rfl rfl rfl
 ·
  refine rn tk 1 rfl ?_
  cases hr
  exact kr tk (.inr rfl) rfl rfl
end Go.Proofs.YtfkgmcilaiblfaaGreatDoor

/- Library functions compute what their Lean functions do. -/
namespace Go.Proofs.YtfkgmcilaiblfaaGreatDoor
open Go.RowKit
set_option maxRecDepth 100000
theorem old_drewN (g : G) (q : Nat) : Old (fun _ => False) g ⟨g.w.drewN q, g.u, g.loc⟩ :=
  ⟨rfl, rfl, rfl, ⟨Nat.le_refl _, fun _ _ => Nat.le_refl _, fun _ _ _ _ => rfl, fun _ h => h⟩, fun _ _ _ => ⟨rfl, rfl⟩⟩
theorem str_arg {g : G} {s : Str} {v : Value} (h : Rel g (.s s) v) : v = .string (strB s) := rel_b h
theorem strings_IndexByte_run (s : Str) (c : UInt8) (r : Int) (hr : strings_IndexByte s c = some r) : Run Tryz.prog 67 [.s s, .u8 c] (.i r) := by
  unfold strings_IndexByte at hr
  cases hr
  refine ⟨⟨_, _, ⟨Tryz.func67, rfl, by kernel_rfl⟩⟩, fun g vs hw hg ha => ?_⟩
  obtain ⟨hsz, hrel⟩ := ha
  obtain ⟨l⟩ := vs
  match l, hsz with
  | [x, y], _ =>
    obtain rfl := str_arg (hrel 0 _ rfl)
    have e2 : y = .int .u8 (c.toNat : Int) := rel_b (hrel 1 _ rfl)
    subst e2
    refine callsIn_wide.2 ((Tryz.strings_IndexByte (strB s) (c.toNat : Int) g.w).mono ?_)
    rintro e w' ⟨rfl, rfl⟩
    refine ⟨g, _, rfl, rfl, Old.refl _ g, hw, rfl, ?_⟩
    simp [strB]
    exact .pv (.b rfl)
end Go.Proofs.YtfkgmcilaiblfaaGreatDoor

/- Library functions compute what their Lean functions do: parts of strings. -/
namespace Go.Proofs.YtfkgmcilaiblfaaGreatDoor
open Go.RowKit
set_option maxRecDepth 100000
theorem strings_Contains_run (s t : Str) (r : Bool) (hr : strings_Contains s t = some r) : Run Tryz.prog 107 [.s s, .s t] (.bo r) := by
  unfold strings_Contains at hr
  split at hr
  case isFalse => cases hr
  rename_i hlen
  cases hr
  refine ⟨⟨_, _, ⟨Tryz.func107, rfl, by kernel_rfl⟩⟩, fun g vs hw hg ha => ?_⟩
  obtain ⟨hsz, hrel⟩ := ha
  obtain ⟨l⟩ := vs
  match l, hsz with
  | [x, y], _ =>
    obtain rfl := str_arg (hrel 0 _ rfl)
    obtain rfl := str_arg (hrel 1 _ rfl)
    obtain ⟨_, _, m, hm⟩ := hg.1 (0, 0) (by simp [globs])
    refine callsIn_wide.2 ((Tryz.strings_Contains (strB s) (strB t) m g.w (by rw [strB_size]; exact hlen) hm).mono ?_)
    rintro e w' ⟨rfl, rfl⟩
    exact ⟨g, _, rfl, rfl, Old.refl _ g, hw, rfl, .pv (.b rfl)⟩
theorem strings_Cut_run (s t : Str) (r : Str × Str × Bool) (hr : strings_Cut s t = some r) : Run Tryz.prog 44 [.s s, .s t] (.tup [.s r.1, .s r.2.1, .bo r.2.2]) := by
  unfold strings_Cut at hr
  split at hr
  case isFalse => cases hr
  rename_i hlen
  cases hr
  refine ⟨⟨_, _, ⟨Tryz.func44, rfl, by kernel_rfl⟩⟩, fun g vs hw hg ha => ?_⟩
  obtain ⟨hsz, hrel⟩ := ha
  obtain ⟨l⟩ := vs
  match l, hsz with
  | [x, y], _ =>
    obtain rfl := str_arg (hrel 0 _ rfl)
    obtain rfl := str_arg (hrel 1 _ rfl)
    obtain ⟨_, _, m, hm⟩ := hg.1 (0, 0) (by simp [globs])
    refine callsIn_wide.2 ((Tryz.strings_Cut (strB s) (strB t) m g.w (by rw [strB_size]; exact hlen) hm).mono ?_)
    rintro e w' ⟨rfl, q, rfl⟩
    refine ⟨⟨g.w.drewN q, g.u, g.loc⟩, _, rfl, rfl, old_drewN g q, hw, rfl, .tup rfl fun i c hi => ?_⟩
    match i, hi with
    | 0, rfl => exact .pv (.b rfl)
    | 1, rfl => exact .pv (.b rfl)
    | 2, rfl => exact .pv (.b rfl)
end Go.Proofs.YtfkgmcilaiblfaaGreatDoor

namespace Go.Proofs.YtfkgmcilaiblfaaGreatDoor
open Go.RowKit
set_option maxRecDepth 100000
set_option maxHeartbeats 40000000
set_option linter.unusedVariables false
theorem internal_stringslite_HasPrefix_run (a0 : Str) (a1 : Str) (r : Bool) (hr : internal_stringslite_HasPrefix a0 a1 = some r) : Run Tryz.prog 145 [.s a0, .s a1] (.bo r) := by
 unfold internal_stringslite_HasPrefix at hr
 refine rf (fn := Tryz.f145) ⟨Tryz.func145, rfl, by kernel_rfl⟩ rfl (fun _ => rfl) fun g0 hg => ?_
 refine rn tk 5 rfl ?_
 refine jb hr (fun j1 => [(4, .bo j1)]) (fun j1 => []) (fun j1 hr => ?_) (fun j1 hr => ?_)
 ·
  refine rn tk 7 rfl ?_
  refine bs 10 hr rfl (fun c2 hr => ?_) (fun c2 hr => ?_)
  ·
   refine rn tk 3 rfl ?_
   obtain ⟨v3, h4, hr⟩ := bind_some hr
   refine ug rfl rfl rfl ?_
   refine wscH tk h4 rfl rfl rfl rfl ?_
   refine rn tk 5 rfl ?_
   cases hr
   exact jn _ rfl rfl rfl
  ·
   refine rn tk 9 rfl ?_
   cases hr
   exact jn _ rfl rfl rfl
 ·
  refine rn tk 1 rfl ?_
  cases hr
  exact kr tk (.inr rfl) rfl rfl
theorem strings_HasPrefix_run (a0 : Str) (a1 : Str) (r : Bool) (hr : strings_HasPrefix a0 a1 = some r) : Run Tryz.prog 105 [.s a0, .s a1] (.bo r) := by
 unfold strings_HasPrefix at hr
 refine rf (fn := Tryz.f105) ⟨Tryz.func105, rfl, by kernel_rfl⟩ rfl (fun _ => rfl) fun g0 hg => ?_
 refine rn tk 9 rfl ?_
 obtain ⟨v1, h2, hr⟩ := bind_some hr
 refine cl (internal_stringslite_HasPrefix_run _ _ _ h2) rfl rfl ?_
 refine rn tk 4 rfl ?_
 cases hr
 exact kr tk (.inr rfl) rfl rfl
theorem internal_stringslite_HasSuffix_run (a0 : Str) (a1 : Str) (r : Bool) (hr : internal_stringslite_HasSuffix a0 a1 = some r) : Run Tryz.prog 146 [.s a0, .s a1] (.bo r) := by
 unfold internal_stringslite_HasSuffix at hr
 refine rf (fn := Tryz.f146) ⟨Tryz.func146, rfl, by kernel_rfl⟩ rfl (fun _ => rfl) fun g0 hg => ?_
 refine rn tk 5 rfl ?_
 refine jb hr (fun j1 => [(4, .bo j1)]) (fun j1 => []) (fun j1 hr => ?_) (fun j1 hr => ?_)
 ·
  refine rn tk 7 rfl ?_
  refine bs 10 hr rfl (fun c2 hr => ?_) (fun c2 hr => ?_)
  ·
   refine rn tk 6 rfl ?_
   obtain ⟨v3, h4, hr⟩ := bind_some hr
   refine ug rfl rfl rfl ?_
   refine wscL tk h4 rfl rfl rfl rfl ?_
   refine rn tk 5 rfl ?_
   cases hr
   exact jn _ rfl rfl rfl
  ·
   refine rn tk 12 rfl ?_
   cases hr
   exact jn _ rfl rfl rfl
 ·
  refine rn tk 1 rfl ?_
  cases hr
  exact kr tk (.inr rfl) rfl rfl
theorem strings_HasSuffix_run (a0 : Str) (a1 : Str) (r : Bool) (hr : strings_HasSuffix a0 a1 = some r) : Run Tryz.prog 106 [.s a0, .s a1] (.bo r) := by
 unfold strings_HasSuffix at hr
 refine rf (fn := Tryz.f106) ⟨Tryz.func106, rfl, by kernel_rfl⟩ rfl (fun _ => rfl) fun g0 hg => ?_
 refine rn tk 9 rfl ?_
 obtain ⟨v1, h2, hr⟩ := bind_some hr
 refine cl (internal_stringslite_HasSuffix_run _ _ _ h2) rfl rfl ?_
 refine rn tk 4 rfl ?_
 cases hr
 exact kr tk (.inr rfl) rfl rfl
theorem envelope_Domain_run (a0 : Str) (r : Bool) (hr : envelope_Domain a0 = some r) : Run Tryz.prog 69 [.s a0] (.bo r) := by
 unfold envelope_Domain at hr
 refine rf (fn := Tryz.f69) ⟨Tryz.func69, rfl, by kernel_rfl⟩ rfl (fun _ => rfl) fun g0 hg => ?_
 refine rn tk 10 rfl ?_
 refine jb hr (fun j1 => [(2, .bo j1)]) (fun j1 => []) (fun j1 hr => ?_) (fun j1 hr => ?_)
 ·
  refine rn tk 4 rfl ?_
  refine bs 6 hr rfl (fun c2 hr => ?_) (fun c2 hr => ?_)
  ·
   refine rn tk 5 rfl ?_
   refine bs 11 hr rfl (fun c3 hr => ?_) (fun c3 hr => ?_)
   ·
    refine rn tk 2 rfl ?_
    refine ug rfl rfl rfl ?_
    refine ct hr (fun j4 => [(0, .s a0), (11, .bo true), (14, .bo j4)]) (fun j4 => []) (fun j4 hr jump4 => ?_) (fun j4 hr => ?_)
    ·
     refine il (fn := Tryz.f68) (args := [.s a0, .fn (.func 104) [] []]) 400000 499999 [(0, .s a0), (11, .bo true)] rfl ⟨Tryz.func68, rfl, by kernel_rfl⟩ rfl rfl rfl fun T4 ds4 => ?_
     refine rn tk 14 rfl ?_
     refine al2 hr (fun s5 => [(0, .s a0), (1, .fn (.func 104) [] []), (7, .i ((a0.length : Int))), (8, .i s5)]) (fun s5 => [(499999, .sus g0.w.heap.size ds4), (400000, .hold (.s a0) (T4.getD 0 undef)), (400011, .hold (.bo true) (T4.getD 11 undef))]) (.exit 0) (fun b6 => []) (fun b6 => [(499999, .sus g0.w.heap.size ds4), (400000, .hold (.s a0) (T4.getD 0 undef)), (400011, .hold (.bo true) (T4.getD 11 undef))]) .ret (fun b7 => [(4, .bo false)]) (fun b7 => [(499999, .sus g0.w.heap.size ds4), (400000, .hold (.s a0) (T4.getD 0 undef)), (400011, .hold (.bo true) (T4.getD 11 undef))]) rfl rfl (fun s5 x9 hr => ?_) (fun b6 hr => ?_) (fun b7 hr => ?_)
     ·
      unfold envelope_Domain_l1 at hr
      refine rn tk 6 rfl ?_
      refine ac 9 hr rfl (fun c10 hr => ?_) (fun c10 hr => ?_)
      ·
       refine rn tk 15 rfl ?_
       obtain ⟨v11, h12, hr⟩ := bind_some hr
       refine ws tk h12 rfl rfl rfl rfl ?_
       refine il (fn := Tryz.f104) (args := [.u8 v11]) 600000 699999 [(0, .s a0), (1, .fn (.func 104) [] []), (7, .i ((a0.length : Int))), (8, .i s5)] rfl ⟨Tryz.func104, rfl, by kernel_rfl⟩ rfl rfl rfl fun T6 ds6 => ?_
       refine rn tk 5 rfl ?_
       refine jb hr (fun j13 => [(2, .bo j13)]) (fun j13 => [(699999, .sus g0.w.heap.size ds6), (600000, .hold (.s a0) (T6.getD 0 undef)), (600001, .hold (.fn (.func 104) [] []) (T6.getD 1 undef)), (600007, .hold (.i ((a0.length : Int))) (T6.getD 7 undef)), (600008, .hold (.i s5) (T6.getD 8 undef)), (499999, .sus g0.w.heap.size ds4), (400000, .hold (.s a0) (T4.getD 0 undef)), (400011, .hold (.bo true) (T4.getD 11 undef))]) (fun j13 hr => ?_) (fun j13 hr => ?_)
       ·
        refine rn tk 4 rfl ?_
        refine bs 5 hr rfl (fun c14 hr => ?_) (fun c14 hr => ?_)
        ·
         refine rn tk 4 rfl ?_
         refine bs 9 hr rfl (fun c15 hr => ?_) (fun c15 hr => ?_)
         ·
          refine rn tk 17 rfl ?_
          cases hr
          exact jn _ rfl rfl rfl
         ·
          refine rn tk 3 rfl ?_
          refine bs 12 hr rfl (fun c16 hr => ?_) (fun c16 hr => ?_)
          ·
           refine rn tk 5 rfl ?_
           refine bs 17 hr rfl (fun c17 hr => ?_) (fun c17 hr => ?_)
           ·
            refine rn tk 9 rfl ?_
            cases hr
            exact jn _ rfl rfl rfl
           ·
            refine rn tk 4 rfl ?_
            refine bs 21 hr rfl (fun c18 hr => ?_) (fun c18 hr => ?_)
            ·
             refine rn tk 5 rfl ?_
             cases hr
             exact jn _ rfl rfl rfl
            ·
             refine rn tk 5 rfl ?_
             cases hr
             exact jn _ rfl rfl rfl
          ·
           refine rn tk 9 rfl ?_
           refine bs 21 hr rfl (fun c19 hr => ?_) (fun c19 hr => ?_)
           ·
            refine rn tk 5 rfl ?_
            cases hr
            exact jn _ rfl rfl rfl
           ·
            refine rn tk 5 rfl ?_
            cases hr
            exact jn _ rfl rfl rfl
        ·
         refine rn tk 7 rfl ?_
         refine bs 12 hr rfl (fun c20 hr => ?_) (fun c20 hr => ?_)
         ·
          refine rn tk 5 rfl ?_
          refine bs 17 hr rfl (fun c21 hr => ?_) (fun c21 hr => ?_)
          ·
           refine rn tk 9 rfl ?_
           cases hr
           exact jn _ rfl rfl rfl
          ·
           refine rn tk 4 rfl ?_
           refine bs 21 hr rfl (fun c22 hr => ?_) (fun c22 hr => ?_)
           ·
            refine rn tk 5 rfl ?_
            cases hr
            exact jn _ rfl rfl rfl
           ·
            refine rn tk 5 rfl ?_
            cases hr
            exact jn _ rfl rfl rfl
         ·
          refine rn tk 9 rfl ?_
          refine bs 21 hr rfl (fun c23 hr => ?_) (fun c23 hr => ?_)
          ·
           refine rn tk 5 rfl ?_
           cases hr
           exact jn _ rfl rfl rfl
          ·
           refine rn tk 5 rfl ?_
           cases hr
           exact jn _ rfl rfl rfl
       ·
        refine rn tk 1 rfl ?_
        refine ie tk [.bo j13] [(0, .s a0), (1, .fn (.func 104) [] []), (7, .i ((a0.length : Int))), (8, .i s5)] [(499999, .sus g0.w.heap.size ds4), (400000, .hold (.s a0) (T4.getD 0 undef)), (400011, .hold (.bo true) (T4.getD 11 undef))] (.inr rfl) rfl rfl rfl rfl (hO ?_)
        refine rn tk 3 rfl ?_
        refine ac 16 hr rfl (fun c24 hr => ?_) (fun c24 hr => ?_)
        ·
         refine rn tk 8 rfl ?_
         cases hr
         exact ato rfl rfl rfl rfl
        ·
         refine rn tk 7 rfl ?_
         cases hr
         exact atc rfl rfl
      ·
       refine rn tk 2 rfl ?_
       cases hr
       exact ato rfl rfl rfl rfl
     ·
      refine rn tk 8 rfl ?_
      refine ie tk [.bo true] [(0, .s a0), (11, .bo true)] [] (.inr rfl) rfl rfl rfl rfl ?_
      cases hr
      exact jump4 _ _ rfl rfl
     ·
      refine rn tk 2 rfl ?_
      refine ie tk [.bo false] [(0, .s a0), (11, .bo true)] [] (.inr rfl) rfl rfl rfl rfl ?_
      cases hr
      exact jump4 _ _ rfl rfl
    ·
     refine rn tk 2 rfl ?_
     refine bs 16 hr rfl (fun c25 hr => ?_) (fun c25 hr => ?_)
     ·
      refine rn tk 1 rfl ?_
      obtain ⟨v26, h27, hr⟩ := bind_some hr
      refine ug rfl rfl rfl ?_
      refine cl (strings_HasPrefix_run _ _ _ h27) rfl rfl ?_
      refine rn tk 3 rfl ?_
      refine bs 21 hr rfl (fun c28 hr => ?_) (fun c28 hr => ?_)
      ·
       refine rn tk 1 rfl ?_
       obtain ⟨v29, h30, hr⟩ := bind_some hr
       refine ug rfl rfl rfl ?_
       refine cl (strings_HasSuffix_run _ _ _ h30) rfl rfl ?_
       refine rn tk 3 rfl ?_
       refine bs 26 hr rfl (fun c31 hr => ?_) (fun c31 hr => ?_)
       ·
        refine rn tk 1 rfl ?_
        obtain ⟨v32, h33, hr⟩ := bind_some hr
        refine ug rfl rfl rfl ?_
        refine cl (strings_Contains_run _ _ _ h33) rfl rfl ?_
        refine rn tk 4 rfl ?_
        cases hr
        exact jn _ rfl rfl rfl
       ·
        refine rn tk 6 rfl ?_
        cases hr
        exact jn _ rfl rfl rfl
      ·
       refine rn tk 11 rfl ?_
       cases hr
       exact jn _ rfl rfl rfl
     ·
      refine rn tk 16 rfl ?_
      cases hr
      exact jn _ rfl rfl rfl
   ·
    refine rn tk 21 rfl ?_
    cases hr
    exact jn _ rfl rfl rfl
  ·
   refine rn tk 26 rfl ?_
   cases hr
   exact jn _ rfl rfl rfl
 ·
  refine rn tk 1 rfl ?_
  cases hr
  exact kr tk (.inr rfl) rfl rfl
theorem envelope_Split_run (a0 : Str) (r : Str × Str × Bool) (hr : envelope_Split a0 = some r) : Run Tryz.prog 27 [.s a0] (.tup [.s r.1, .s r.2.1, .bo r.2.2]) := by
 unfold envelope_Split at hr
 refine rf (fn := Tryz.f27) ⟨Tryz.func27, rfl, by kernel_rfl⟩ rfl (fun _ => rfl) fun g0 hg => ?_
 refine rn tk 10 rfl ?_
 obtain ⟨v1, h2, hr⟩ := bind_some hr
 refine cl (strings_Cut_run _ _ _ h2) rfl rfl ?_
 refine rn tk 14 rfl ?_
 refine jb hr (fun j3 => [(2, .s v1.1), (3, .s v1.2.1), (4, .bo j3)]) (fun j3 => []) (fun j3 hr => ?_) (fun j3 hr => ?_)
 ·
  refine rn tk 5 rfl ?_
  refine bs 15 hr rfl (fun c4 hr => ?_) (fun c4 hr => ?_)
  ·
   refine rn tk 4 rfl ?_
   refine bs 19 hr rfl (fun c5 hr => ?_) (fun c5 hr => ?_)
   ·
    refine rn tk 5 rfl ?_
    refine bs 24 hr rfl (fun c6 hr => ?_) (fun c6 hr => ?_)
    ·
     refine rn tk 2 rfl ?_
     refine ug rfl rfl rfl ?_
     refine ct hr (fun j7 => [(3, .s v1.2.1), (12, .s v1.1), (13, .s v1.2.1), (24, .bo true), (27, .bo j7)]) (fun j7 => []) (fun j7 hr jump4 => ?_) (fun j7 hr => ?_)
     ·
      refine il (fn := Tryz.f68) (args := [.s v1.1, .fn (.func 65) [] []]) 400000 499999 [(3, .s v1.2.1), (12, .s v1.1), (13, .s v1.2.1), (24, .bo true)] rfl ⟨Tryz.func68, rfl, by kernel_rfl⟩ rfl rfl rfl fun T4 ds4 => ?_
      refine rn tk 14 rfl ?_
      refine al2 hr (fun s8 => [(0, .s v1.1), (1, .fn (.func 65) [] []), (7, .i ((v1.1.length : Int))), (8, .i s8)]) (fun s8 => [(499999, .sus g0.w.heap.size ds4), (400003, .hold (.s v1.2.1) (T4.getD 3 undef)), (400012, .hold (.s v1.1) (T4.getD 12 undef)), (400013, .hold (.s v1.2.1) (T4.getD 13 undef)), (400024, .hold (.bo true) (T4.getD 24 undef))]) (.exit 0) (fun b9 => []) (fun b9 => [(499999, .sus g0.w.heap.size ds4), (400003, .hold (.s v1.2.1) (T4.getD 3 undef)), (400012, .hold (.s v1.1) (T4.getD 12 undef)), (400013, .hold (.s v1.2.1) (T4.getD 13 undef)), (400024, .hold (.bo true) (T4.getD 24 undef))]) .ret (fun b10 => [(4, .bo false)]) (fun b10 => [(499999, .sus g0.w.heap.size ds4), (400003, .hold (.s v1.2.1) (T4.getD 3 undef)), (400012, .hold (.s v1.1) (T4.getD 12 undef)), (400013, .hold (.s v1.2.1) (T4.getD 13 undef)), (400024, .hold (.bo true) (T4.getD 24 undef))]) rfl rfl (fun s8 x12 hr => ?_) (fun b9 hr => ?_) (fun b10 hr => ?_)
      ·
       unfold envelope_Split_l1 at hr
       refine rn tk 6 rfl ?_
       refine ac 9 hr rfl (fun c13 hr => ?_) (fun c13 hr => ?_)
       ·
        refine rn tk 15 rfl ?_
        obtain ⟨v14, h15, hr⟩ := bind_some hr
        refine ws tk h15 rfl rfl rfl rfl ?_
        refine il (fn := Tryz.f65) (args := [.u8 v14]) 600000 699999 [(0, .s v1.1), (1, .fn (.func 65) [] []), (7, .i ((v1.1.length : Int))), (8, .i s8)] rfl ⟨Tryz.func65, rfl, by kernel_rfl⟩ rfl rfl rfl fun T6 ds6 => ?_
        refine rn tk 5 rfl ?_
        refine jb hr (fun j16 => [(2, .bo j16)]) (fun j16 => [(699999, .sus g0.w.heap.size ds6), (600000, .hold (.s v1.1) (T6.getD 0 undef)), (600001, .hold (.fn (.func 65) [] []) (T6.getD 1 undef)), (600007, .hold (.i ((v1.1.length : Int))) (T6.getD 7 undef)), (600008, .hold (.i s8) (T6.getD 8 undef)), (499999, .sus g0.w.heap.size ds4), (400003, .hold (.s v1.2.1) (T4.getD 3 undef)), (400012, .hold (.s v1.1) (T4.getD 12 undef)), (400013, .hold (.s v1.2.1) (T4.getD 13 undef)), (400024, .hold (.bo true) (T4.getD 24 undef))]) (fun j16 hr => ?_) (fun j16 hr => ?_)
        ·
         refine rn tk 2 rfl ?_
         obtain ⟨v17, h18, hr⟩ := bind_some hr
         refine cl (basic_Letter_run _ _ h18) rfl rfl ?_
         refine rn tk 1 rfl ?_
         refine bs 5 hr rfl (fun c19 hr => ?_) (fun c19 hr => ?_)
         ·
          refine rn tk 6 rfl ?_
          cases hr
          exact jn _ rfl rfl rfl
         ·
          refine rn tk 1 rfl ?_
          obtain ⟨v20, h21, hr⟩ := bind_some hr
          refine ug rfl rfl rfl ?_
          refine cl (strings_IndexByte_run _ _ _ h21) rfl rfl ?_
          refine rn tk 4 rfl ?_
          cases hr
          exact jn _ rfl rfl rfl
        ·
         refine rn tk 1 rfl ?_
         refine ie tk [.bo j16] [(0, .s v1.1), (1, .fn (.func 65) [] []), (7, .i ((v1.1.length : Int))), (8, .i s8)] [(499999, .sus g0.w.heap.size ds4), (400003, .hold (.s v1.2.1) (T4.getD 3 undef)), (400012, .hold (.s v1.1) (T4.getD 12 undef)), (400013, .hold (.s v1.2.1) (T4.getD 13 undef)), (400024, .hold (.bo true) (T4.getD 24 undef))] (.inr rfl) rfl rfl rfl rfl (hO ?_)
         refine rn tk 3 rfl ?_
         refine ac 16 hr rfl (fun c22 hr => ?_) (fun c22 hr => ?_)
         ·
          refine rn tk 8 rfl ?_
          cases hr
          exact ato rfl rfl rfl rfl
         ·
          refine rn tk 7 rfl ?_
          cases hr
          exact atc rfl rfl
       ·
        refine rn tk 2 rfl ?_
        cases hr
        exact ato rfl rfl rfl rfl
      ·
       refine rn tk 8 rfl ?_
       refine ie tk [.bo true] [(3, .s v1.2.1), (12, .s v1.1), (13, .s v1.2.1), (24, .bo true)] [] (.inr rfl) rfl rfl rfl rfl ?_
       cases hr
       exact jump4 _ _ rfl rfl
      ·
       refine rn tk 2 rfl ?_
       refine ie tk [.bo false] [(3, .s v1.2.1), (12, .s v1.1), (13, .s v1.2.1), (24, .bo true)] [] (.inr rfl) rfl rfl rfl rfl ?_
       cases hr
       exact jump4 _ _ rfl rfl
     ·
      refine rn tk 2 rfl ?_
      refine bs 29 hr rfl (fun c23 hr => ?_) (fun c23 hr => ?_)
      ·
       refine rn tk 1 rfl ?_
       obtain ⟨v24, h25, hr⟩ := bind_some hr
       refine ug rfl rfl rfl ?_
       refine cl (envelope_Domain_run _ _ h25) rfl rfl ?_
       refine rn tk 5 rfl ?_
       cases hr
       exact jn _ rfl rfl rfl
      ·
       refine rn tk 7 rfl ?_
       cases hr
       exact jn _ rfl rfl rfl
    ·
     refine rn tk 12 rfl ?_
     cases hr
     exact jn _ rfl rfl rfl
   ·
    refine rn tk 17 rfl ?_
    cases hr
    exact jn _ rfl rfl rfl
  ·
   refine rn tk 21 rfl ?_
   cases hr
   exact jn _ rfl rfl rfl
 ·
  refine rn tk 1 rfl ?_
  cases hr
  exact kr tk (.inr rfl) rfl rfl
theorem envelope_Address_run (a0 : Str) (r : Bool) (hr : envelope_Address a0 = some r) : Run Tryz.prog 55 [.s a0] (.bo r) := by
 unfold envelope_Address at hr
 refine rf (fn := Tryz.f55) ⟨Tryz.func55, rfl, by kernel_rfl⟩ rfl (fun _ => rfl) fun g0 hg => ?_
 refine rn tk 8 rfl ?_
 obtain ⟨v1, h2, hr⟩ := bind_some hr
 refine cl (envelope_Split_run _ _ h2) rfl rfl ?_
 refine rn tk 16 rfl ?_
 cases hr
 exact kr tk (.inr rfl) rfl rfl
theorem envelope_Notify_run (a0 : Int) (r : Bool) (hr : envelope_Notify a0 = some r) : Run Tryz.prog 135 [.i a0] (.bo r) := by
 unfold envelope_Notify at hr
 refine rf (fn := Tryz.f135) ⟨Tryz.func135, rfl, by kernel_rfl⟩ rfl (fun _ => rfl) fun g0 hg => ?_
 refine rn tk 5 rfl ?_
 refine jb hr (fun j1 => [(2, .bo j1)]) (fun j1 => []) (fun j1 hr => ?_) (fun j1 hr => ?_)
 ·
  refine rn tk 4 rfl ?_
  refine bs 5 hr rfl (fun c2 hr => ?_) (fun c2 hr => ?_)
  ·
   refine rn tk 5 rfl ?_
   cases hr
   exact jn _ rfl rfl rfl
  ·
   refine rn tk 5 rfl ?_
   cases hr
   exact jn _ rfl rfl rfl
 ·
  refine rn tk 1 rfl ?_
  cases hr
  exact kr tk (.inr rfl) rfl rfl
theorem envelope_Recipients_run (a0 : List TRecipient) (r : TFault) (hr : envelope_Recipients a0 = some r) : Run Tryz.prog 94 [.l TRecipient.pc a0] (.agg [.i r.Code, .i r.Index]) := by
 unfold envelope_Recipients at hr
 refine rf (fn := Tryz.f94) ⟨Tryz.func94, rfl, by kernel_rfl⟩ rfl (fun _ => rfl) fun g0 hg => ?_
 refine rn tk 9 rfl ?_
 refine wn tk rfl rfl rfl ?_
 refine rn tk 4 rfl ?_
 refine al2 hr (fun s1 => [(0, .l TRecipient.pc a0), (2, .ptr 2 0), (5, .l TRecipient.pc a0), (6, .i ((a0.length : Int))), (7, .i s1)]) (fun s1 => [(2, .cells [.i 0, .i 0])]) (.exit 0) (fun b2 => [(2, .ptr 2 0)]) (fun b2 => [(2, .cells [.i 0, .i 0])]) .ret (fun b3 => [(2, .ptr 2 0)]) (fun b3 => [(2, .cells [.i b3.Code, .i b3.Index])]) rfl rfl (fun s1 x5 hr => ?_) (fun b2 hr => ?_) (fun b3 hr => ?_)
 ·
  unfold envelope_Recipients_l1 at hr
  refine rn tk 6 rfl ?_
  refine ac 8 hr rfl (fun c6 hr => ?_) (fun c6 hr => ?_)
  ·
   refine rn tk 7 rfl ?_
   obtain ⟨v7, h8, hr⟩ := bind_some hr
   refine wi tk h8 rfl rfl rfl rfl rfl ?_
   refine rn tk 11 rfl ?_
   obtain ⟨v9, h10, hr⟩ := bind_some hr
   refine cl (envelope_Address_run _ _ h10) rfl rfl ?_
   refine rn tk 4 rfl ?_
   refine ac 12 hr rfl (fun c11 hr => ?_) (fun c11 hr => ?_)
   ·
    refine rn tk 3 rfl ?_
    obtain ⟨v12, h13, hr⟩ := bind_some hr
    refine cl (basic_Fault_run _ _ _ h13) rfl rfl ?_
    refine rn tk 7 rfl ?_
    cases hr
    exact ato rfl rfl rfl rfl
   ·
    refine rn tk 4 rfl ?_
    obtain ⟨v14, h15, hr⟩ := bind_some hr
    refine cl (envelope_Notify_run _ _ h15) rfl rfl ?_
    refine rn tk 4 rfl ?_
    refine ac 19 hr rfl (fun c16 hr => ?_) (fun c16 hr => ?_)
    ·
     refine rn tk 3 rfl ?_
     obtain ⟨v17, h18, hr⟩ := bind_some hr
     refine cl (basic_Fault_run _ _ _ h18) rfl rfl ?_
     refine rn tk 7 rfl ?_
     cases hr
     exact ato rfl rfl rfl rfl
    ·
     refine rn tk 4 rfl ?_
     obtain ⟨v19, h20, hr⟩ := bind_some hr
     refine wlH tk h20 rfl rfl rfl (fun _ => rfl) rfl ?_
     refine rn tk 1 rfl ?_
     refine il (fn := Tryz.f136) (args := [.l TRecipient.pc v19, .fn (.func 137) [] [.ptr 4 0]]) 500000 599999 [(0, .l TRecipient.pc a0), (2, .ptr 2 0), (3, .i s1), (5, .l TRecipient.pc a0), (6, .i ((a0.length : Int))), (7, .i s1)] rfl ⟨Tryz.func136, rfl, by kernel_rfl⟩ rfl rfl rfl fun T5 ds5 => ?_
     refine rn tk 9 rfl ?_
     refine ct hr (fun j21 => [(7, .i j21)]) (fun j21 => [(599999, .sus g0.w.heap.size ds5), (500000, .hold (.l TRecipient.pc a0) (T5.getD 0 undef)), (500002, .hold (.ptr 2 0) (T5.getD 2 undef)), (500005, .hold (.l TRecipient.pc a0) (T5.getD 5 undef)), (500006, .hold (.i ((a0.length : Int))) (T5.getD 6 undef)), (500007, .hold (.i s1) (T5.getD 7 undef)), (500003, .hold (.i s1) (T5.getD 3 undef)), (2, .cells [.i 0, .i 0])]) (fun j21 hr jump6 => ?_) (fun j21 hr => ?_)
     ·
      refine il (fn := Tryz.f164) (args := [.l TRecipient.pc v19, .fn (.func 137) [] [.ptr 4 0]]) 600000 699999 [] rfl ⟨Tryz.func164, rfl, by kernel_rfl⟩ rfl rfl rfl fun T6 ds6 => ?_
      refine rn tk 9 rfl ?_
      refine wn tk rfl rfl rfl ?_
      refine rn tk 4 rfl ?_
      refine al2 hr (fun s22 => [(0, .l TRecipient.pc v19), (1, .fn (.func 137) [] [.ptr 4 0]), (7, .i ((v19.length : Int))), (8, .i s22)]) (fun s22 => [(699999, .sus g0.w.heap.size ds6), (599999, .sus g0.w.heap.size ds5), (500000, .hold (.l TRecipient.pc a0) (T5.getD 0 undef)), (500002, .hold (.ptr 2 0) (T5.getD 2 undef)), (500005, .hold (.l TRecipient.pc a0) (T5.getD 5 undef)), (500006, .hold (.i ((a0.length : Int))) (T5.getD 6 undef)), (500007, .hold (.i s1) (T5.getD 7 undef)), (500003, .hold (.i s1) (T5.getD 3 undef)), (4, .cells [.s v7.Address, .i v7.Notify]), (2, .cells [.i 0, .i 0])]) (.exit 0) (fun b23 => []) (fun b23 => [(699999, .sus g0.w.heap.size ds6), (599999, .sus g0.w.heap.size ds5), (500000, .hold (.l TRecipient.pc a0) (T5.getD 0 undef)), (500002, .hold (.ptr 2 0) (T5.getD 2 undef)), (500005, .hold (.l TRecipient.pc a0) (T5.getD 5 undef)), (500006, .hold (.i ((a0.length : Int))) (T5.getD 6 undef)), (500007, .hold (.i s1) (T5.getD 7 undef)), (500003, .hold (.i s1) (T5.getD 3 undef)), (2, .cells [.i 0, .i 0])]) .ret (fun b24 => [(4, .i b24)]) (fun b24 => [(699999, .sus g0.w.heap.size ds6), (599999, .sus g0.w.heap.size ds5), (500000, .hold (.l TRecipient.pc a0) (T5.getD 0 undef)), (500002, .hold (.ptr 2 0) (T5.getD 2 undef)), (500005, .hold (.l TRecipient.pc a0) (T5.getD 5 undef)), (500006, .hold (.i ((a0.length : Int))) (T5.getD 6 undef)), (500007, .hold (.i s1) (T5.getD 7 undef)), (500003, .hold (.i s1) (T5.getD 3 undef)), (2, .cells [.i 0, .i 0])]) rfl rfl (fun s22 x26 hr => ?_) (fun b23 hr => ?_) (fun b24 hr => ?_)
      ·
       unfold envelope_Recipients_l2 at hr
       refine rn tk 6 rfl ?_
       refine ac 9 hr rfl (fun c27 hr => ?_) (fun c27 hr => ?_)
       ·
        refine rn tk 15 rfl ?_
        obtain ⟨v28, h29, hr⟩ := bind_some hr
        refine wi tk h29 rfl rfl rfl rfl rfl ?_
        refine rn tk 1 rfl ?_
        refine il (fn := Tryz.f137) (args := [.agg [.s v28.Address, .i v28.Notify], .ptr 4 0]) 800000 899999 [(0, .l TRecipient.pc v19), (1, .fn (.func 137) [] [.ptr 4 0]), (5, .i s22), (7, .i ((v19.length : Int))), (8, .i s22)] rfl ⟨Tryz.func137, rfl, by kernel_rfl⟩ rfl rfl rfl fun T8 ds8 => ?_
        refine rn tk 2 rfl ?_
        refine wo (opTo_box (k := 2) 1002 rfl rfl rfl rfl rfl) rfl ?_
        refine rn tk 14 rfl ?_
        refine ie tk [.bo ((v28.Address == v7.Address))] [(0, .l TRecipient.pc v19), (1, .fn (.func 137) [] [.ptr 4 0]), (5, .i s22), (7, .i ((v19.length : Int))), (8, .i s22)] [(1002, .cells [.s v28.Address, .i v28.Notify]), (699999, .sus g0.w.heap.size ds6), (599999, .sus g0.w.heap.size ds5), (500000, .hold (.l TRecipient.pc a0) (T5.getD 0 undef)), (500002, .hold (.ptr 2 0) (T5.getD 2 undef)), (500005, .hold (.l TRecipient.pc a0) (T5.getD 5 undef)), (500006, .hold (.i ((a0.length : Int))) (T5.getD 6 undef)), (500007, .hold (.i s1) (T5.getD 7 undef)), (500003, .hold (.i s1) (T5.getD 3 undef)), (4, .cells [.s v7.Address, .i v7.Notify]), (2, .cells [.i 0, .i 0])] (.inr rfl) rfl rfl rfl rfl (hO ?_)
        refine rn tk 2 rfl ?_
        refine ac 16 hr rfl (fun c30 hr => ?_) (fun c30 hr => ?_)
        ·
         refine rn tk 9 rfl ?_
         cases hr
         exact ato rfl rfl rfl rfl
        ·
         refine rn tk 7 rfl ?_
         cases hr
         exact atc rfl rfl
       ·
        refine rn tk 2 rfl ?_
        cases hr
        exact ato rfl rfl rfl rfl
      ·
       refine rn tk 8 rfl ?_
       refine ie tk [.i ((-1))] [] [(599999, .sus g0.w.heap.size ds5), (500000, .hold (.l TRecipient.pc a0) (T5.getD 0 undef)), (500002, .hold (.ptr 2 0) (T5.getD 2 undef)), (500005, .hold (.l TRecipient.pc a0) (T5.getD 5 undef)), (500006, .hold (.i ((a0.length : Int))) (T5.getD 6 undef)), (500007, .hold (.i s1) (T5.getD 7 undef)), (500003, .hold (.i s1) (T5.getD 3 undef)), (2, .cells [.i 0, .i 0])] (.inr rfl) rfl rfl rfl rfl ?_
       cases hr
       exact jump6 _ _ rfl rfl
      ·
       refine rn tk 2 rfl ?_
       refine ie tk [.i b24] [] [(599999, .sus g0.w.heap.size ds5), (500000, .hold (.l TRecipient.pc a0) (T5.getD 0 undef)), (500002, .hold (.ptr 2 0) (T5.getD 2 undef)), (500005, .hold (.l TRecipient.pc a0) (T5.getD 5 undef)), (500006, .hold (.i ((a0.length : Int))) (T5.getD 6 undef)), (500007, .hold (.i s1) (T5.getD 7 undef)), (500003, .hold (.i s1) (T5.getD 3 undef)), (2, .cells [.i 0, .i 0])] (.inr rfl) rfl rfl rfl rfl ?_
       cases hr
       exact jump6 _ _ rfl rfl
     ·
      refine rn tk 5 rfl ?_
      refine ie tk [.bo (decide (0 ≤ j21))] [(0, .l TRecipient.pc a0), (2, .ptr 2 0), (3, .i s1), (5, .l TRecipient.pc a0), (6, .i ((a0.length : Int))), (7, .i s1)] [(2, .cells [.i 0, .i 0])] (.inr rfl) rfl rfl rfl rfl (hO ?_)
      refine rn tk 3 rfl ?_
      refine ac 26 hr rfl (fun c31 hr => ?_) (fun c31 hr => ?_)
      ·
       refine rn tk 3 rfl ?_
       obtain ⟨v32, h33, hr⟩ := bind_some hr
       refine cl (basic_Fault_run _ _ _ h33) rfl rfl ?_
       refine rn tk 7 rfl ?_
       cases hr
       exact ato rfl rfl rfl rfl
      ·
       refine rn tk 8 rfl ?_
       cases hr
       exact atc rfl rfl
  ·
   refine rn tk 2 rfl ?_
   cases hr
   exact ato rfl rfl rfl rfl
 ·
  refine rn tk 4 rfl ?_
  obtain ⟨v34, h35, hr⟩ := bind_some hr
  refine cl (basic_None_run _ h35) rfl rfl ?_
  refine rn tk 4 rfl ?_
  cases hr
  exact kr tk (.inr rfl) rfl rfl
 ·
  refine rn tk 2 rfl ?_
  cases hr
  exact kr tk (.inr rfl) rfl rfl
theorem envelope_Validate_run (a0 : TEnvelope) (r : TFault) (hr : envelope_Validate a0 = some r) : Run Tryz.prog 52 [.agg [.s a0.From, .l TRecipient.pc a0.To, .s a0.Id]] (.agg [.i r.Code, .i r.Index]) := by
 unfold envelope_Validate at hr
 refine rf (fn := Tryz.f52) ⟨Tryz.func52, rfl, by kernel_rfl⟩ rfl (fun _ => rfl) fun g0 hg => ?_
 refine rn tk 8 rfl ?_
 refine jb hr (fun j1 => [(1, .ptr 1 0), (2, .ptr 2 0), (3, .bo j1)]) (fun j1 => [(2, .cells [.i 0, .i 0]), (1, .cells [.s a0.From, .l TRecipient.pc a0.To, .s a0.Id])]) (fun j1 hr => ?_) (fun j1 hr => ?_)
 ·
  refine rn tk 5 rfl ?_
  refine bs 7 hr rfl (fun c2 hr => ?_) (fun c2 hr => ?_)
  ·
   refine rn tk 2 rfl ?_
   obtain ⟨v3, h4, hr⟩ := bind_some hr
   refine ug rfl rfl rfl ?_
   refine cl (envelope_Address_run _ _ h4) rfl rfl ?_
   refine rn tk 4 rfl ?_
   cases hr
   exact jn _ rfl rfl rfl
  ·
   refine rn tk 7 rfl ?_
   cases hr
   exact jn _ rfl rfl rfl
 ·
  refine ac 3 hr rfl (fun c5 hr => ?_) (fun c5 hr => ?_)
  ·
   refine rn tk 2 rfl ?_
   obtain ⟨v6, h7, hr⟩ := bind_some hr
   refine cl (basic_Fault_run _ _ _ h7) rfl rfl ?_
   refine rn tk 6 rfl ?_
   cases hr
   exact kr tk (.inr rfl) rfl rfl
  ·
   refine jb hr (fun j8 => [(1, .ptr 1 0), (2, .ptr 2 0), (14, .bo j8)]) (fun j8 => [(2, .cells [.i 0, .i 0]), (1, .cells [.s a0.From, .l TRecipient.pc a0.To, .s a0.Id])]) (fun j8 hr => ?_) (fun j8 hr => ?_)
   ·
    refine rn tk 3 rfl ?_
    refine wn tk rfl rfl rfl ?_
    refine rn tk 2 rfl ?_
    refine bs 19 hr rfl (fun c9 hr => ?_) (fun c9 hr => ?_)
    ·
     refine rn tk 7 rfl ?_
     cases hr
     exact jn _ rfl rfl rfl
    ·
     refine rn tk 2 rfl ?_
     refine ug rfl rfl rfl ?_
     refine wn tk rfl rfl rfl ?_
     refine rn tk 4 rfl ?_
     cases hr
     exact jn _ rfl rfl rfl
   ·
    refine ac 14 hr rfl (fun c10 hr => ?_) (fun c10 hr => ?_)
    ·
     refine rn tk 2 rfl ?_
     obtain ⟨v11, h12, hr⟩ := bind_some hr
     refine cl (basic_Fault_run _ _ _ h12) rfl rfl ?_
     refine rn tk 6 rfl ?_
     cases hr
     exact kr tk (.inr rfl) rfl rfl
    ·
     refine jb hr (fun j13 => [(1, .ptr 1 0), (2, .ptr 2 0), (26, .bo j13)]) (fun j13 => [(2, .cells [.i 0, .i 0]), (1, .cells [.s a0.From, .l TRecipient.pc a0.To, .s a0.Id])]) (fun j13 hr => ?_) (fun j13 hr => ?_)
     ·
      refine rn tk 5 rfl ?_
      refine bs 30 hr rfl (fun c14 hr => ?_) (fun c14 hr => ?_)
      ·
       refine rn tk 2 rfl ?_
       obtain ⟨v15, h16, hr⟩ := bind_some hr
       refine ug rfl rfl rfl ?_
       refine cl (basic_Name_run _ _ h16) rfl rfl ?_
       refine rn tk 4 rfl ?_
       cases hr
       exact jn _ rfl rfl rfl
      ·
       refine rn tk 7 rfl ?_
       cases hr
       exact jn _ rfl rfl rfl
     ·
      refine ac 26 hr rfl (fun c17 hr => ?_) (fun c17 hr => ?_)
      ·
       refine rn tk 2 rfl ?_
       obtain ⟨v18, h19, hr⟩ := bind_some hr
       refine cl (basic_Fault_run _ _ _ h19) rfl rfl ?_
       refine rn tk 6 rfl ?_
       cases hr
       exact kr tk (.inr rfl) rfl rfl
      ·
       refine rn tk 7 rfl ?_
       obtain ⟨v20, h21, hr⟩ := bind_some hr
       refine cl (envelope_Recipients_run _ _ h21) rfl rfl ?_
       refine rn tk 4 rfl ?_
       cases hr
       exact kr tk (.inr rfl) rfl rfl
theorem fold_name_run (a0 : Str) (r : Bool) (hr : fold_name a0 = some r) : Run Tryz.prog 119 [.s a0] (.bo r) := by
 unfold fold_name at hr
 refine rf (fn := Tryz.f119) ⟨Tryz.func119, rfl, by kernel_rfl⟩ rfl (fun _ => rfl) fun g0 hg => ?_
 refine rn tk 5 rfl ?_
 refine jb hr (fun j1 => [(2, .bo j1)]) (fun j1 => []) (fun j1 hr => ?_) (fun j1 hr => ?_)
 ·
  refine rn tk 4 rfl ?_
  refine bs 5 hr rfl (fun c2 hr => ?_) (fun c2 hr => ?_)
  ·
   refine rn tk 5 rfl ?_
   refine bs 10 hr rfl (fun c3 hr => ?_) (fun c3 hr => ?_)
   ·
    refine rn tk 1 rfl ?_
    refine ug rfl rfl rfl ?_
    refine ct hr (fun j4 => [(10, .bo true), (12, .bo j4)]) (fun j4 => []) (fun j4 hr jump4 => ?_) (fun j4 hr => ?_)
    ·
     refine il (fn := Tryz.f68) (args := [.s a0, .fn (.func 153) [] []]) 400000 499999 [(10, .bo true)] rfl ⟨Tryz.func68, rfl, by kernel_rfl⟩ rfl rfl rfl fun T4 ds4 => ?_
     refine rn tk 14 rfl ?_
     refine al2 hr (fun s5 => [(0, .s a0), (1, .fn (.func 153) [] []), (7, .i ((a0.length : Int))), (8, .i s5)]) (fun s5 => [(499999, .sus g0.w.heap.size ds4), (400010, .hold (.bo true) (T4.getD 10 undef))]) (.exit 0) (fun b6 => []) (fun b6 => [(499999, .sus g0.w.heap.size ds4), (400010, .hold (.bo true) (T4.getD 10 undef))]) .ret (fun b7 => [(4, .bo false)]) (fun b7 => [(499999, .sus g0.w.heap.size ds4), (400010, .hold (.bo true) (T4.getD 10 undef))]) rfl rfl (fun s5 x9 hr => ?_) (fun b6 hr => ?_) (fun b7 hr => ?_)
     ·
      unfold fold_name_l1 at hr
      refine rn tk 6 rfl ?_
      refine ac 9 hr rfl (fun c10 hr => ?_) (fun c10 hr => ?_)
      ·
       refine rn tk 15 rfl ?_
       obtain ⟨v11, h12, hr⟩ := bind_some hr
       refine ws tk h12 rfl rfl rfl rfl ?_
       refine il (fn := Tryz.f153) (args := [.u8 v11]) 600000 699999 [(0, .s a0), (1, .fn (.func 153) [] []), (7, .i ((a0.length : Int))), (8, .i s5)] rfl ⟨Tryz.func153, rfl, by kernel_rfl⟩ rfl rfl rfl fun T6 ds6 => ?_
       refine rn tk 5 rfl ?_
       refine jb hr (fun j13 => [(2, .bo j13)]) (fun j13 => [(699999, .sus g0.w.heap.size ds6), (600000, .hold (.s a0) (T6.getD 0 undef)), (600001, .hold (.fn (.func 153) [] []) (T6.getD 1 undef)), (600007, .hold (.i ((a0.length : Int))) (T6.getD 7 undef)), (600008, .hold (.i s5) (T6.getD 8 undef)), (499999, .sus g0.w.heap.size ds4), (400010, .hold (.bo true) (T4.getD 10 undef))]) (fun j13 hr => ?_) (fun j13 hr => ?_)
       ·
        refine rn tk 4 rfl ?_
        refine bs 5 hr rfl (fun c14 hr => ?_) (fun c14 hr => ?_)
        ·
         refine rn tk 4 rfl ?_
         refine bs 9 hr rfl (fun c15 hr => ?_) (fun c15 hr => ?_)
         ·
          refine rn tk 5 rfl ?_
          cases hr
          exact jn _ rfl rfl rfl
         ·
          refine rn tk 5 rfl ?_
          cases hr
          exact jn _ rfl rfl rfl
        ·
         refine rn tk 9 rfl ?_
         cases hr
         exact jn _ rfl rfl rfl
       ·
        refine rn tk 1 rfl ?_
        refine ie tk [.bo j13] [(0, .s a0), (1, .fn (.func 153) [] []), (7, .i ((a0.length : Int))), (8, .i s5)] [(499999, .sus g0.w.heap.size ds4), (400010, .hold (.bo true) (T4.getD 10 undef))] (.inr rfl) rfl rfl rfl rfl (hO ?_)
        refine rn tk 3 rfl ?_
        refine ac 16 hr rfl (fun c16 hr => ?_) (fun c16 hr => ?_)
        ·
         refine rn tk 8 rfl ?_
         cases hr
         exact ato rfl rfl rfl rfl
        ·
         refine rn tk 7 rfl ?_
         cases hr
         exact atc rfl rfl
      ·
       refine rn tk 2 rfl ?_
       cases hr
       exact ato rfl rfl rfl rfl
     ·
      refine rn tk 8 rfl ?_
      refine ie tk [.bo true] [(10, .bo true)] [] (.inr rfl) rfl rfl rfl rfl ?_
      cases hr
      exact jump4 _ _ rfl rfl
     ·
      refine rn tk 2 rfl ?_
      refine ie tk [.bo false] [(10, .bo true)] [] (.inr rfl) rfl rfl rfl rfl ?_
      cases hr
      exact jump4 _ _ rfl rfl
    ·
     refine rn tk 3 rfl ?_
     cases hr
     exact jn _ rfl rfl rfl
   ·
    refine rn tk 5 rfl ?_
    cases hr
    exact jn _ rfl rfl rfl
  ·
   refine rn tk 10 rfl ?_
   cases hr
   exact jn _ rfl rfl rfl
 ·
  refine rn tk 1 rfl ?_
  cases hr
  exact kr tk (.inr rfl) rfl rfl
theorem basic_Blank_run (a0 : UInt8) (r : Bool) (hr : basic_Blank a0 = some r) : Run Tryz.prog 87 [.u8 a0] (.bo r) := by
 unfold basic_Blank at hr
 refine rf (fn := Tryz.f87) ⟨Tryz.func87, rfl, by kernel_rfl⟩ rfl (fun _ => rfl) fun g0 hg => ?_
 refine rn tk 5 rfl ?_
 refine jb hr (fun j1 => [(2, .bo j1)]) (fun j1 => []) (fun j1 hr => ?_) (fun j1 hr => ?_)
 ·
  refine rn tk 4 rfl ?_
  refine bs 5 hr rfl (fun c2 hr => ?_) (fun c2 hr => ?_)
  ·
   refine rn tk 5 rfl ?_
   cases hr
   exact jn _ rfl rfl rfl
  ·
   refine rn tk 5 rfl ?_
   cases hr
   exact jn _ rfl rfl rfl
 ·
  refine rn tk 1 rfl ?_
  cases hr
  exact kr tk (.inr rfl) rfl rfl
theorem fold_point_run (a0 : Str) (a1 : Int) (r : Int) (hr : fold_point a0 a1 = some r) : Run Tryz.prog 121 [.s a0, .i a1] (.i r) := by
 unfold fold_point at hr
 refine rf (fn := Tryz.f121) ⟨Tryz.func121, rfl, by kernel_rfl⟩ rfl (fun _ => rfl) fun g0 hg => ?_
 refine rn tk 14 rfl ?_
 refine wq (ev_max rfl rfl) rfl rfl rfl ?_
 refine rn tk 4 rfl ?_
 refine al1 hr (fun s1 => [(0, .s a0), (5, .i s1.1), (6, .i s1.2)]) (fun s1 => []) (.exit 0) (fun b2 => [(5, .i b2)]) (fun b2 => []) rfl rfl (fun s1 x3 hr => ?_) (fun b2 hr => ?_)
 ·
  unfold fold_point_l1 at hr
  refine rn tk 9 rfl ?_
  refine ac 12 hr rfl (fun c4 hr => ?_) (fun c4 hr => ?_)
  ·
   refine rn tk 2 rfl ?_
   refine jk (fun j5 => [(0, .s a0), (5, .i j5), (6, .i s1.2)]) (fun j5 => []) (fun j5 => fold_point_k2 s1 j5 = some x3) ?_ ?_
   ·
    refine rn tk 2 rfl ?_
    refine jb hr (fun j6 => [(0, .s a0), (5, .i s1.1), (6, .i s1.2), (26, .bo j6)]) (fun j6 => []) (fun j6 hr => ?_) (fun j6 hr => ?_)
    ·
     refine rn tk 3 rfl ?_
     obtain ⟨v7, h8, hr⟩ := bind_some hr
     refine ws tk h8 rfl rfl rfl rfl ?_
     obtain ⟨v9, h10, hr⟩ := bind_some hr
     refine cl (basic_Blank_run _ _ h10) rfl rfl ?_
     refine rn tk 2 rfl ?_
     refine bs 20 hr rfl (fun c11 hr => ?_) (fun c11 hr => ?_)
     ·
      refine rn tk 7 rfl ?_
      cases hr
      exact jn _ rfl rfl rfl
     ·
      refine rn tk 3 rfl ?_
      obtain ⟨v12, h13, hr⟩ := bind_some hr
      refine ug rfl rfl rfl ?_
      refine ws tk h13 rfl rfl rfl rfl ?_
      obtain ⟨v14, h15, hr⟩ := bind_some hr
      refine ug rfl rfl rfl ?_
      refine cl (basic_Blank_run _ _ h15) rfl rfl ?_
      refine rn tk 2 rfl ?_
      cases hr
      exact jn _ rfl rfl rfl
    ·
     refine ac 26 hr rfl (fun c16 hr => ?_) (fun c16 hr => ?_)
     ·
      refine rn tk 3 rfl ?_
      exact jn s1.1 hr rfl rfl
     ·
      refine rn tk 3 rfl ?_
      refine jb hr (fun j17 => [(0, .s a0), (5, .i s1.1), (6, .i s1.2), (32, .bo j17)]) (fun j17 => []) (fun j17 hr => ?_) (fun j17 hr => ?_)
      ·
       refine rn tk 4 rfl ?_
       refine bs 29 hr rfl (fun c18 hr => ?_) (fun c18 hr => ?_)
       ·
        refine rn tk 4 rfl ?_
        cases hr
        exact jn _ rfl rfl rfl
       ·
        refine rn tk 4 rfl ?_
        cases hr
        exact jn _ rfl rfl rfl
      ·
       refine ac 32 hr rfl (fun c19 hr => ?_) (fun c19 hr => ?_)
       ·
        refine rn tk 4 rfl ?_
        cases hr
        exact ato rfl rfl rfl rfl
       ·
        refine rn tk 7 rfl ?_
        exact jn s1.2 hr rfl rfl
   ·
    intro j5 hr
    unfold fold_point_k2 at hr
    refine rn tk 5 rfl ?_
    cases hr
    exact atc rfl rfl
  ·
   refine rn tk 2 rfl ?_
   cases hr
   exact ato rfl rfl rfl rfl
 ·
  refine rn tk 9 rfl ?_
  cases hr
  exact kr tk (.inr rfl) rfl rfl
theorem unicode_utf8_ValidRune_run (a0 : Int) (r : Bool) (hr : unicode_utf8_ValidRune a0 = some r) : Run Tryz.prog 191 [.pv (.b (.int .i32 a0))] (.bo r) := by
 unfold unicode_utf8_ValidRune at hr
 refine rf (fn := Tryz.f191) ⟨Tryz.func191, rfl, by kernel_rfl⟩ rfl (fun _ => rfl) fun g0 hg => ?_
 refine rn tk 7 rfl ?_
 refine jb hr (fun j1 => [(0, .pv (.b (.int .i32 a0))), (3, .bo j1)]) (fun j1 => []) (fun j1 hr => ?_) (fun j1 hr => ?_)
 ·
  refine rn tk 4 rfl ?_
  refine bs 6 hr rfl (fun c2 hr => ?_) (fun c2 hr => ?_)
  ·
   refine rn tk 5 rfl ?_
   cases hr
   exact jn _ rfl rfl rfl
  ·
   refine rn tk 5 rfl ?_
   cases hr
   exact jn _ rfl rfl rfl
 ·
  refine ac 3 hr rfl (fun c3 hr => ?_) (fun c3 hr => ?_)
  ·
   refine rn tk 8 rfl ?_
   cases hr
   exact kr tk (.inr rfl) rfl rfl
  ·
   refine jb hr (fun j4 => [(10, .bo j4)]) (fun j4 => []) (fun j4 hr => ?_) (fun j4 hr => ?_)
   ·
    refine rn tk 4 rfl ?_
    refine bs 13 hr rfl (fun c5 hr => ?_) (fun c5 hr => ?_)
    ·
     refine rn tk 5 rfl ?_
     cases hr
     exact jn _ rfl rfl rfl
    ·
     refine rn tk 5 rfl ?_
     cases hr
     exact jn _ rfl rfl rfl
   ·
    refine ac 10 hr rfl (fun c6 hr => ?_) (fun c6 hr => ?_)
    ·
     refine rn tk 8 rfl ?_
     cases hr
     exact kr tk (.inr rfl) rfl rfl
    ·
     refine rn tk 9 rfl ?_
     cases hr
     exact kr tk (.inr rfl) rfl rfl
theorem strings_IndexRune_run (a0 : Str) (a1 : Int) (r : Int) (hr : strings_IndexRune a0 a1 = some r) : Run Tryz.prog 177 [.s a0, .pv (.b (.int .i32 a1))] (.i r) := by
 unfold strings_IndexRune at hr
 refine rf (fn := Tryz.f177) ⟨Tryz.func177, rfl, by kernel_rfl⟩ rfl (fun _ => rfl) fun g0 hg => ?_
 refine rn tk 6 rfl ?_
 refine jb hr (fun j1 => [(0, .s a0), (1, .pv (.b (.int .i32 a1))), (160, .bo j1)]) (fun j1 => []) (fun j1 hr => ?_) (fun j1 hr => ?_)
 ·
  refine rn tk 4 rfl ?_
  refine bs 163 hr rfl (fun c2 hr => ?_) (fun c2 hr => ?_)
  ·
   refine rn tk 5 rfl ?_
   cases hr
   exact jn _ rfl rfl rfl
  ·
   refine rn tk 5 rfl ?_
   cases hr
   exact jn _ rfl rfl rfl
 ·
  refine ac 160 hr rfl (fun c3 hr => ?_) (fun c3 hr => ?_)
  ·
   refine rn tk 5 rfl ?_
   obtain ⟨v4, h5, hr⟩ := bind_some hr
   refine cl (strings_IndexByte_run _ _ _ h5) rfl rfl ?_
   refine rn tk 5 rfl ?_
   cases hr
   exact kr tk (.inr rfl) rfl rfl
  ·
   refine rn tk 7 rfl ?_
   refine ac 171 hr rfl (fun c6 hr => ?_) (fun c6 hr => ?_)
   ·
    refine rn tk 4 rfl ?_
    refine wr 1175 tk rfl rfl rfl rfl ?_
    refine rn tk 3 rfl ?_
    refine al2 hr (fun s7 => [(175, .ptr 1175 0)]) (fun s7 => [(1175, .it (strB a0) s7)]) (.exit 9) (fun b8 => []) (fun b8 => []) .ret (fun b9 => [(4, .i b9)]) (fun b9 => []) rfl rfl (fun s7 x11 hr => ?_) (fun b8 hr => ?_) (fun b9 hr => ?_)
    ·
     unfold strings_IndexRune_l1 at hr
     refine rn tk 2 rfl ?_
     refine wnx hr rfl rfl rfl (fun c12 hr => ?_) (fun c12 hr => ?_)
     ·
      refine rn tk 22 rfl ?_
      refine ac 181 hr rfl (fun c13 hr => ?_) (fun c13 hr => ?_)
      ·
       refine rn tk 8 rfl ?_
       cases hr
       exact ato rfl rfl rfl rfl
      ·
       refine rn tk 2 rfl ?_
       cases hr
       exact atc rfl rfl
     ·
      refine rn tk 7 rfl ?_
      cases hr
      exact ato rfl rfl rfl rfl
    ·
     refine rn tk 9 rfl ?_
     cases hr
     exact kr tk (.inr rfl) rfl rfl
    ·
     refine rn tk 3 rfl ?_
     cases hr
     exact kr tk (.inr rfl) rfl rfl
   ·
    refine rn tk 3 rfl ?_
    obtain ⟨v14, h15, hr⟩ := bind_some hr
    refine cl (unicode_utf8_ValidRune_run _ _ h15) rfl rfl ?_
    refine rn tk 4 rfl ?_
    refine ac 183 hr rfl (fun c16 hr => ?_) (fun c16 hr => ?_)
    ·
     refine rn tk 7 rfl ?_
     cases hr
     exact kr tk (.inr rfl) rfl rfl
    ·
     refine rn tk 29 rfl ?_
     refine al2 hr (fun s17 => [(0, .s a0), (7, .s ((runeS a1))), (8, .i ((w64 ((((runeS a1)).length : Int) - 1)))), (9, .i s17)]) (fun s17 => []) (.exit 1) (fun b18 => []) (fun b18 => []) .ret (fun b19 => [(4, .i b19)]) (fun b19 => []) rfl rfl (fun s17 x21 hr => ?_) (fun b18 hr => ?_) (fun b19 hr => ?_)
     ·
      unfold strings_IndexRune_l2 at hr
      refine rn tk 9 rfl ?_
      refine ac 26 hr rfl (fun c22 hr => ?_) (fun c22 hr => ?_)
      ·
       refine rn tk 4 rfl ?_
       refine jk (fun j23 => [(0, .s a0), (7, .s ((runeS a1))), (8, .i j23.1), (9, .i j23.2)]) (fun j23 => []) (fun j23 => strings_IndexRune_k3 a0 a1 j23 = some x21) ?_ ?_
       ·
        refine rn tk 1 rfl ?_
        obtain ⟨v24, h25, hr⟩ := bind_some hr
        obtain ⟨v26, h27, hr⟩ := bind_some hr
        refine dr 6 [(32, .u8 v26), (31, .i ((w64 ((((runeS a1)).length : Int) - 1)))), (30, .s ((runeS a1))), (29, .u8 v24), (28, .i s17), (27, .s a0)] mixed (by kernel_rfl) rfl rfl (pq tk rfl (.plain rfl) (pq tk rfl (.plain rfl) (.run (.plain rfl) (opG_q (ev_sidx rfl rfl ty_string h25)) (pq tk rfl (.plain rfl) (pq tk rfl (.plain rfl) (.run (.plain rfl) (opG_q (ev_sidx rfl rfl ty_string h27)) .nil)))))) rfl ?_
        refine rn tk 3 rfl ?_
        refine ac 33 hr rfl (fun c28 hr => ?_) (fun c28 hr => ?_)
        ·
         refine rn tk 1 rfl ?_
         obtain ⟨v29, h30, hr⟩ := bind_some hr
         obtain ⟨v31, h32, hr⟩ := bind_some hr
         refine dr 7 [(40, .u8 v31), (39, .i ((w64 ((((runeS a1)).length : Int) - 1)))), (38, .s ((runeS a1))), (37, .s v29), (36, .i ((w64 (s17 + 1)))), (35, .i s17), (34, .s a0)] mixed (by kernel_rfl) rfl rfl (pq tk rfl (.plain rfl) (pq tk rfl (.plain rfl) (pq tk rfl (.plain rfl) (.run (.plain rfl) (opG_q (ev_scutL rfl rfl ty_string h30)) (pq tk rfl (.plain rfl) (pq tk rfl (.plain rfl) (.run (.plain rfl) (opG_q (ev_sidx rfl rfl ty_string h32)) .nil))))))) rfl ?_
         obtain ⟨v33, h34, hr⟩ := bind_some hr
         refine cl (strings_IndexByte_run _ _ _ h34) rfl rfl ?_
         refine rn tk 10 rfl ?_
         refine ac 43 hr rfl (fun c35 hr => ?_) (fun c35 hr => ?_)
         ·
          refine rn tk 10 rfl ?_
          cases hr
          exact ato rfl rfl rfl rfl
         ·
          refine rn tk 9 rfl ?_
          exact jn (((w64 ((((runeS a1)).length : Int) - 1)), (w64 (s17 + (w64 (v33 + 1)))))) hr rfl rfl
        ·
         refine rn tk 1 rfl ?_
         exact jn (((w64 ((((runeS a1)).length : Int) - 1)), s17)) hr rfl rfl
       ·
        intro j23 hr
        unfold strings_IndexRune_k3 at hr
        refine rn tk 7 rfl ?_
        refine al1 hr (fun s36 => [(0, .s a0), (7, .s ((runeS a1))), (8, .i j23.1), (9, .i j23.2), (12, .i s36)]) (fun s36 => []) (.exit 3) (fun b37 => [(8, .i j23.1), (9, .i j23.2)]) (fun b37 => []) rfl rfl (fun s36 x38 hr => ?_) (fun b37 hr => ?_)
        ·
         unfold strings_IndexRune_l4 at hr
         refine rn tk 9 rfl ?_
         refine ac 51 hr rfl (fun c39 hr => ?_) (fun c39 hr => ?_)
         ·
          refine rn tk 5 rfl ?_
          obtain ⟨v40, h41, hr⟩ := bind_some hr
          obtain ⟨v42, h43, hr⟩ := bind_some hr
          refine dr 10 [(63, .u8 v42), (62, .i ((w64 (j23.1 - s36)))), (61, .i s36), (60, .i j23.1), (59, .s ((runeS a1))), (58, .u8 v40), (57, .i ((w64 (j23.2 - s36)))), (56, .i s36), (55, .i j23.2), (54, .s a0)] mixed (by kernel_rfl) rfl rfl (pq tk rfl (.plain rfl) (pq tk rfl (.plain rfl) (pq tk rfl (.plain rfl) (pq tk rfl (.plain rfl) (.run (.plain rfl) (opG_q (ev_sidx rfl rfl ty_string h41)) (pq tk rfl (.plain rfl) (pq tk rfl (.plain rfl) (pq tk rfl (.plain rfl) (pq tk rfl (.plain rfl) (.run (.plain rfl) (opG_q (ev_sidx rfl rfl ty_string h43)) .nil)))))))))) rfl ?_
          refine rn tk 3 rfl ?_
          refine ac 64 hr rfl (fun c44 hr => ?_) (fun c44 hr => ?_)
          ·
           cases hr
          ·
           refine rn tk 8 rfl ?_
           cases hr
           exact atc rfl rfl
         ·
          refine rn tk 2 rfl ?_
          cases hr
          exact ato rfl rfl rfl rfl
        ·
         refine rn tk 15 rfl ?_
         cases hr
         exact ato rfl rfl rfl rfl
      ·
       refine rn tk 2 rfl ?_
       cases hr
       exact ato rfl rfl rfl rfl
     ·
      refine rn tk 12 rfl ?_
      cases hr
      exact kr tk (.inr rfl) rfl rfl
     ·
      refine rn tk 4 rfl ?_
      cases hr
      exact kr tk (.inr rfl) rfl rfl
theorem strings_shouldUseASCIISet_run (a0 : Int) (r : Bool) (hr : strings_shouldUseASCIISet a0 = some r) : Run Tryz.prog 200 [.i a0] (.bo r) := by
 unfold strings_shouldUseASCIISet at hr
 refine rf (fn := Tryz.f200) ⟨Tryz.func200, rfl, by kernel_rfl⟩ rfl (fun _ => rfl) fun g0 hg => ?_
 refine rn tk 13 rfl ?_
 cases hr
 exact kr tk (.inr rfl) rfl rfl
theorem strings_IndexAnyP_run (a0 : Str) (a1 : Str) (r : Int) (hr : strings_IndexAnyP a0 a1 = some r) : Run Tryz.prog 190 [.s a0, .s a1] (.i r) := by
 unfold strings_IndexAnyP at hr
 refine rf (fn := Tryz.f190) ⟨Tryz.func190, rfl, by kernel_rfl⟩ rfl (fun _ => rfl) fun g0 hg => ?_
 refine rn tk 12 rfl ?_
 refine ac 12 hr rfl (fun c1 hr => ?_) (fun c1 hr => ?_)
 ·
  refine rn tk 7 rfl ?_
  cases hr
  exact kr tk (.inr rfl) rfl rfl
 ·
  refine rn tk 10 rfl ?_
  refine ac 15 hr rfl (fun c2 hr => ?_) (fun c2 hr => ?_)
  ·
   refine rn tk 3 rfl ?_
   obtain ⟨v3, h4, hr⟩ := bind_some hr
   refine ws tk h4 rfl rfl rfl rfl ?_
   refine wur tk rfl rfl rfl ?_
   refine rn tk 3 rfl ?_
   refine jb hr (fun j5 => [(0, .s a0), (5, .pv (.b (.int .i32 j5)))]) (fun j5 => []) (fun j5 hr => ?_) (fun j5 hr => ?_)
   ·
    refine rn tk 6 rfl ?_
    refine ac 20 hr rfl (fun c6 hr => ?_) (fun c6 hr => ?_)
    ·
     refine rn tk 3 rfl ?_
     cases hr
     exact jn _ rfl rfl rfl
    ·
     refine rn tk 1 rfl ?_
     cases hr
     exact jn _ rfl rfl rfl
   ·
    refine rn tk 4 rfl ?_
    obtain ⟨v7, h8, hr⟩ := bind_some hr
    refine cl (strings_IndexRune_run _ _ _ h8) rfl rfl ?_
    refine rn tk 5 rfl ?_
    cases hr
    exact kr tk (.inr rfl) rfl rfl
  ·
   refine rn tk 7 rfl ?_
   obtain ⟨v9, h10, hr⟩ := bind_some hr
   refine cl (strings_shouldUseASCIISet_run _ _ h10) rfl rfl ?_
   refine rn tk 2 rfl ?_
   refine ac 26 hr rfl (fun c11 hr => ?_) (fun c11 hr => ?_)
   ·
    refine rn tk 3 rfl ?_
    cases hr
   ·
    refine rn tk 6 rfl ?_
    refine wr 1045 tk rfl rfl rfl rfl ?_
    refine rn tk 3 rfl ?_
    refine al2 hr (fun s12 => [(1, .s a1), (45, .ptr 1045 0)]) (fun s12 => [(1045, .it (strB a0) s12)]) (.exit 2) (fun b13 => []) (fun b13 => []) .ret (fun b14 => [(4, .i b14)]) (fun b14 => []) rfl rfl (fun s12 x16 hr => ?_) (fun b13 hr => ?_) (fun b14 hr => ?_)
    ·
     unfold strings_IndexAnyP_l1 at hr
     refine rn tk 2 rfl ?_
     refine wnx hr rfl rfl rfl (fun c17 hr => ?_) (fun c17 hr => ?_)
     ·
      refine rn tk 20 rfl ?_
      obtain ⟨v18, h19, hr⟩ := bind_some hr
      refine cl (strings_IndexRune_run _ _ _ h19) rfl rfl ?_
      refine rn tk 3 rfl ?_
      refine ac 53 hr rfl (fun c20 hr => ?_) (fun c20 hr => ?_)
      ·
       refine rn tk 8 rfl ?_
       cases hr
       exact ato rfl rfl rfl rfl
      ·
       refine rn tk 2 rfl ?_
       cases hr
       exact atc rfl rfl
     ·
      refine rn tk 7 rfl ?_
      cases hr
      exact ato rfl rfl rfl rfl
    ·
     refine rn tk 8 rfl ?_
     cases hr
     exact kr tk (.inr rfl) rfl rfl
    ·
     refine rn tk 2 rfl ?_
     cases hr
     exact kr tk (.inr rfl) rfl rfl
end Go.Proofs.YtfkgmcilaiblfaaGreatDoor

/- Library functions compute what their Lean functions do. -/
namespace Go.Proofs.YtfkgmcilaiblfaaGreatDoor
open Go.RowKit
set_option maxRecDepth 100000
theorem old_allocL (g : G) (vs : Array Value) (t : TypeId) : Old (fun _ => False) g ⟨g.w.alloc (.cells vs t), fun k => if k = g.w.heap.size then 0 else g.u k, g.loc⟩ := by
  have h := old_alloc g vs t 0 0 (g.loc 0)
  have e : (g.alloc vs t 0 0 (g.loc 0)) = ⟨g.w.alloc (.cells vs t), fun k => if k = g.w.heap.size then 0 else g.u k, g.loc⟩ := by
    unfold G.alloc
    congr 1
    funext k
    split
    · rename_i hk; rw [hk]
    · rfl
  rw [← e]; exact h
theorem wf_allocL {g : G} (h : Wf g) (vs : Array Value) (t : TypeId) : Wf ⟨g.w.alloc (.cells vs t), fun k => if k = g.w.heap.size then 0 else g.u k, g.loc⟩ := by
  intro k hk
  have hk : g.w.heap.size + 1 ≤ k := by simpa using hk
  show (if k = g.w.heap.size then 0 else g.u k) = 0
  rw [if_neg (by omega)]
  exact h k (by omega)
theorem ascii_data {t : Str} (h : asciiL t = true) : ∀ (j : Nat) b, (strB t).data.toList[j]? = some b → b.toNat < 128 := fun j b hb => asciiL_mem h (List.mem_of_getElem? hb)
theorem strings_IndexAny_run (s t : Str) (r : Int) (hr : strings_IndexAny s t = some r) : Run Tryz.prog 190 [.s s, .s t] (.i r) := by
  unfold strings_IndexAny at hr
  split at hr
  case isFalse => cases hr
  rename_i hc
  obtain ⟨h1, h2, h3, h4⟩ := hc
  by_cases h8 : s.length ≤ 8
  · exact strings_IndexAnyP_run s t r (by rw [IndexAnyP_eq s t h8 h3 h2 h4]; exact hr)
  · cases hr
    refine ⟨⟨_, _, ⟨Tryz.func190, rfl, by kernel_rfl⟩⟩, fun g vs hw hg ha => ?_⟩
    obtain ⟨hsz, hrel⟩ := ha
    obtain ⟨l⟩ := vs
    match l, hsz with
    | [x, y], _ =>
      obtain rfl := str_arg (hrel 0 _ rfl)
      obtain rfl := str_arg (hrel 1 _ rfl)
      have h116 : (Tryz.prog.info? 173).map (fun i => (i.zero, i.size)) = some (some (.agg (Array.replicate 256 (.bool false))), 256) := by kernel_rfl
      have hz := (zero_of_info h116).1
      refine callsIn_wide.2 ((Tryz.strings_IndexAny_long hz (strB s) (strB t) g.w (by rw [strB_size]; exact h3) (by rw [strB_size]; omega) (by rw [strB_size]; exact h1) (by rw [strB_size]; exact h2) (ascii_data h4)).mono ?_)
      rintro e w' ⟨rfl, rfl⟩
      have o1 := old_allocL g (Lib.setCells t) 173
      have w1 := wf_allocL hw (Lib.setCells t) 173
      have o2 := old_allocL ⟨g.w.alloc (.cells (Lib.setCells t) 173), fun k => if k = g.w.heap.size then 0 else g.u k, g.loc⟩ (Lib.setCells t) 173
      have w2 := wf_allocL w1 (Lib.setCells t) 173
      have o3 : Old (fun _ => False) g _ := o1.trans (o2.mono (S' := fun b => False ∨ g.w.heap.size ≤ b) (by intro b _ hf; exact hf.elim))
      exact ⟨⟨_, _, _⟩, _, rfl, (by rfl), o3, w2, (by rfl), .pv (.b rfl)⟩
end Go.Proofs.YtfkgmcilaiblfaaGreatDoor

namespace Go.Proofs.YtfkgmcilaiblfaaGreatDoor
open Go.RowKit
set_option maxRecDepth 100000
set_option maxHeartbeats 40000000
set_option linter.unusedVariables false
theorem strings_ContainsAny_run (a0 : Str) (a1 : Str) (r : Bool) (hr : strings_ContainsAny a0 a1 = some r) : Run Tryz.prog 174 [.s a0, .s a1] (.bo r) := by
 unfold strings_ContainsAny at hr
 refine rf (fn := Tryz.f174) ⟨Tryz.func174, rfl, by kernel_rfl⟩ rfl (fun _ => rfl) fun g0 hg => ?_
 refine rn tk 9 rfl ?_
 obtain ⟨v1, h2, hr⟩ := bind_some hr
 refine cl (strings_IndexAny_run _ _ _ h2) rfl rfl ?_
 refine rn tk 5 rfl ?_
 cases hr
 exact kr tk (.inr rfl) rfl rfl
theorem fold_ends_run (a0 : Str) (r : Bool) (hr : fold_ends a0 = some r) : Run Tryz.prog 154 [.s a0] (.bo r) := by
 unfold fold_ends at hr
 refine rf (fn := Tryz.f154) ⟨Tryz.func154, rfl, by kernel_rfl⟩ rfl (fun _ => rfl) fun g0 hg => ?_
 refine rn tk 8 rfl ?_
 obtain ⟨v1, h2, hr⟩ := bind_some hr
 refine cl (strings_ContainsAny_run _ _ _ h2) rfl rfl ?_
 refine rn tk 4 rfl ?_
 cases hr
 exact kr tk (.inr rfl) rfl rfl
theorem fold_value_run (a0 : Str) (r : Bool) (hr : fold_value a0 = some r) : Run Tryz.prog 120 [.s a0] (.bo r) := by
 unfold fold_value at hr
 refine rf (fn := Tryz.f120) ⟨Tryz.func120, rfl, by kernel_rfl⟩ rfl (fun _ => rfl) fun g0 hg => ?_
 refine rn tk 5 rfl ?_
 refine jb hr (fun j1 => [(2, .bo j1)]) (fun j1 => []) (fun j1 hr => ?_) (fun j1 hr => ?_)
 ·
  refine rn tk 2 rfl ?_
  obtain ⟨v2, h3, hr⟩ := bind_some hr
  refine cl (fold_ends_run _ _ h3) rfl rfl ?_
  refine rn tk 2 rfl ?_
  refine bs 6 hr rfl (fun c4 hr => ?_) (fun c4 hr => ?_)
  ·
   refine rn tk 3 rfl ?_
   refine bs 9 hr rfl (fun c5 hr => ?_) (fun c5 hr => ?_)
   ·
    refine rn tk 17 rfl ?_
    cases hr
    exact jn _ rfl rfl rfl
   ·
    refine rn tk 1 rfl ?_
    obtain ⟨v6, h7, hr⟩ := bind_some hr
    refine ug rfl rfl rfl ?_
    refine ws tk h7 rfl rfl rfl rfl ?_
    obtain ⟨v8, h9, hr⟩ := bind_some hr
    refine ug rfl rfl rfl ?_
    refine cl (basic_Blank_run _ _ h9) rfl rfl ?_
    refine rn tk 2 rfl ?_
    refine bs 14 hr rfl (fun c10 hr => ?_) (fun c10 hr => ?_)
    ·
     refine rn tk 4 rfl ?_
     obtain ⟨v11, h12, hr⟩ := bind_some hr
     refine ug rfl rfl rfl ?_
     refine ws tk h12 rfl rfl rfl rfl ?_
     obtain ⟨v13, h14, hr⟩ := bind_some hr
     refine ug rfl rfl rfl ?_
     refine cl (basic_Blank_run _ _ h14) rfl rfl ?_
     refine rn tk 6 rfl ?_
     cases hr
     exact jn _ rfl rfl rfl
    ·
     refine rn tk 12 rfl ?_
     cases hr
     exact jn _ rfl rfl rfl
  ·
   refine rn tk 20 rfl ?_
   cases hr
   exact jn _ rfl rfl rfl
 ·
  refine rn tk 1 rfl ?_
  cases hr
  exact kr tk (.inr rfl) rfl rfl
theorem fold_Fold_run (a0 : Str) (a1 : Str) (r : (List Str) × TFault) (hr : fold_Fold a0 a1 = some r) : Run Tryz.prog 85 [.s a0, .s a1] (.tup [.l cS r.1, .agg [.i r.2.Code, .i r.2.Index]]) := by
 unfold fold_Fold at hr
 refine rf (fn := Tryz.f85) ⟨Tryz.func85, rfl, by kernel_rfl⟩ rfl (fun _ => rfl) fun g0 hg => ?_
 refine rn tk 11 rfl ?_
 obtain ⟨v1, h2, hr⟩ := bind_some hr
 refine cl (fold_name_run _ _ h2) rfl rfl ?_
 refine rn tk 4 rfl ?_
 refine ac 12 hr rfl (fun c3 hr => ?_) (fun c3 hr => ?_)
 ·
  refine rn tk 2 rfl ?_
  obtain ⟨v4, h5, hr⟩ := bind_some hr
  refine cl (basic_Fault_run _ _ _ h5) rfl rfl ?_
  refine rn tk 7 rfl ?_
  cases hr
  exact kr tk (.inr rfl) rfl rfl
 ·
  refine rn tk 8 rfl ?_
  refine ac 17 hr rfl (fun c6 hr => ?_) (fun c6 hr => ?_)
  ·
   refine rn tk 2 rfl ?_
   obtain ⟨v7, h8, hr⟩ := bind_some hr
   refine cl (basic_Fault_run _ _ _ h8) rfl rfl ?_
   refine rn tk 7 rfl ?_
   cases hr
   exact kr tk (.inr rfl) rfl rfl
  ·
   refine rn tk 3 rfl ?_
   obtain ⟨v9, h10, hr⟩ := bind_some hr
   refine cl (fold_value_run _ _ h10) rfl rfl ?_
   refine rn tk 4 rfl ?_
   refine ac 22 hr rfl (fun c11 hr => ?_) (fun c11 hr => ?_)
   ·
    refine rn tk 2 rfl ?_
    obtain ⟨v12, h13, hr⟩ := bind_some hr
    refine cl (basic_Fault_run _ _ _ h13) rfl rfl ?_
    refine rn tk 7 rfl ?_
    cases hr
    exact kr tk (.inr rfl) rfl rfl
   ·
    refine rn tk 6 rfl ?_
    obtain ⟨v14, h15, hr⟩ := bind_some hr
    refine wc h15 rfl rfl rfl ?_
    refine rn tk 1 rfl ?_
    obtain ⟨v16, h17, hr⟩ := bind_some hr
    refine wc h17 rfl rfl rfl ?_
    refine rn tk 10 rfl ?_
    refine awpl_adopt 1008 (d := 8) 9 1 rfl rfl rfl (hO ?_)
    refine rn tk 4 rfl ?_
    refine al1 hr (fun s18 => [(5, .ptr 5 0), (6, .s s18.1), (7, .i s18.2.1), (8, .hs 1008 0)]) (fun s18 => [(1008, .row 9 false 1 (List.map cS s18.2.2)), (5, .cells [.i 0, .i 0])]) (.exit 1) (fun b19 => [(5, .ptr 5 0), (6, .s b19.1), (8, .hs 1008 0)]) (fun b19 => [(1008, .row 9 false 1 (List.map cS b19.2)), (5, .cells [.i 0, .i 0])]) rfl rfl (fun s18 x20 hr => ?_) (fun b19 hr => ?_)
    ·
     unfold fold_Fold_l1 at hr
     refine rn tk 8 rfl ?_
     refine ac 36 hr rfl (fun c21 hr => ?_) (fun c21 hr => ?_)
     ·
      refine rn tk 7 rfl ?_
      obtain ⟨v22, h23, hr⟩ := bind_some hr
      refine cl (fold_point_run _ _ _ h23) rfl rfl ?_
      refine rn tk 10 rfl ?_
      refine ac 41 hr rfl (fun c24 hr => ?_) (fun c24 hr => ?_)
      ·
       refine rn tk 3 rfl ?_
       cases hr
       exact ato rfl rfl rfl rfl
      ·
       refine rn tk 7 rfl ?_
       obtain ⟨v25, h26, hr⟩ := bind_some hr
       refine wscH tk h26 rfl rfl rfl rfl ?_
       refine wz cS ([v25] : List Str) tk rfl rfl (fun _ => rfl) rfl rfl rfl ?_
       obtain ⟨v27, h28, hr⟩ := bind_some hr
       refine wa tk h28 rfl rfl rfl rfl (fun _ => rfl) rfl rfl ?_
       refine rn tk 6 rfl ?_
       obtain ⟨v29, h30, hr⟩ := bind_some hr
       refine wscL tk h30 rfl rfl rfl rfl ?_
       refine rn tk 4 rfl ?_
       cases hr
       exact atc rfl rfl
     ·
      refine rn tk 2 rfl ?_
      cases hr
      exact ato rfl rfl rfl rfl
    ·
     refine rn tk 6 rfl ?_
     refine wz cS ([b19.1] : List Str) tk rfl rfl (fun _ => rfl) rfl rfl rfl ?_
     obtain ⟨v31, h32, hr⟩ := bind_some hr
     refine wa tk h32 rfl rfl rfl rfl (fun _ => rfl) rfl rfl ?_
     refine rn tk 7 rfl ?_
     refine wnh tk rfl rfl rfl rfl ?_
     refine rn tk 4 rfl ?_
     refine awp_pub (d := 55) (F := cS) (l := v31) rfl rfl (hC ?_)
     refine al2 hr (fun s34 => [(5, .ptr 5 0), (8, .hs 1008 0), (55, .l cS v31), (56, .i ((v31.length : Int))), (57, .i s34)]) (fun s34 => [(1008, .row 9 false 1 (List.map cS v31)), (5, .cells [.i 0, .i 0])]) (.exit 3) (fun b35 => [(5, .ptr 5 0), (8, .hs 1008 0)]) (fun b35 => [(1008, .row 9 false 1 (List.map cS v31)), (5, .cells [.i 0, .i 0])]) .ret (fun b36 => [(4, .l cS b36.1), (5, .ptr 5 0)]) (fun b36 => [(5, .cells [.i b36.2.Code, .i b36.2.Index])]) rfl rfl (fun s34 x38 hr => ?_) (fun b35 hr => ?_) (fun b36 hr => ?_)
     ·
      unfold fold_Fold_l2 at hr
      refine rn tk 6 rfl ?_
      refine ac 58 hr rfl (fun c39 hr => ?_) (fun c39 hr => ?_)
      ·
       refine rn tk 7 rfl ?_
       obtain ⟨v40, h41, hr⟩ := bind_some hr
       refine wi tk h41 rfl rfl rfl rfl rfl ?_
       refine rn tk 12 rfl ?_
       refine ac 64 hr rfl (fun c42 hr => ?_) (fun c42 hr => ?_)
       ·
        refine rn tk 3 rfl ?_
        obtain ⟨v43, h44, hr⟩ := bind_some hr
        refine cl (basic_Fault_run _ _ _ h44) rfl rfl ?_
        refine rn tk 7 rfl ?_
        cases hr
        exact ato rfl rfl rfl rfl
       ·
        refine rn tk 7 rfl ?_
        cases hr
        exact atc rfl rfl
      ·
       refine rn tk 2 rfl ?_
       cases hr
       exact ato rfl rfl rfl rfl
     ·
      refine rn tk 5 rfl ?_
      obtain ⟨v45, h46, hr⟩ := bind_some hr
      refine cl (basic_None_run _ h46) rfl rfl ?_
      refine rn tk 4 rfl ?_
      refine awp_pub (d := 4) (F := cS) (l := v31) rfl rfl (hC ?_)
      refine rn tk 1 rfl ?_
      cases hr
      exact kr tk (.inr rfl) rfl rfl
     ·
      refine rn tk 2 rfl ?_
      cases hr
      exact kr tk (.inr rfl) rfl rfl
theorem header_Validate_run (a0 : List TField) (r : TFault) (hr : header_Validate a0 = some r) : Run Tryz.prog 79 [.l TField.pc a0] (.agg [.i r.Code, .i r.Index]) := by
 unfold header_Validate at hr
 refine rf (fn := Tryz.f79) ⟨Tryz.func79, rfl, by kernel_rfl⟩ rfl (fun _ => rfl) fun g0 hg => ?_
 refine rn tk 9 rfl ?_
 refine wn tk rfl rfl rfl ?_
 refine rn tk 3 rfl ?_
 refine ac 9 hr rfl (fun c1 hr => ?_) (fun c1 hr => ?_)
 ·
  refine rn tk 2 rfl ?_
  obtain ⟨v2, h3, hr⟩ := bind_some hr
  refine cl (basic_Fault_run _ _ _ h3) rfl rfl ?_
  refine rn tk 5 rfl ?_
  cases hr
  exact kr tk (.inr rfl) rfl rfl
 ·
  refine rn tk 6 rfl ?_
  refine wn tk rfl rfl rfl ?_
  refine rn tk 4 rfl ?_
  refine al2 hr (fun s4 => [(2, .ptr 2 0), (11, .l TField.pc a0), (12, .i ((a0.length : Int))), (13, .i s4)]) (fun s4 => [(2, .cells [.i 0, .i 0])]) (.exit 0) (fun b5 => [(2, .ptr 2 0)]) (fun b5 => [(2, .cells [.i 0, .i 0])]) .ret (fun b6 => [(2, .ptr 2 0)]) (fun b6 => [(2, .cells [.i b6.Code, .i b6.Index])]) rfl rfl (fun s4 x8 hr => ?_) (fun b5 hr => ?_) (fun b6 hr => ?_)
  ·
   unfold header_Validate_l1 at hr
   refine rn tk 6 rfl ?_
   refine ac 14 hr rfl (fun c9 hr => ?_) (fun c9 hr => ?_)
   ·
    refine rn tk 7 rfl ?_
    obtain ⟨v10, h11, hr⟩ := bind_some hr
    refine wi tk h11 rfl rfl rfl rfl rfl ?_
    refine rn tk 12 rfl ?_
    obtain ⟨v12, h13, hr⟩ := bind_some hr
    refine cl (fold_Fold_run _ _ _ h13) rfl rfl ?_
    refine rn tk 11 rfl ?_
    obtain ⟨v14, h15, hr⟩ := bind_some hr
    refine cl (basic_Failed_run _ _ h15) rfl rfl ?_
    refine rn tk 2 rfl ?_
    refine ac 27 hr rfl (fun c16 hr => ?_) (fun c16 hr => ?_)
    ·
     refine rn tk 5 rfl ?_
     obtain ⟨v17, h18, hr⟩ := bind_some hr
     refine cl (basic_Fault_run _ _ _ h18) rfl rfl ?_
     refine rn tk 6 rfl ?_
     cases hr
     exact ato rfl rfl rfl rfl
    ·
     refine rn tk 7 rfl ?_
     cases hr
     exact atc rfl rfl
   ·
    refine rn tk 2 rfl ?_
    cases hr
    exact ato rfl rfl rfl rfl
  ·
   refine rn tk 4 rfl ?_
   obtain ⟨v19, h20, hr⟩ := bind_some hr
   refine cl (basic_None_run _ h20) rfl rfl ?_
   refine rn tk 4 rfl ?_
   cases hr
   exact kr tk (.inr rfl) rfl rfl
  ·
   refine rn tk 2 rfl ?_
   cases hr
   exact kr tk (.inr rfl) rfl rfl
theorem basic_Body_run (a0 : List UInt8) (r : Int) (hr : basic_Body a0 = some r) : Run Tryz.prog 115 [.l cU a0] (.i r) := by
 unfold basic_Body at hr
 refine rf (fn := Tryz.f115) ⟨Tryz.func115, rfl, by kernel_rfl⟩ rfl (fun _ => rfl) fun g0 hg => ?_
 refine rn tk 17 rfl ?_
 refine al2 hr (fun s1 => [(0, .l cU a0), (3, .i s1.1), (4, .i s1.2)]) (fun s1 => []) (.exit 0) (fun b2 => []) (fun b2 => []) .ret (fun b3 => [(2, .i b3)]) (fun b3 => []) rfl rfl (fun s1 x5 hr => ?_) (fun b2 hr => ?_) (fun b3 hr => ?_)
 ·
  unfold basic_Body_l1 at hr
  refine rn tk 5 rfl ?_
  refine wn tk rfl rfl rfl ?_
  refine rn tk 3 rfl ?_
  refine ac 9 hr rfl (fun c6 hr => ?_) (fun c6 hr => ?_)
  ·
   refine rn tk 2 rfl ?_
   refine jk (fun j7 => [(0, .l cU a0), (3, .i j7.1), (4, .i j7.2)]) (fun j7 => []) (fun j7 => basic_Body_k2  j7 = some x5) ?_ ?_
   ·
    refine rn tk 5 rfl ?_
    obtain ⟨v8, h9, hr⟩ := bind_some hr
    refine wi tk h9 rfl rfl rfl rfl rfl ?_
    refine rn tk 5 rfl ?_
    refine jb hr (fun j10 => [(0, .l cU a0), (3, .i s1.1), (4, .i s1.2), (5, .u8 v8), (32, .bo j10)]) (fun j10 => []) (fun j10 hr => ?_) (fun j10 hr => ?_)
    ·
     refine rn tk 4 rfl ?_
     refine bs 18 hr rfl (fun c11 hr => ?_) (fun c11 hr => ?_)
     ·
      refine rn tk 3 rfl ?_
      refine ug rfl rfl rfl ?_
      refine wn tk rfl rfl rfl ?_
      refine rn tk 3 rfl ?_
      refine bs 25 hr rfl (fun c12 hr => ?_) (fun c12 hr => ?_)
      ·
       refine rn tk 3 rfl ?_
       obtain ⟨v13, h14, hr⟩ := bind_some hr
       refine ug rfl rfl rfl ?_
       refine wi tk h14 rfl rfl rfl rfl rfl ?_
       refine rn tk 4 rfl ?_
       cases hr
       exact jn _ rfl rfl rfl
      ·
       refine rn tk 8 rfl ?_
       cases hr
       exact jn _ rfl rfl rfl
     ·
      refine rn tk 15 rfl ?_
      cases hr
      exact jn _ rfl rfl rfl
    ·
     refine ac 32 hr rfl (fun c15 hr => ?_) (fun c15 hr => ?_)
     ·
      refine rn tk 15 rfl ?_
      exact jn ((0, (w64 (s1.2 + 1)))) hr rfl rfl
     ·
      refine rn tk 3 rfl ?_
      refine jb hr (fun j16 => [(0, .l cU a0), (3, .i s1.1), (4, .i s1.2), (40, .bo j16)]) (fun j16 => []) (fun j16 hr => ?_) (fun j16 hr => ?_)
      ·
       refine rn tk 4 rfl ?_
       refine bs 37 hr rfl (fun c17 hr => ?_) (fun c17 hr => ?_)
       ·
        refine rn tk 4 rfl ?_
        cases hr
        exact jn _ rfl rfl rfl
       ·
        refine rn tk 4 rfl ?_
        cases hr
        exact jn _ rfl rfl rfl
      ·
       refine ac 40 hr rfl (fun c18 hr => ?_) (fun c18 hr => ?_)
       ·
        refine rn tk 9 rfl ?_
        cases hr
        exact ato rfl rfl rfl rfl
       ·
        refine rn tk 15 rfl ?_
        refine ac 44 hr rfl (fun c19 hr => ?_) (fun c19 hr => ?_)
        ·
         refine rn tk 8 rfl ?_
         cases hr
         exact ato rfl rfl rfl rfl
        ·
         refine rn tk 2 rfl ?_
         exact jn (((w64 (s1.1 + 1)), s1.2)) hr rfl rfl
   ·
    intro j7 hr
    unfold basic_Body_k2 at hr
    refine rn tk 5 rfl ?_
    cases hr
    exact atc rfl rfl
  ·
   refine rn tk 2 rfl ?_
   cases hr
   exact ato rfl rfl rfl rfl
 ·
  refine rn tk 8 rfl ?_
  cases hr
  exact kr tk (.inr rfl) rfl rfl
 ·
  refine rn tk 2 rfl ?_
  cases hr
  exact kr tk (.inr rfl) rfl rfl
theorem message_body_run (a0 : List UInt8) (r : TFault) (hr : message_body a0 = some r) : Run Tryz.prog 80 [.l cU a0] (.agg [.i r.Code, .i r.Index]) := by
 unfold message_body at hr
 refine rf (fn := Tryz.f80) ⟨Tryz.func80, rfl, by kernel_rfl⟩ rfl (fun _ => rfl) fun g0 hg => ?_
 refine rn tk 9 rfl ?_
 obtain ⟨v1, h2, hr⟩ := bind_some hr
 refine cl (basic_Body_run _ _ h2) rfl rfl ?_
 refine rn tk 9 rfl ?_
 refine ac 5 hr rfl (fun c3 hr => ?_) (fun c3 hr => ?_)
 ·
  refine rn tk 2 rfl ?_
  obtain ⟨v4, h5, hr⟩ := bind_some hr
  refine cl (basic_Fault_run _ _ _ h5) rfl rfl ?_
  refine rn tk 6 rfl ?_
  cases hr
  exact kr tk (.inr rfl) rfl rfl
 ·
  refine rn tk 6 rfl ?_
  refine ac 8 hr rfl (fun c6 hr => ?_) (fun c6 hr => ?_)
  ·
   refine rn tk 2 rfl ?_
   obtain ⟨v7, h8, hr⟩ := bind_some hr
   refine cl (basic_Fault_run _ _ _ h8) rfl rfl ?_
   refine rn tk 6 rfl ?_
   cases hr
   exact kr tk (.inr rfl) rfl rfl
  ·
   refine rn tk 5 rfl ?_
   obtain ⟨v9, h10, hr⟩ := bind_some hr
   refine cl (basic_None_run _ h10) rfl rfl ?_
   refine rn tk 4 rfl ?_
   cases hr
   exact kr tk (.inr rfl) rfl rfl
theorem message_write_run (a0 : TMessage) (r : List UInt8) (hr : message_write a0 = some r) : Run Tryz.prog 48 [.agg [.l TField.pc a0.Fields, .l cU a0.Body]] (.l cU r) := by
 unfold message_write at hr
 refine rf (fn := Tryz.f48) ⟨Tryz.func48, rfl, by kernel_rfl⟩ rfl (fun _ => rfl) fun g0 hg => ?_
 refine rn tk 9 rfl ?_
 refine awpl_adopt 1003 (d := 3) 5 1 rfl rfl rfl (hO ?_)
 refine rn tk 7 rfl ?_
 refine wn tk rfl rfl rfl ?_
 refine rn tk 4 rfl ?_
 refine al1 hr (fun s1 => [(1, .ptr 1 0), (3, .hs 1003 0), (11, .l TField.pc a0.Fields), (12, .i ((a0.Fields.length : Int))), (13, .i s1.1)]) (fun s1 => [(1003, .row 5 false 1 (List.map cU s1.2)), (1, .cells [.l TField.pc a0.Fields, .l cU a0.Body])]) (.exit 0) (fun b2 => [(1, .ptr 1 0), (3, .hs 1003 0)]) (fun b2 => [(1003, .row 5 false 1 (List.map cU b2)), (1, .cells [.l TField.pc a0.Fields, .l cU a0.Body])]) rfl rfl (fun s1 x3 hr => ?_) (fun b2 hr => ?_)
 ·
  unfold message_write_l1 at hr
  refine rn tk 6 rfl ?_
  refine ac 14 hr rfl (fun c4 hr => ?_) (fun c4 hr => ?_)
  ·
   refine rn tk 6 rfl ?_
   obtain ⟨v5, h6, hr⟩ := bind_some hr
   refine wi tk h6 rfl rfl rfl rfl rfl ?_
   refine rn tk 11 rfl ?_
   obtain ⟨v7, h8, hr⟩ := bind_some hr
   refine cl (fold_Fold_run _ _ _ h8) rfl rfl ?_
   refine rn tk 11 rfl ?_
   refine wn tk rfl rfl rfl ?_
   refine rn tk 4 rfl ?_
   refine al1 hr (fun s9 => [(1, .ptr 1 0), (3, .hs 1003 0), (11, .l TField.pc a0.Fields), (12, .i ((a0.Fields.length : Int))), (13, .i s1.1), (25, .l cS v7.1), (26, .i ((v7.1.length : Int))), (27, .i s9.1)]) (fun s9 => [(1003, .row 5 false 1 (List.map cU s9.2)), (1, .cells [.l TField.pc a0.Fields, .l cU a0.Body])]) (.exit 2) (fun b10 => [(1, .ptr 1 0), (3, .hs 1003 0), (11, .l TField.pc a0.Fields), (12, .i ((a0.Fields.length : Int))), (13, .i s1.1)]) (fun b10 => [(1003, .row 5 false 1 (List.map cU b10)), (1, .cells [.l TField.pc a0.Fields, .l cU a0.Body])]) rfl rfl (fun s9 x11 hr => ?_) (fun b10 hr => ?_)
   ·
    unfold message_write_l2 at hr
    refine rn tk 6 rfl ?_
    refine ac 28 hr rfl (fun c12 hr => ?_) (fun c12 hr => ?_)
    ·
     refine rn tk 6 rfl ?_
     obtain ⟨v13, h14, hr⟩ := bind_some hr
     refine wi tk h14 rfl rfl rfl rfl rfl ?_
     refine rn tk 7 rfl ?_
     obtain ⟨v15, h16, hr⟩ := bind_some hr
     refine wo (opTo_appends (k := 33) (l := s9.2) (s := v13) (lim := 140737488355328) rfl rfl rfl rfl ty_s_uint8 ty_string.u ty_uint8 rfl h16) rfl ?_
     refine wz cU ([(13 : UInt8), (10 : UInt8)] : List UInt8) tk rfl rfl (fun _ => rfl) rfl rfl rfl ?_
     obtain ⟨v17, h18, hr⟩ := bind_some hr
     refine wa tk h18 rfl rfl rfl rfl (fun _ => rfl) rfl rfl ?_
     refine rn tk 8 rfl ?_
     cases hr
     exact atc rfl rfl
    ·
     refine rn tk 2 rfl ?_
     cases hr
     exact ato rfl rfl rfl rfl
   ·
    refine rn tk 7 rfl ?_
    cases hr
    exact atc rfl rfl
  ·
   refine rn tk 2 rfl ?_
   cases hr
   exact ato rfl rfl rfl rfl
 ·
  refine rn tk 3 rfl ?_
  obtain ⟨v19, h20, hr⟩ := bind_some hr
  obtain ⟨v21, h22, hr⟩ := bind_some hr
  refine awp_explore [([false, false, false, false, false, false, false], [(1, .ptr 1 0), (3, .hs 1003 0)], [(1003, .row 5 false 1 (List.map cU b2)), (1, .cells [.l TField.pc a0.Fields, .l cU a0.Body])]), ([true, false, false, false, false, false, false], [(1, .ptr 1 0), (3, .hs 1003 0), (38, .hs 1003 0)], [(1003, .row 5 false 1 (List.map cU b2)), (1, .cells [.l TField.pc a0.Fields, .l cU a0.Body])]), ([false, true, false, false, false, false, false], [(1, .ptr 1 0), (3, .hs 1003 0), (39, .l cU (([(13 : UInt8), (10 : UInt8)] : List UInt8)))], [(1003, .row 5 false 1 (List.map cU b2)), (1, .cells [.l TField.pc a0.Fields, .l cU a0.Body])]), ([false, false, false, true, false, false, false], [(1, .ptr 1 0), (3, .hs 1003 0), (41, .ptr 1 1)], [(1003, .row 5 false 1 (List.map cU b2)), (1, .cells [.l TField.pc a0.Fields, .l cU a0.Body])]), ([true, true, false, false, false, false, false], [(1, .ptr 1 0), (3, .hs 1003 0), (38, .hs 1003 0), (39, .l cU (([(13 : UInt8), (10 : UInt8)] : List UInt8)))], [(1003, .row 5 false 1 (List.map cU b2)), (1, .cells [.l TField.pc a0.Fields, .l cU a0.Body])]), ([true, false, false, true, false, false, false], [(1, .ptr 1 0), (3, .hs 1003 0), (38, .hs 1003 0), (41, .ptr 1 1)], [(1003, .row 5 false 1 (List.map cU b2)), (1, .cells [.l TField.pc a0.Fields, .l cU a0.Body])]), ([false, true, false, true, false, false, false], [(1, .ptr 1 0), (3, .hs 1003 0), (39, .l cU (([(13 : UInt8), (10 : UInt8)] : List UInt8))), (41, .ptr 1 1)], [(1003, .row 5 false 1 (List.map cU b2)), (1, .cells [.l TField.pc a0.Fields, .l cU a0.Body])]), ([false, false, false, true, true, false, false], [(1, .ptr 1 0), (3, .hs 1003 0), (41, .ptr 1 1), (42, .l cU a0.Body)], [(1003, .row 5 false 1 (List.map cU b2)), (1, .cells [.l TField.pc a0.Fields, .l cU a0.Body])]), ([true, true, true, false, false, false, false], [(1, .ptr 1 0), (39, .l cU (([(13 : UInt8), (10 : UInt8)] : List UInt8))), (40, .hs 1003 0)], [(1003, .row 5 false 1 (List.map cU v19)), (1, .cells [.l TField.pc a0.Fields, .l cU a0.Body])]), ([true, true, false, true, false, false, false], [(1, .ptr 1 0), (3, .hs 1003 0), (38, .hs 1003 0), (39, .l cU (([(13 : UInt8), (10 : UInt8)] : List UInt8))), (41, .ptr 1 1)], [(1003, .row 5 false 1 (List.map cU b2)), (1, .cells [.l TField.pc a0.Fields, .l cU a0.Body])]), ([true, false, false, true, true, false, false], [(1, .ptr 1 0), (3, .hs 1003 0), (38, .hs 1003 0), (41, .ptr 1 1), (42, .l cU a0.Body)], [(1003, .row 5 false 1 (List.map cU b2)), (1, .cells [.l TField.pc a0.Fields, .l cU a0.Body])]), ([false, true, false, true, true, false, false], [(1, .ptr 1 0), (3, .hs 1003 0), (39, .l cU (([(13 : UInt8), (10 : UInt8)] : List UInt8))), (41, .ptr 1 1), (42, .l cU a0.Body)], [(1003, .row 5 false 1 (List.map cU b2)), (1, .cells [.l TField.pc a0.Fields, .l cU a0.Body])]), ([true, true, true, true, false, false, false], [(1, .ptr 1 0), (39, .l cU (([(13 : UInt8), (10 : UInt8)] : List UInt8))), (40, .hs 1003 0), (41, .ptr 1 1)], [(1003, .row 5 false 1 (List.map cU v19)), (1, .cells [.l TField.pc a0.Fields, .l cU a0.Body])]), ([true, true, false, true, true, false, false], [(1, .ptr 1 0), (3, .hs 1003 0), (38, .hs 1003 0), (39, .l cU (([(13 : UInt8), (10 : UInt8)] : List UInt8))), (41, .ptr 1 1), (42, .l cU a0.Body)], [(1003, .row 5 false 1 (List.map cU b2)), (1, .cells [.l TField.pc a0.Fields, .l cU a0.Body])]), ([true, true, true, true, true, false, false], [(1, .ptr 1 0), (39, .l cU (([(13 : UInt8), (10 : UInt8)] : List UInt8))), (40, .hs 1003 0), (41, .ptr 1 1), (42, .l cU a0.Body)], [(1003, .row 5 false 1 (List.map cU v19)), (1, .cells [.l TField.pc a0.Fields, .l cU a0.Body])]), ([true, true, true, true, true, true, false], [(1, .ptr 1 0), (39, .l cU (([(13 : UInt8), (10 : UInt8)] : List UInt8))), (41, .ptr 1 1), (42, .l cU a0.Body), (43, .hs 1003 0)], [(1003, .row 5 false 1 (List.map cU v21)), (1, .cells [.l TField.pc a0.Fields, .l cU a0.Body])]), ([true, true, true, true, true, true, true], [(1, .ptr 1 0), (2, .hs 1003 0), (39, .l cU (([(13 : UInt8), (10 : UInt8)] : List UInt8))), (41, .ptr 1 1), (42, .l cU a0.Body), (43, .hs 1003 0)], [(1003, .row 5 false 1 (List.map cU v21)), (1, .cells [.l TField.pc a0.Fields, .l cU a0.Body])])] mixed (by kernel_rfl) rfl rfl (frLe_cons rfl (frLe_cons rfl frLe_nil)) (stoLe_cons rfl (stoLe_cons rfl stoLe_nil)) (.cons (.step [0, 1, 3] (by kernel_rfl) rfl (.cons (.yes 1 rfl (wanted_plain rfl) (opTo_q (d := 38) rfl rfl ev_move) rfl (frLe_cons rfl (frLe_cons rfl (frLe_cons rfl frLe_nil))) (stoLe_cons rfl (stoLe_cons rfl stoLe_nil))) (.cons (.yes 2 rfl (wanted_plain rfl) (opTo_g (d := 39) rfl rfl (opG_lit (F := cU) (l := ([(13 : UInt8), (10 : UInt8)] : List UInt8)) ty_s_uint8 ty_uint8 rfl (fun _ => rfl) rfl rfl)) rfl (frLe_cons rfl (frLe_cons rfl (frLe_cons rfl frLe_nil))) (stoLe_cons rfl (stoLe_cons rfl stoLe_nil))) (.cons (.yes 3 rfl (wanted_plain rfl) (opTo_q (d := 41) rfl rfl (ev_fieldAddr rfl ty_api_Message.u rfl ty_s_uint8 rfl)) rfl (frLe_cons rfl (frLe_cons rfl (frLe_cons rfl frLe_nil))) (stoLe_cons rfl (stoLe_cons rfl stoLe_nil))) .nil)))) (.cons (.step [1, 3] (by kernel_rfl) rfl (.cons (.yes 4 rfl (wanted_plain rfl) (opTo_g (d := 39) rfl rfl (opG_lit (F := cU) (l := ([(13 : UInt8), (10 : UInt8)] : List UInt8)) ty_s_uint8 ty_uint8 rfl (fun _ => rfl) rfl rfl)) rfl (frLe_cons rfl (frLe_cons rfl (frLe_cons rfl (frLe_cons rfl frLe_nil)))) (stoLe_cons rfl (stoLe_cons rfl stoLe_nil))) (.cons (.yes 5 rfl (wanted_plain rfl) (opTo_q (d := 41) rfl rfl (ev_fieldAddr rfl ty_api_Message.u rfl ty_s_uint8 rfl)) rfl (frLe_cons rfl (frLe_cons rfl (frLe_cons rfl (frLe_cons rfl frLe_nil)))) (stoLe_cons rfl (stoLe_cons rfl stoLe_nil))) .nil))) (.cons (.step [0, 3] (by kernel_rfl) rfl (.cons (.yes 4 rfl (wanted_plain rfl) (opTo_q (d := 38) rfl rfl ev_move) rfl (frLe_cons rfl (frLe_cons rfl (frLe_cons rfl (frLe_cons rfl frLe_nil)))) (stoLe_cons rfl (stoLe_cons rfl stoLe_nil))) (.cons (.yes 6 rfl (wanted_plain rfl) (opTo_q (d := 41) rfl rfl (ev_fieldAddr rfl ty_api_Message.u rfl ty_s_uint8 rfl)) rfl (frLe_cons rfl (frLe_cons rfl (frLe_cons rfl (frLe_cons rfl frLe_nil)))) (stoLe_cons rfl (stoLe_cons rfl stoLe_nil))) .nil))) (.cons (.step [0, 1, 4] (by kernel_rfl) rfl (.cons (.yes 5 rfl (wanted_plain rfl) (opTo_q (d := 38) rfl rfl ev_move) rfl (frLe_cons rfl (frLe_cons rfl (frLe_cons rfl (frLe_cons rfl frLe_nil)))) (stoLe_cons rfl (stoLe_cons rfl stoLe_nil))) (.cons (.yes 6 rfl (wanted_plain rfl) (opTo_g (d := 39) rfl rfl (opG_lit (F := cU) (l := ([(13 : UInt8), (10 : UInt8)] : List UInt8)) ty_s_uint8 ty_uint8 rfl (fun _ => rfl) rfl rfl)) rfl (frLe_cons rfl (frLe_cons rfl (frLe_cons rfl (frLe_cons rfl frLe_nil)))) (stoLe_cons rfl (stoLe_cons rfl stoLe_nil))) (.cons (.yes 7 rfl (wanted_plain rfl) (opTo_q (d := 42) rfl rfl (ev_load rfl rfl ty_s_uint8 rfl rfl)) rfl (frLe_cons rfl (frLe_cons rfl (frLe_cons rfl (frLe_cons rfl frLe_nil)))) (stoLe_cons rfl (stoLe_cons rfl stoLe_nil))) .nil)))) (.cons (.step [2, 3] (by kernel_rfl) rfl (.cons (.yes 8 rfl (wanted_plain rfl) (opTo_append (k := 40) (F := cU) (l := b2) (xs := (([(13 : UInt8), (10 : UInt8)] : List UInt8))) (lim := 140737488355328) rfl rfl rfl rfl ty_s_uint8 ty_uint8 rfl rfl (fun _ => rfl) rfl h20) rfl (frLe_cons rfl (frLe_cons rfl (frLe_cons rfl frLe_nil))) (stoLe_cons rfl (stoLe_cons rfl stoLe_nil))) (.cons (.yes 9 rfl (wanted_plain rfl) (opTo_q (d := 41) rfl rfl (ev_fieldAddr rfl ty_api_Message.u rfl ty_s_uint8 rfl)) rfl (frLe_cons rfl (frLe_cons rfl (frLe_cons rfl (frLe_cons rfl (frLe_cons rfl frLe_nil))))) (stoLe_cons rfl (stoLe_cons rfl stoLe_nil))) .nil))) (.cons (.step [1, 4] (by kernel_rfl) rfl (.cons (.yes 9 rfl (wanted_plain rfl) (opTo_g (d := 39) rfl rfl (opG_lit (F := cU) (l := ([(13 : UInt8), (10 : UInt8)] : List UInt8)) ty_s_uint8 ty_uint8 rfl (fun _ => rfl) rfl rfl)) rfl (frLe_cons rfl (frLe_cons rfl (frLe_cons rfl (frLe_cons rfl (frLe_cons rfl frLe_nil))))) (stoLe_cons rfl (stoLe_cons rfl stoLe_nil))) (.cons (.yes 10 rfl (wanted_plain rfl) (opTo_q (d := 42) rfl rfl (ev_load rfl rfl ty_s_uint8 rfl rfl)) rfl (frLe_cons rfl (frLe_cons rfl (frLe_cons rfl (frLe_cons rfl (frLe_cons rfl frLe_nil))))) (stoLe_cons rfl (stoLe_cons rfl stoLe_nil))) .nil))) (.cons (.step [0, 4] (by kernel_rfl) rfl (.cons (.yes 9 rfl (wanted_plain rfl) (opTo_q (d := 38) rfl rfl ev_move) rfl (frLe_cons rfl (frLe_cons rfl (frLe_cons rfl (frLe_cons rfl (frLe_cons rfl frLe_nil))))) (stoLe_cons rfl (stoLe_cons rfl stoLe_nil))) (.cons (.yes 11 rfl (wanted_plain rfl) (opTo_q (d := 42) rfl rfl (ev_load rfl rfl ty_s_uint8 rfl rfl)) rfl (frLe_cons rfl (frLe_cons rfl (frLe_cons rfl (frLe_cons rfl (frLe_cons rfl frLe_nil))))) (stoLe_cons rfl (stoLe_cons rfl stoLe_nil))) .nil))) (.cons (.step [0, 1] (by kernel_rfl) rfl (.cons (.yes 10 rfl (wanted_plain rfl) (opTo_q (d := 38) rfl rfl ev_move) rfl (frLe_cons rfl (frLe_cons rfl (frLe_cons rfl (frLe_cons rfl (frLe_cons rfl frLe_nil))))) (stoLe_cons rfl (stoLe_cons rfl stoLe_nil))) (.cons (.yes 11 rfl (wanted_plain rfl) (opTo_g (d := 39) rfl rfl (opG_lit (F := cU) (l := ([(13 : UInt8), (10 : UInt8)] : List UInt8)) ty_s_uint8 ty_uint8 rfl (fun _ => rfl) rfl rfl)) rfl (frLe_cons rfl (frLe_cons rfl (frLe_cons rfl (frLe_cons rfl (frLe_cons rfl frLe_nil))))) (stoLe_cons rfl (stoLe_cons rfl stoLe_nil))) .nil))) (.cons (.step [3] (by kernel_rfl) rfl (.cons (.yes 12 rfl (wanted_plain rfl) (opTo_q (d := 41) rfl rfl (ev_fieldAddr rfl ty_api_Message.u rfl ty_s_uint8 rfl)) rfl (frLe_cons rfl (frLe_cons rfl (frLe_cons rfl (frLe_cons rfl frLe_nil)))) (stoLe_cons rfl (stoLe_cons rfl stoLe_nil))) .nil)) (.cons (.step [2, 4] (by kernel_rfl) rfl (.cons (.yes 12 rfl (wanted_plain rfl) (opTo_append (k := 40) (F := cU) (l := b2) (xs := (([(13 : UInt8), (10 : UInt8)] : List UInt8))) (lim := 140737488355328) rfl rfl rfl rfl ty_s_uint8 ty_uint8 rfl rfl (fun _ => rfl) rfl h20) rfl (frLe_cons rfl (frLe_cons rfl (frLe_cons rfl (frLe_cons rfl frLe_nil)))) (stoLe_cons rfl (stoLe_cons rfl stoLe_nil))) (.cons (.yes 13 rfl (wanted_plain rfl) (opTo_q (d := 42) rfl rfl (ev_load rfl rfl ty_s_uint8 rfl rfl)) rfl (frLe_cons rfl (frLe_cons rfl (frLe_cons rfl (frLe_cons rfl (frLe_cons rfl (frLe_cons rfl frLe_nil)))))) (stoLe_cons rfl (stoLe_cons rfl stoLe_nil))) .nil))) (.cons (.step [1] (by kernel_rfl) rfl (.cons (.yes 13 rfl (wanted_plain rfl) (opTo_g (d := 39) rfl rfl (opG_lit (F := cU) (l := ([(13 : UInt8), (10 : UInt8)] : List UInt8)) ty_s_uint8 ty_uint8 rfl (fun _ => rfl) rfl rfl)) rfl (frLe_cons rfl (frLe_cons rfl (frLe_cons rfl (frLe_cons rfl (frLe_cons rfl (frLe_cons rfl frLe_nil)))))) (stoLe_cons rfl (stoLe_cons rfl stoLe_nil))) .nil)) (.cons (.step [0] (by kernel_rfl) rfl (.cons (.yes 13 rfl (wanted_plain rfl) (opTo_q (d := 38) rfl rfl ev_move) rfl (frLe_cons rfl (frLe_cons rfl (frLe_cons rfl (frLe_cons rfl (frLe_cons rfl (frLe_cons rfl frLe_nil)))))) (stoLe_cons rfl (stoLe_cons rfl stoLe_nil))) .nil)) (.cons (.step [4] (by kernel_rfl) rfl (.cons (.yes 14 rfl (wanted_plain rfl) (opTo_q (d := 42) rfl rfl (ev_load rfl rfl ty_s_uint8 rfl rfl)) rfl (frLe_cons rfl (frLe_cons rfl (frLe_cons rfl (frLe_cons rfl (frLe_cons rfl frLe_nil))))) (stoLe_cons rfl (stoLe_cons rfl stoLe_nil))) .nil)) (.cons (.step [2] (by kernel_rfl) rfl (.cons (.yes 14 rfl (wanted_plain rfl) (opTo_append (k := 40) (F := cU) (l := b2) (xs := (([(13 : UInt8), (10 : UInt8)] : List UInt8))) (lim := 140737488355328) rfl rfl rfl rfl ty_s_uint8 ty_uint8 rfl rfl (fun _ => rfl) rfl h20) rfl (frLe_cons rfl (frLe_cons rfl (frLe_cons rfl (frLe_cons rfl (frLe_cons rfl frLe_nil))))) (stoLe_cons rfl (stoLe_cons rfl stoLe_nil))) .nil)) (.cons (.step [5] (by kernel_rfl) rfl (.cons (.yes 15 rfl (wanted_plain rfl) (opTo_append (k := 43) (F := cU) (l := v19) (xs := a0.Body) (lim := 140737488355328) rfl rfl rfl rfl ty_s_uint8 ty_uint8 rfl rfl (fun _ => rfl) rfl h22) rfl (frLe_cons rfl (frLe_cons rfl (frLe_cons rfl (frLe_cons rfl (frLe_cons rfl frLe_nil))))) (stoLe_cons rfl (stoLe_cons rfl stoLe_nil))) .nil)) (.cons (.step [6] (by kernel_rfl) rfl (.cons (.yes 16 rfl (wanted_plain rfl) (opTo_q (d := 2) rfl rfl ev_assign) rfl (frLe_cons rfl (frLe_cons rfl (frLe_cons rfl (frLe_cons rfl (frLe_cons rfl (frLe_cons rfl frLe_nil)))))) (stoLe_cons rfl (stoLe_cons rfl stoLe_nil))) .nil)) (.cons (.full (by kernel_rfl) (hA ?_)) .nil)))))))))))))))))
  refine rn tk 1 rfl ?_
  refine awp_pub (d := 2) (F := cU) (l := v21) rfl rfl (hC ?_)
  refine rn tk 1 rfl ?_
  cases hr
  exact kr tk (.inr rfl) rfl rfl
theorem message_Validate_run (a0 : TMessage) (r : TFault) (hr : message_Validate a0 = some r) : Run Tryz.prog 42 [.agg [.l TField.pc a0.Fields, .l cU a0.Body]] (.agg [.i r.Code, .i r.Index]) := by
 unfold message_Validate at hr
 refine rf (fn := Tryz.f42) ⟨Tryz.func42, rfl, by kernel_rfl⟩ rfl (fun _ => rfl) fun g0 hg => ?_
 refine rn tk 11 rfl ?_
 obtain ⟨v1, h2, hr⟩ := bind_some hr
 refine cl (header_Validate_run _ _ h2) rfl rfl ?_
 refine rn tk 7 rfl ?_
 obtain ⟨v3, h4, hr⟩ := bind_some hr
 refine cl (basic_Failed_run _ _ h4) rfl rfl ?_
 refine rn tk 2 rfl ?_
 refine ac 8 hr rfl (fun c5 hr => ?_) (fun c5 hr => ?_)
 ·
  refine rn tk 8 rfl ?_
  cases hr
  exact kr tk (.inr rfl) rfl rfl
 ·
  refine rn tk 6 rfl ?_
  obtain ⟨v6, h7, hr⟩ := bind_some hr
  refine cl (message_write_run _ _ h7) rfl rfl ?_
  refine wn tk rfl rfl rfl ?_
  refine rn tk 3 rfl ?_
  refine ac 13 hr rfl (fun c8 hr => ?_) (fun c8 hr => ?_)
  ·
   refine rn tk 2 rfl ?_
   obtain ⟨v9, h10, hr⟩ := bind_some hr
   refine cl (basic_Fault_run _ _ _ h10) rfl rfl ?_
   refine rn tk 5 rfl ?_
   cases hr
   exact kr tk (.inr rfl) rfl rfl
  ·
   refine rn tk 6 rfl ?_
   obtain ⟨v11, h12, hr⟩ := bind_some hr
   refine cl (message_body_run _ _ h12) rfl rfl ?_
   refine rn tk 4 rfl ?_
   cases hr
   exact kr tk (.inr rfl) rfl rfl
theorem envelope_Check_run (a0 : TMail) (r : TFault) (hr : envelope_Check a0 = some r) : Run Tryz.prog 19 [.agg [.s a0.Envelope.From, .l TRecipient.pc a0.Envelope.To, .s a0.Envelope.Id, .l TField.pc a0.Message.Fields, .l cU a0.Message.Body]] (.agg [.i r.Code, .i r.Index]) := by
 unfold envelope_Check at hr
 refine rf (fn := Tryz.f19) ⟨Tryz.func19, rfl, by kernel_rfl⟩ rfl (fun _ => rfl) fun g0 hg => ?_
 refine rn tk 11 rfl ?_
 obtain ⟨v1, h2, hr⟩ := bind_some hr
 refine cl (envelope_Validate_run _ _ h2) rfl rfl ?_
 refine rn tk 7 rfl ?_
 obtain ⟨v3, h4, hr⟩ := bind_some hr
 refine cl (basic_Failed_run _ _ h4) rfl rfl ?_
 refine rn tk 2 rfl ?_
 refine ac 9 hr rfl (fun c5 hr => ?_) (fun c5 hr => ?_)
 ·
  refine rn tk 8 rfl ?_
  cases hr
  exact kr tk (.inr rfl) rfl rfl
 ·
  refine rn tk 7 rfl ?_
  obtain ⟨v6, h7, hr⟩ := bind_some hr
  refine cl (message_Validate_run _ _ h7) rfl rfl ?_
  refine rn tk 7 rfl ?_
  obtain ⟨v8, h9, hr⟩ := bind_some hr
  refine cl (basic_Failed_run _ _ h9) rfl rfl ?_
  refine rn tk 2 rfl ?_
  refine ac 15 hr rfl (fun c10 hr => ?_) (fun c10 hr => ?_)
  ·
   refine rn tk 4 rfl ?_
   obtain ⟨v11, h12, hr⟩ := bind_some hr
   refine cl (basic_Fault_run _ _ _ h12) rfl rfl ?_
   refine rn tk 5 rfl ?_
   cases hr
   exact kr tk (.inr rfl) rfl rfl
  ·
   refine rn tk 4 rfl ?_
   obtain ⟨v13, h14, hr⟩ := bind_some hr
   refine cl (basic_None_run _ h14) rfl rfl ?_
   refine rn tk 4 rfl ?_
   cases hr
   exact kr tk (.inr rfl) rfl rfl
theorem basic_Time_run (a0 : Int) (r : Bool) (hr : basic_Time a0 = some r) : Run Tryz.prog 56 [.i a0] (.bo r) := by
  unfold basic_Time at hr
  refine run_of_awp (fn := Tryz.f56) ⟨Tryz.func56, rfl, by kernel_rfl⟩ rfl (fun _ => rfl) fun g0 hg => ?_
  refine awp_seq ?_
  refine awp_region ?_
  refine awpl_op rfl (opTo_q (d := 2) rfl rfl ev_assign) ?_
  refine awpl_nil ?_
  refine kthen_normal ?_
  obtain ⟨j1, hx, hy⟩ := bind_some hr
  refine awp_join (fun j1 => [(2, .bo j1)]) (fun j1 => []) (fun z => j1 = z) ?_ ?_
  · have hr := hx
    clear hx hy
    refine awp_region ?_
    refine awpl_op rfl (opTo_q (d := 3) rfl rfl ev_move) ?_
    refine awpl_op rfl (opTo_q (d := 4) rfl rfl (ev_geq rfl rfl)) ?_
    refine awpl_op rfl (opTo_q (d := 5) rfl rfl ev_move) ?_
    refine bool_split (decide ((-68719476736) ≤ a0)) (fun c2 => ?_) (fun c2 => ?_)
    · replace hr := cond_t c2 hr
      refine awpl_yes (d := 5) rfl rfl rfl c2 (opTo_q (d := 6) rfl rfl ev_move) ?_
      refine awpl_yes (d := 5) rfl rfl rfl c2 (opTo_q (d := 7) rfl rfl (ev_leq rfl rfl)) ?_
      refine awpl_op rfl (opTo_q (d := 8) rfl rfl (ev_pick_t rfl c2)) ?_
      refine awpl_op rfl (opTo_q (d := 2) rfl rfl ev_assign) ?_
      refine awpl_nil ?_
      cases hr
      exact joinK_normal _ rfl (frLe_cons rfl frLe_nil) stoLe_nil
    · replace hr := cond_f c2 hr
      refine awpl_no (d := 5) rfl rfl rfl c2 ?_
      refine awpl_no (d := 5) rfl rfl rfl c2 ?_
      refine awpl_op rfl (opTo_q (d := 8) rfl rfl (ev_pick_f rfl c2)) ?_
      refine awpl_op rfl (opTo_q (d := 2) rfl rfl ev_assign) ?_
      refine awpl_nil ?_
      cases hr
      exact joinK_normal _ rfl (frLe_cons rfl frLe_nil) stoLe_nil
  · rintro _ rfl
    have hr := hy
    clear hx hy
    refine awp_ret ?_
    cases hr
    exact kret' rfl (.cons (res_tmp rfl) .nil) rfl
theorem dates_before_run (a0 : Int) (r : Int) (hr : dates_before a0 = some r) : Run Tryz.prog 96 [.i a0] (.i r) := by
 unfold dates_before at hr
 refine rf (fn := Tryz.f96) ⟨Tryz.func96, rfl, by kernel_rfl⟩ rfl (fun _ => rfl) fun g0 hg => ?_
 refine rn tk 17 rfl ?_
 refine wq (ev_iquo rfl rfl rfl) rfl rfl rfl ?_
 refine rn tk 2 rfl ?_
 refine wq (ev_iquo rfl rfl rfl) rfl rfl rfl ?_
 refine rn tk 2 rfl ?_
 refine wq (ev_iquo rfl rfl rfl) rfl rfl rfl ?_
 refine rn tk 5 rfl ?_
 cases hr
 exact kr tk (.inr rfl) rfl rfl
theorem dates_leap_run (a0 : Int) (r : Bool) (hr : dates_leap a0 = some r) : Run Tryz.prog 139 [.i a0] (.bo r) := by
 unfold dates_leap at hr
 refine rf (fn := Tryz.f139) ⟨Tryz.func139, rfl, by kernel_rfl⟩ rfl (fun _ => rfl) fun g0 hg => ?_
 refine rn tk 5 rfl ?_
 refine jb hr (fun j1 => [(2, .bo j1)]) (fun j1 => []) (fun j1 hr => ?_) (fun j1 hr => ?_)
 ·
  refine rn tk 2 rfl ?_
  refine wq (ev_irem rfl rfl rfl) rfl rfl rfl ?_
  refine rn tk 2 rfl ?_
  refine bs 6 hr rfl (fun c2 hr => ?_) (fun c2 hr => ?_)
  ·
   refine rn tk 1 rfl ?_
   refine ug rfl rfl rfl ?_
   refine wq (ev_irem rfl rfl rfl) rfl rfl rfl ?_
   refine rn tk 2 rfl ?_
   refine bs 10 hr rfl (fun c3 hr => ?_) (fun c3 hr => ?_)
   ·
    refine rn tk 7 rfl ?_
    cases hr
    exact jn _ rfl rfl rfl
   ·
    refine rn tk 1 rfl ?_
    refine ug rfl rfl rfl ?_
    refine wq (ev_irem rfl rfl rfl) rfl rfl rfl ?_
    refine rn tk 5 rfl ?_
    cases hr
    exact jn _ rfl rfl rfl
  ·
   refine rn tk 11 rfl ?_
   cases hr
   exact jn _ rfl rfl rfl
 ·
  refine rn tk 1 rfl ?_
  cases hr
  exact kr tk (.inr rfl) rfl rfl
theorem dates_length_run (a0 : Int) (a1 : Int) (r : Int) (hr : dates_length a0 a1 = some r) : Run Tryz.prog 97 [.i a0, .i a1] (.i r) := by
 unfold dates_length at hr
 refine rf (fn := Tryz.f97) ⟨Tryz.func97, rfl, by kernel_rfl⟩ rfl (fun _ => rfl) fun g0 hg => ?_
 refine rn tk 7 rfl ?_
 refine wq (ev_buildA (cs := [.i 31, .i 28, .i 31, .i 30, .i 31, .i 30, .i 31, .i 31, .i 30, .i 31, .i 30, .i 31]) ty__12_int ty_int (.inr ⟨rfl, rfl⟩) (by kernel_rfl)) rfl rfl rfl ?_
 refine rn tk 2 rfl ?_
 obtain ⟨v1, h2, hr⟩ := bind_some hr
 refine wq (ev_aidx (f := cI) (L := ([31, 28, 31, 30, 31, 30, 31, 31, 30, 31, 30, 31] : List Int)) rfl rfl ty__12_int ty_int rfl rfl (fun _ => rfl) h2 rfl) rfl rfl rfl ?_
 refine rn tk 3 rfl ?_
 refine jb hr (fun j3 => [(5, .i j3)]) (fun j3 => []) (fun j3 hr => ?_) (fun j3 hr => ?_)
 ·
  refine jb hr (fun j4 => [(5, .i v1), (15, .bo j4)]) (fun j4 => []) (fun j4 hr => ?_) (fun j4 hr => ?_)
  ·
   refine rn tk 4 rfl ?_
   refine bs 12 hr rfl (fun c5 hr => ?_) (fun c5 hr => ?_)
   ·
    refine rn tk 1 rfl ?_
    obtain ⟨v6, h7, hr⟩ := bind_some hr
    refine ug rfl rfl rfl ?_
    refine cl (dates_leap_run _ _ h7) rfl rfl ?_
    refine rn tk 2 rfl ?_
    cases hr
    exact jn _ rfl rfl rfl
   ·
    refine rn tk 4 rfl ?_
    cases hr
    exact jn _ rfl rfl rfl
  ·
   refine ac 15 hr rfl (fun c8 hr => ?_) (fun c8 hr => ?_)
   ·
    refine rn tk 5 rfl ?_
    cases hr
    exact jn _ rfl rfl rfl
   ·
    refine rn tk 1 rfl ?_
    cases hr
    exact jn _ rfl rfl rfl
 ·
  refine rn tk 7 rfl ?_
  cases hr
  exact kr tk (.inr rfl) rfl rfl
theorem dates_day_run (a0 : Int) (a1 : Int) (a2 : Int) (r : Int) (hr : dates_day a0 a1 a2 = some r) : Run Tryz.prog 59 [.i a0, .i a1, .i a2] (.i r) := by
 unfold dates_day at hr
 refine rf (fn := Tryz.f59) ⟨Tryz.func59, rfl, by kernel_rfl⟩ rfl (fun _ => rfl) fun g0 hg => ?_
 refine rn tk 8 rfl ?_
 obtain ⟨v1, h2, hr⟩ := bind_some hr
 refine cl (dates_before_run _ _ h2) rfl rfl ?_
 obtain ⟨v3, h4, hr⟩ := bind_some hr
 refine cl (dates_before_run _ _ h4) rfl rfl ?_
 refine rn tk 14 rfl ?_
 refine al1 hr (fun s5 => [(0, .i a0), (1, .i a1), (7, .i s5.1), (8, .i s5.2)]) (fun s5 => []) (.exit 0) (fun b6 => [(7, .i b6)]) (fun b6 => []) rfl rfl (fun s5 x7 hr => ?_) (fun b6 hr => ?_)
 ·
  unfold dates_day_l1 at hr
  refine rn tk 8 rfl ?_
  refine ac 18 hr rfl (fun c8 hr => ?_) (fun c8 hr => ?_)
  ·
   refine rn tk 8 rfl ?_
   obtain ⟨v9, h10, hr⟩ := bind_some hr
   refine cl (dates_length_run _ _ _ h10) rfl rfl ?_
   refine rn tk 10 rfl ?_
   cases hr
   exact atc rfl rfl
  ·
   refine rn tk 2 rfl ?_
   cases hr
   exact ato rfl rfl rfl rfl
 ·
  refine rn tk 9 rfl ?_
  cases hr
  exact kr tk (.inr rfl) rfl rfl
theorem dates_split_run (a0 : Int) (a1 : Int) (r : Int × Int) (hr : dates_split a0 a1 = some r) : Run Tryz.prog 58 [.i a0, .i a1] (.tup [.i r.1, .i r.2]) := by
 unfold dates_split at hr
 refine rf (fn := Tryz.f58) ⟨Tryz.func58, rfl, by kernel_rfl⟩ rfl (fun _ => rfl) fun g0 hg => ?_
 refine rn tk 10 rfl ?_
 obtain ⟨v1, h2, hr⟩ := bind_some hr
 refine wq (ev_irem rfl rfl (nz_spec h2)) rfl rfl rfl ?_
 refine rn tk 3 rfl ?_
 obtain ⟨v3, h4, hr⟩ := bind_some hr
 refine wq (ev_irem rfl rfl (nz_spec h4)) rfl rfl rfl ?_
 refine rn tk 9 rfl ?_
 obtain ⟨v5, h6, hr⟩ := bind_some hr
 refine wq (ev_iquo rfl rfl (nz_spec h6)) rfl rfl rfl ?_
 refine rn tk 6 rfl ?_
 cases hr
 exact kr tk (.inr rfl) rfl rfl
theorem dates_within_run (a0 : Int) (a1 : Int) (a2 : Int) (r : Bool) (hr : dates_within a0 a1 a2 = some r) : Run Tryz.prog 57 [.i a0, .i a1, .i a2] (.bo r) := by
 unfold dates_within at hr
 refine rf (fn := Tryz.f57) ⟨Tryz.func57, rfl, by kernel_rfl⟩ rfl (fun _ => rfl) fun g0 hg => ?_
 refine rn tk 5 rfl ?_
 refine jb hr (fun j1 => [(6, .bo j1)]) (fun j1 => []) (fun j1 hr => ?_) (fun j1 hr => ?_)
 ·
  refine rn tk 5 rfl ?_
  refine bs 10 hr rfl (fun c2 hr => ?_) (fun c2 hr => ?_)
  ·
   refine rn tk 6 rfl ?_
   cases hr
   exact jn _ rfl rfl rfl
  ·
   refine rn tk 6 rfl ?_
   cases hr
   exact jn _ rfl rfl rfl
 ·
  refine rn tk 1 rfl ?_
  cases hr
  exact kr tk (.inr rfl) rfl rfl
theorem dates_Civil_run (a0 : Int) (a1 : Int) (r : TDate × TFault) (hr : dates_Civil a0 a1 = some r) : Run Tryz.prog 25 [.i a0, .i a1] (.tup [.agg [.i r.1.Year, .i r.1.Month, .i r.1.Day, .i r.1.Hour, .i r.1.Minute, .i r.1.Second, .i r.1.Zone], .agg [.i r.2.Code, .i r.2.Index]]) := by
 unfold dates_Civil at hr
 refine rf (fn := Tryz.f25) ⟨Tryz.func25, rfl, by kernel_rfl⟩ rfl (fun _ => rfl) fun g0 hg => ?_
 refine rn tk 10 rfl ?_
 obtain ⟨v1, h2, hr⟩ := bind_some hr
 refine cl (basic_Time_run _ _ h2) rfl rfl ?_
 refine rn tk 3 rfl ?_
 refine ac 13 hr rfl (fun c3 hr => ?_) (fun c3 hr => ?_)
 ·
  refine rn tk 3 rfl ?_
  obtain ⟨v4, h5, hr⟩ := bind_some hr
  refine cl (basic_Fault_run _ _ _ h5) rfl rfl ?_
  refine rn tk 6 rfl ?_
  cases hr
  exact kr tk (.inr rfl) rfl rfl
 ·
  refine rn tk 6 rfl ?_
  obtain ⟨v6, h7, hr⟩ := bind_some hr
  refine cl (dates_within_run _ _ _ _ h7) rfl rfl ?_
  refine rn tk 3 rfl ?_
  refine ac 18 hr rfl (fun c8 hr => ?_) (fun c8 hr => ?_)
  ·
   refine rn tk 3 rfl ?_
   obtain ⟨v9, h10, hr⟩ := bind_some hr
   refine cl (basic_Fault_run _ _ _ h10) rfl rfl ?_
   refine rn tk 6 rfl ?_
   cases hr
   exact kr tk (.inr rfl) rfl rfl
  ·
   refine rn tk 8 rfl ?_
   obtain ⟨v11, h12, hr⟩ := bind_some hr
   refine cl (dates_split_run _ _ _ h12) rfl rfl ?_
   refine rn tk 8 rfl ?_
   refine jb hr (fun j13 => [(1, .i a1), (4, .ptr 4 0), (5, .ptr 5 0), (6, .i v11.1), (7, .i v11.2), (36, .bo j13)]) (fun j13 => [(5, .cells [.i 0, .i 0]), (4, .cells [.i 0, .i 0, .i 0, .i 0, .i 0, .i 0, .i 0])]) (fun j13 hr => ?_) (fun j13 hr => ?_)
   ·
    refine rn tk 2 rfl ?_
    obtain ⟨v14, h15, hr⟩ := bind_some hr
    refine cl (dates_day_run _ _ _ _ h15) rfl rfl ?_
    refine rn tk 2 rfl ?_
    refine bs 32 hr rfl (fun c16 hr => ?_) (fun c16 hr => ?_)
    ·
     refine rn tk 5 rfl ?_
     cases hr
     exact jn _ rfl rfl rfl
    ·
     refine rn tk 1 rfl ?_
     obtain ⟨v17, h18, hr⟩ := bind_some hr
     refine ug rfl rfl rfl ?_
     refine cl (dates_day_run _ _ _ _ h18) rfl rfl ?_
     refine rn tk 3 rfl ?_
     cases hr
     exact jn _ rfl rfl rfl
   ·
    refine ac 36 hr rfl (fun c19 hr => ?_) (fun c19 hr => ?_)
    ·
     refine rn tk 3 rfl ?_
     obtain ⟨v20, h21, hr⟩ := bind_some hr
     refine cl (basic_Fault_run _ _ _ h21) rfl rfl ?_
     refine rn tk 6 rfl ?_
     cases hr
     exact kr tk (.inr rfl) rfl rfl
    ·
     refine rn tk 14 rfl ?_
     refine al1 hr (fun s22 => [(1, .i a1), (4, .ptr 4 0), (5, .ptr 5 0), (6, .i v11.1), (7, .i v11.2), (8, .i s22.1), (9, .i s22.2)]) (fun s22 => [(5, .cells [.i 0, .i 0]), (4, .cells [.i 0, .i 0, .i 0, .i 0, .i 0, .i 0, .i 0])]) (.exit 0) (fun b23 => [(1, .i a1), (4, .ptr 4 0), (5, .ptr 5 0), (6, .i v11.1), (7, .i v11.2), (8, .i b23)]) (fun b23 => [(5, .cells [.i 0, .i 0]), (4, .cells [.i 0, .i 0, .i 0, .i 0, .i 0, .i 0, .i 0])]) rfl rfl (fun s22 x24 hr => ?_) (fun b23 hr => ?_)
     ·
      unfold dates_Civil_l1 at hr
      refine rn tk 7 rfl ?_
      refine ac 40 hr rfl (fun c25 hr => ?_) (fun c25 hr => ?_)
      ·
       refine rn tk 2 rfl ?_
       refine jb hr (fun j26 => [(1, .i a1), (4, .ptr 4 0), (5, .ptr 5 0), (6, .i v11.1), (7, .i v11.2), (8, .i j26), (9, .i s22.2)]) (fun j26 => [(5, .cells [.i 0, .i 0]), (4, .cells [.i 0, .i 0, .i 0, .i 0, .i 0, .i 0, .i 0])]) (fun j26 hr => ?_) (fun j26 hr => ?_)
       ·
        refine rn tk 1 rfl ?_
        refine jb hr (fun j27 => [(1, .i a1), (4, .ptr 4 0), (5, .ptr 5 0), (6, .i v11.1), (7, .i v11.2), (8, .i s22.1), (9, .i s22.2), (54, .bo j27)]) (fun j27 => [(5, .cells [.i 0, .i 0]), (4, .cells [.i 0, .i 0, .i 0, .i 0, .i 0, .i 0, .i 0])]) (fun j27 hr => ?_) (fun j27 hr => ?_)
        ·
         refine rn tk 6 rfl ?_
         refine bs 47 hr rfl (fun c28 hr => ?_) (fun c28 hr => ?_)
         ·
          refine rn tk 3 rfl ?_
          obtain ⟨v29, h30, hr⟩ := bind_some hr
          refine ug rfl rfl rfl ?_
          refine cl (dates_day_run _ _ _ _ h30) rfl rfl ?_
          refine rn tk 4 rfl ?_
          cases hr
          exact jn _ rfl rfl rfl
         ·
          refine rn tk 8 rfl ?_
          cases hr
          exact jn _ rfl rfl rfl
        ·
         refine ac 54 hr rfl (fun c31 hr => ?_) (fun c31 hr => ?_)
         ·
          refine rn tk 7 rfl ?_
          cases hr
          exact jn _ rfl rfl rfl
         ·
          refine rn tk 2 rfl ?_
          cases hr
          exact jn _ rfl rfl rfl
       ·
        refine rn tk 2 rfl ?_
        refine wq (ev_iquo rfl rfl rfl) rfl rfl rfl ?_
        refine rn tk 2 rfl ?_
        cases hr
        exact atc rfl rfl
      ·
       refine rn tk 2 rfl ?_
       cases hr
       exact ato rfl rfl rfl rfl
     ·
      refine rn tk 9 rfl ?_
      refine al1 hr (fun s32 => [(1, .i a1), (4, .ptr 4 0), (5, .ptr 5 0), (6, .i v11.1), (7, .i v11.2), (8, .i b23), (10, .i s32)]) (fun s32 => [(5, .cells [.i 0, .i 0]), (4, .cells [.i 0, .i 0, .i 0, .i 0, .i 0, .i 0, .i 0])]) (.exit 2) (fun b33 => [(1, .i a1), (4, .ptr 4 0), (5, .ptr 5 0), (6, .i v11.1), (7, .i v11.2), (8, .i b23), (10, .i b33)]) (fun b33 => [(5, .cells [.i 0, .i 0]), (4, .cells [.i 0, .i 0, .i 0, .i 0, .i 0, .i 0, .i 0])]) rfl rfl (fun s32 x34 hr => ?_) (fun b33 hr => ?_)
      ·
       unfold dates_Civil_l2 at hr
       refine rn tk 5 rfl ?_
       obtain ⟨v35, h36, hr⟩ := bind_some hr
       refine cl (dates_day_run _ _ _ _ h36) rfl rfl ?_
       refine rn tk 4 rfl ?_
       refine ac 62 hr rfl (fun c37 hr => ?_) (fun c37 hr => ?_)
       ·
        refine rn tk 9 rfl ?_
        cases hr
        exact atc rfl rfl
       ·
        refine rn tk 2 rfl ?_
        cases hr
        exact ato rfl rfl rfl rfl
      ·
       refine rn tk 9 rfl ?_
       obtain ⟨v38, h39, hr⟩ := bind_some hr
       refine cl (dates_day_run _ _ _ _ h39) rfl rfl ?_
       refine rn tk 3 rfl ?_
       refine wq (ev_iquo rfl rfl rfl) rfl rfl rfl ?_
       refine rn tk 1 rfl ?_
       refine wq (ev_iquo rfl rfl rfl) rfl rfl rfl ?_
       refine wq (ev_irem rfl rfl rfl) rfl rfl rfl ?_
       refine rn tk 1 rfl ?_
       refine wq (ev_irem rfl rfl rfl) rfl rfl rfl ?_
       refine rn tk 2 rfl ?_
       obtain ⟨v40, h41, hr⟩ := bind_some hr
       refine cl (basic_None_run _ h41) rfl rfl ?_
       refine rn tk 5 rfl ?_
       cases hr
       exact kr tk (.inr rfl) rfl rfl
end Go.Proofs.YtfkgmcilaiblfaaGreatDoor

/- Library functions compute what their Lean functions do: texts joined and repeated. -/
namespace Go.Proofs.YtfkgmcilaiblfaaGreatDoor
open Go.RowKit
set_option maxRecDepth 100000
theorem old_below {g : G} {w' : World} (h : Below g.w.heap.size g.w w') : Old (fun _ => False) g ⟨w', g.u, g.loc⟩ :=
  ⟨h.os, h.tape, h.output, ⟨h.size, fun _ _ => Nat.le_refl _, fun k i hk _ => by simp only [World.cell?]; rw [h.block k hk], fun r hr => (h.block r (blk_lt hr)).trans hr⟩, fun k hk _ => ⟨h.block k hk, rfl⟩⟩
theorem str_argJ {g : G} {s : Str} {v : Value} (h : Rel g (.s s) v) : v = .string (strB s) := rel_b h
/-- texts, where they lie -/
theorem str_cells {g : G} {l : List Str} {v : Value} (h : Rel g (.l cS l) v) : ∃ ad cap, v = .slice ad l.length cap ∧ l.length ≤ cap ∧ (l ≠ [] → ∃ b off, ad = some ⟨b, off, none⟩ ∧ b < g.w.heap.size ∧ ∀ (i : Nat) s, l[i]? = some s → g.w.cell? ⟨b, off + i, none⟩ = some (.string (strB s))) := by
  cases h with
  | pv h =>
    generalize hE : l.map cS = elems at h
    have hEl : elems.length = l.length := by rw [← hE]; simp
    unfold pL at h
    rw [hE] at h
    cases h with
    | @sl _ _ a cap size b off val hn h0 hc hz ha hu hcell h =>
      refine ⟨a, cap, by rw [hEl], by omega, fun hne => ?_⟩
      have hne' : elems ≠ [] := by rw [← hE]; simpa using hne
      refine ⟨b, off, ha hne', (hu hne').2, fun i s hi => ?_⟩
      have hget : elems[i]? = some (cS s) := by rw [← hE]; simp [hi]
      have hs1 : size = 1 := by
        have := hz _ (List.mem_of_getElem? hget)
        simpa [cS] using this.symm
      subst hs1
      have hlt : i < elems.length := (List.getElem?_eq_some_iff.1 hget).1
      rw [hcell i (by omega)]
      have := h i 0 _ (.b (.string (strB s))) hget rfl
      simp only [Nat.mul_one, Nat.add_zero] at this
      have e := rel_b (g := g) (.pv this)
      rw [e]
theorem strings_Join_run (l : List Str) (s : Str) (r : Str) (hr : strings_Join l s = some r) : Run Tryz.prog 62 [.l cS l, .s s] (.s r) := by
  unfold strings_Join at hr
  split at hr
  case isFalse => cases hr
  rename_i hlen
  cases hr
  refine ⟨⟨_, _, ⟨Tryz.func62, rfl, by kernel_rfl⟩⟩, fun g vs hw hg ha => ?_⟩
  obtain ⟨hsz, hrel⟩ := ha
  obtain ⟨vl⟩ := vs
  match vl, hsz with
  | [x, y], _ =>
    have h0 : Rel g (.l cS l) x := hrel 0 _ rfl
    obtain rfl := str_argJ (hrel 1 _ rfl)
    obtain ⟨ad, cap, rfl, hcap, hcell⟩ := str_cells h0
    refine callsIn_wide.2 ?_
    suffices hs : Calls Tryz.prog 62 #[.slice ad l.length cap, .string (strB s)] g.w fun e w' => e = .returned (.string (strB (Lib.join l s))) ∧ Below g.w.heap.size g.w w' by
      refine hs.mono ?_
      rintro e w' ⟨rfl, hb⟩
      exact ⟨⟨w', g.u, g.loc⟩, _, rfl, rfl, old_below hb, fun k hk => hw k (Nat.le_trans hb.size hk), rfl, .pv (.b rfl)⟩
    cases l with
    | nil => exact (Tryz.strings_Join_none ad cap (strB s) g.w).mono fun e w' ⟨he, hw⟩ => ⟨he, hw ▸ Below.refl _ _⟩
    | cons a l =>
      obtain ⟨b, off, rfl, hb, hc⟩ := hcell (by simp)
      have e1 : ((a :: l).map strB).map (·.data.toList) = a :: l := by
        rw [List.map_map]
        conv => rhs; rw [← List.map_id (a :: l)]
        exact List.map_congr_left fun x _ => rfl
      have := Tryz.strings_Join b off cap ((a :: l).map strB) (strB s) g.w (fun j x hx => by
        simp only [List.getElem?_map, Option.map_eq_some_iff] at hx
        obtain ⟨y, hy, rfl⟩ := hx
        exact hc j y hy) hb (by rw [List.length_map]; exact hlen.1) (by rw [List.length_map]; exact hcap) (by rw [e1]; exact hlen.2)
      rw [e1, List.length_map] at this
      exact this
end Go.Proofs.YtfkgmcilaiblfaaGreatDoor

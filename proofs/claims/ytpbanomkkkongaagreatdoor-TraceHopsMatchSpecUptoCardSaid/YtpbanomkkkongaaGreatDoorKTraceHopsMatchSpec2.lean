/- Part 2 of the proof of the law TraceHopsMatchSpec: what it needs. -/
import Derived.Test.YtpbanomkkkongaaGreatDoorKTraceHopsMatchSpec1
import Derived.Test.YtpbanomkkkongaaGreatDoorShelf
set_option linter.unusedVariables false
set_option linter.unusedSimpArgs false
/- The law EnvelopeMatchesSpec in plain Lean. -/
namespace Go.Proofs.YtpbanomkkkongaaGreatDoor
open Go.RowKit
set_option linter.unusedVariables false
set_option maxHeartbeats 1000000

theorem smallM_of {m : TMessage} (h : TMessage.bk m ≤ 1048576) : smallM m := by
  unfold TMessage.bk at h
  have h1 := bkL_len (bk := TField.bk) (fun x => by unfold TField.bk; omega) m.Fields
  have h2 := bkL_len (bk := fun _ : UInt8 => 1) (fun x => by simp) m.Body
  refine ⟨⟨by omega, fun f hf => ?_⟩, by omega⟩
  have h5 := bkL_mem (bk := TField.bk) hf
  have h6 : TField.bk f = f.Name.length + 1 + (f.Value.length + 1) + 1 := rfl
  omega
end Go.Proofs.YtpbanomkkkongaaGreatDoor

/- Sending on: the plain functions of its parts, and what the typed functions compute. -/
namespace Go.Proofs.YtpbanomkkkongaaGreatDoor
open Go.RowKit
set_option linter.unusedVariables false
set_option maxHeartbeats 1000000

/-! ### rules as aliases -/
theorem map_fold {α β : Type} (f : α → β) (l : List α) : ∀ o : List β, l.foldl (fun o x => o ++ [f x]) o = o ++ l.map f := by
  induction l with
  | nil => intro o; simp
  | cons x l ih => intro o; simp [ih]
/-! ### letters -/
def lowC (c : UInt8) : UInt8 := bif decide ((65 : UInt8) ≤ c) && decide (c ≤ 90) then c + 97 - 65 else c
def lowP (s : Str) : Str := s.map lowC
theorem basic_Lower_eq (s : Str) (hs : s.length ≤ 1048576) : basic_Lower s = some (lowP s) := by
  unfold basic_Lower
  have key : ∀ r p : Str, s = p ++ r → iter (basic_Lower_l1 s) ((p.length : Int), p.map lowC ++ r) = some (lowP s) := by
    intro r
    induction r with
    | nil =>
      intro p h
      have hp : p = s := by simp [h]
      subst hp
      refine iter_out ?_
      unfold basic_Lower_l1
      dsimp only
      rw [dec_len]
      simp [lowP]
    | cons c r ih =>
      intro p h
      have hx : s[p.length]? = some c := by simp [h]
      have hi := lt_get hx
      have hx2 : (p.map lowC ++ c :: r)[p.length]? = some c := by
        rw [List.getElem?_append_right (by simp)]; simp
      have hb : basic_Lower_l1 s ((p.length : Int), p.map lowC ++ c :: r) = some (.cont (((p.length + 1 : Nat) : Int), (p ++ [c]).map lowC ++ r)) := by
        unfold basic_Lower_l1
        dsimp only
        rw [dec_lt hx, idx_get hx2]
        simp only [cond_true, Option.bind_some, u8_le1 65 c (by decide), u8_le2 90 c (by decide), sc p.length (by omega), Int.toNat_natCast]
        have hset : (p.map lowC ++ c :: r).set p.length (lowC c) = (p ++ [c]).map lowC ++ r := by
          rw [List.set_append_right _ _ (by simp)]
          simp
        have hsame : lowC c = c → p.map lowC ++ c :: r = (p ++ [c]).map lowC ++ r := by intro h; simp [h]
        unfold lowC at hset hsame ⊢
        cases h1 : decide ((65 : UInt8) ≤ c) <;> cases h2 : decide (c ≤ 90) <;> rw [h1, h2] at hset hsame <;> simp only [Bool.and_true, Bool.and_false, Bool.true_and, Bool.false_and, cond_true, cond_false, Option.bind_some] at hset hsame ⊢
        · rw [hsame trivial]
        · rw [hsame trivial]
        · rw [hsame trivial]
        · rw [hset]
      rw [iter_cont hb]
      have := ih (p ++ [c]) (by simp [h])
      simpa using this
  have := key s [] rfl
  have h2 : iter (basic_Lower_l1 s) (0, s) = some (lowP s) := this
  rw [h2]; rfl
def sameP (a b : Str) : Bool := lowP a == lowP b
theorem basic_Same_eq (a b : Str) (ha : a.length ≤ 1048576) (hb : b.length ≤ 1048576) : basic_Same a b = some (sameP a b) := by
  unfold basic_Same sameP
  rw [basic_Lower_eq a ha, basic_Lower_eq b hb]
  simp only [Option.bind_some]
  by_cases h : a.length = b.length
  · have : ((a.length : Int) == (b.length : Int)) = true := by simp [h]
    rw [this]; rfl
  · have : ((a.length : Int) == (b.length : Int)) = false := by rw [beq_eq_false_iff_ne]; omega
    rw [this]
    have : (lowP a == lowP b) = false := by
      rw [beq_eq_false_iff_ne]
      intro hc
      have := congrArg List.length hc
      simp [lowP] at this
      exact h this
    rw [this]; rfl

/-! ### fields -/
def getP (l : List TField) (n : Str) : List Str := (l.filter fun f => sameP f.Name n).map (·.Value)
theorem get_fold (n : Str) (l : List TField) : ∀ o : List Str, l.foldl (fun o (f : TField) => if sameP f.Name n then o ++ [f.Value] else o) o = o ++ getP l n := by
  unfold getP
  induction l with
  | nil => intro o; simp
  | cons f l ih => intro o; rw [List.foldl_cons, ih, List.filter_cons]; cases sameP f.Name n <;> simp
/-! ### a field in front -/
theorem concat2_eq (f : TField) (l : List TField) (hl : l.length ≤ 1048576) : slices_Concat_api_Field_api_Field [[f], l] = some (f :: l) := by
  unfold slices_Concat_api_Field_api_Field
  have h1 : iter (slices_Concat_api_Field_api_Field_l1 [[f], l]) (0, 0) = some (((l.length + 1 : Nat) : Int)) := by
    have e1 : w64 ((0 : Int) + 1) = 1 := rfl
    have e2 : w64 ((1 : Int) + (l.length : Int)) = ((l.length + 1 : Nat) : Int) := by rw [w64_id (by omega) (by omega)]; omega
    have s1 : slices_Concat_api_Field_api_Field_l1 [[f], l] (0, 0) = some (.cont (1, 1)) := rfl
    have s2 : slices_Concat_api_Field_api_Field_l1 [[f], l] (1, 1) = some (.cont (((l.length + 1 : Nat) : Int), 2)) := by
      show (bif decide (w64 ((1 : Int) + (l.length : Int)) < 0) then none else some (Step.cont (w64 ((1 : Int) + (l.length : Int)), w64 (1 + 1)))) = _
      rw [e2, decide_eq_false (by omega)]; rfl
    have s3 : slices_Concat_api_Field_api_Field_l1 [[f], l] (((l.length + 1 : Nat) : Int), 2) = some (.out ((l.length + 1 : Nat) : Int)) := rfl
    exact (iter_cont s1).trans ((iter_cont s2).trans (iter_out s3))
  rw [h1]
  simp only [Option.bind_some]
  have e0 : w64 (((l.length + 1 : Nat) : Int) - w64 (0 - 0)) = ((l.length + 1 : Nat) : Int) := by
    show w64 (((l.length + 1 : Nat) : Int) - 0) = _
    rw [Int.sub_zero, w64_n _ (by omega)]
  rw [e0, decide_eq_false (show ¬ (((l.length + 1 : Nat) : Int) < 0) by omega), decide_eq_true (show (0 : Int) < ((l.length + 1 : Nat) : Int) by omega)]
  simp only [cond_true, cond_false]
  have hz : zrep 4398046511104 ((l.length + 1 : Nat) : Int) (⟨[], []⟩ : TField) = some (List.replicate (l.length + 1) ⟨[], []⟩) := by
    unfold zrep
    rw [if_pos ⟨by omega, by simp; omega⟩]; rfl
  rw [hz]
  simp only [Option.bind_some]
  have hc : cut (List.replicate (l.length + 1) (⟨[], []⟩ : TField)) 0 0 = some [] := by
    have := cut_0n (l := List.replicate (l.length + 1) (⟨[], []⟩ : TField)) (b := 0) (by omega)
    simpa using this
  rw [hc]
  simp only [Option.bind_some]
  have s1 : slices_Concat_api_Field_api_Field_l2 [[f], l] (0, []) = some (.cont (1, [f])) := by
    show (app 4398046511104 ([] : List TField) [f]).bind (fun v20 => some (Step.cont (w64 (0 + 1), v20))) = _
    rw [app_ok (by simp)]; rfl
  have s2 : slices_Concat_api_Field_api_Field_l2 [[f], l] (1, [f]) = some (.cont (2, f :: l)) := by
    show (app 4398046511104 [f] l).bind (fun v20 => some (Step.cont (w64 (1 + 1), v20))) = _
    rw [app_ok (by simp; omega)]; rfl
  have s3 : slices_Concat_api_Field_api_Field_l2 [[f], l] (2, f :: l) = some (.out (f :: l)) := rfl
  rw [iter_cont s1, iter_cont s2, iter_out s3]; rfl
theorem trace_Front_eq (m : TMessage) (n v : Str) (hf : m.Fields.length ≤ 1048576) (hb : m.Body.length ≤ 1048576) : trace_Front m n v = some ⟨⟨n, v⟩ :: m.Fields, m.Body⟩ := by
  unfold trace_Front
  rw [concat2_eq _ _ hf]
  simp only [Option.bind_some]
  have ha : (app 140737488355328 ([] : List UInt8) m.Body).bind (fun v5 => some v5) = some m.Body := by rw [app_ok (by simp; omega)]; rfl
  rw [ha, nilE_same]
  · rfl
  · intro he
    rw [List.isEmpty_iff.1 he]
end Go.Proofs.YtpbanomkkkongaaGreatDoor

/- Sending on: a step, the tree. -/
namespace Go.Proofs.YtpbanomkkkongaaGreatDoor
open Go.RowKit
set_option linter.unusedVariables false
set_option maxHeartbeats 1000000

/-! ### a step -/
theorem msgF_head {m : TMessage} (h : (msgF m).Code = 0) : (headF m.Fields).Code = 0 := by
  unfold msgF at h
  cases hc : (headF m.Fields).Code != 0 with
  | false => simpa using hc
  | true => rw [hc] at h; simpa using h
/-! ### the tree -/
end Go.Proofs.YtpbanomkkkongaaGreatDoor

/- Sending on: the closed example; what a step makes. -/
namespace Go.Proofs.YtpbanomkkkongaaGreatDoor
open Go.RowKit
set_option linter.unusedVariables false
set_option maxHeartbeats 1000000

instance : DecidableEq TField := fun a b => decidable_of_iff (a.Name = b.Name ∧ a.Value = b.Value) (by cases a; cases b; simp)
instance : DecidableEq TMessage := fun a b => decidable_of_iff (a.Fields = b.Fields ∧ a.Body = b.Body) (by cases a; cases b; simp)
instance : DecidableEq TMail := fun a b => decidable_of_iff (a.Envelope = b.Envelope ∧ a.Message = b.Message) (by cases a; cases b; simp)
/-! ### what a step makes -/
end Go.Proofs.YtpbanomkkkongaaGreatDoor

/- The reference's side of messages: letters, values, recipients, a field in front, equal mails. -/
namespace Go.Proofs.YtpbanomkkkongaaGreatDoor
open Go.RowKit
set_option linter.unusedVariables false
set_option maxHeartbeats 1000000

theorem low_add (c : UInt8) : c + 97 - 65 = c + 32 := by
  rw [← UInt8.toNat_inj]
  have := c.toNat_lt
  simp only [UInt8.toNat_add, UInt8.toNat_sub, UInt8.reduceToNat]
  omega
theorem R_Small_eq (s : Str) (hs : s.length ≤ 1048576) : R_Small s = some (lowP s) := by
  unfold R_Small lowP
  have := (iter_fold s (fun i (o : List UInt8) => (i, o)) (fun o c => o ++ [lowC c]) id (fun i o => o.length ≤ i) (body := R_Small_l1 s)
    (fun o _ => by unfold R_Small_l1; simp [dec_len]) (fun i c o hx hi => by
      have hlt := lt_get hx
      refine ⟨?_, by simp; omega⟩
      unfold R_Small_l1
      dsimp only
      rw [dec_lt hx, idx_get hx]
      simp only [cond_true, Option.bind_some, R_In_eq, u8_le1 65 c (by decide), u8_le2 90 c (by decide), sc i (by omega)]
      have hl : ((bif (decide ((65 : UInt8) ≤ c) && decide (c ≤ 90)) then some (c + 32) else some c) : Option UInt8) = some (lowC c) := by
        unfold lowC
        rw [low_add]
        cases decide ((65 : UInt8) ≤ c) && decide (c ≤ 90) <;> rfl
      rw [hl]
      simp only [Option.bind_some]
      rw [app_ok (by simp; omega)]; rfl) [] (by simp)).1
  rw [this, map_fold]
  simp
theorem R_same_eq (a b : Str) (ha : a.length ≤ 1048576) (hb : b.length ≤ 1048576) : R_same a b = some (sameP a b) := by
  unfold R_same sameP
  rw [R_Small_eq a ha, R_Small_eq b hb]; rfl
theorem R_Values_eq (m : TMessage) (n : Str) (hm : smallM m) (hn : n.length ≤ 1048576) : R_Values m n = some (getP m.Fields n) := by
  unfold R_Values
  have := (iter_fold m.Fields (fun i (s : List Str) => (i, s)) (fun o (f : TField) => if sameP f.Name n then o ++ [f.Value] else o) id (fun i s => s.length ≤ i) (body := R_Values_l1 m n)
    (fun s _ => by unfold R_Values_l1; simp [dec_len]) (fun i f s hf hi => by
      have hlt := lt_get hf
      have hcap := hm.1.1
      have hfs := hm.1.2 f (List.mem_of_getElem? hf)
      refine ⟨?_, by split <;> (try simp) <;> omega⟩
      unfold R_Values_l1
      dsimp only
      rw [dec_lt hf, idx_get hf]
      simp only [cond_true, Option.bind_some, sc i (by omega), R_same_eq _ _ hfs.1 hn]
      cases sameP f.Name n with
      | false => rfl
      | true =>
        simp only [cond_true, if_true]
        rw [app_ok (by simp; omega)]; rfl) [] (by simp)).1
  rw [this, get_fold]
  simp
end Go.Proofs.YtpbanomkkkongaaGreatDoor

/- Mailing lists: the plain functions, and what the typed functions of the program compute. -/
namespace Go.Proofs.YtpbanomkkkongaaGreatDoor
open Go.RowKit
set_option linter.unusedVariables false
set_option maxHeartbeats 1000000

/-! ### copies -/
theorem clone_eq {α : Type} {lim : Nat} (l : List α) (h : l.length ≤ lim) : (nilE l.isEmpty (some ([] : List α)) ((app lim ([] : List α) l).bind fun v => some v)) = some l := by
  rw [app_ok (by simpa using h)]
  simp only [List.nil_append, Option.bind_some]
  exact nilE_same _ _ _ (fun he => by rw [List.isEmpty_iff.1 he])
/-! ### members -/
/-! ### mails that are held -/
/-! ### mails of the list -/
theorem smallF_cons {f : TField} {l : List TField} (h1 : f.Name.length ≤ 1048576 ∧ f.Value.length ≤ 1048576) (h : smallF l) (h60 : l.length < 1048576) : smallF (f :: l) := by
  refine ⟨by simp; omega, fun g hg => ?_⟩
  rcases List.mem_cons.1 hg with rfl | hg
  · exact h1
  · exact h.2 g hg
end Go.Proofs.YtpbanomkkkongaaGreatDoor

/- Trace fields: the plain functions, and what the typed functions compute. -/
namespace Go.Proofs.YtpbanomkkkongaaGreatDoor
open Go.RowKit
set_option linter.unusedVariables false
set_option maxHeartbeats 1000000
/-- the text of an instant -/
noncomputable def whenP (t : Int) : Option Str := match R_When t with | some (x, true) => some x | _ => none
theorem whenP_cases (t : Int) : (whenP t = none ∧ R_When t = some ([], false) ∧ ∃ d f, dates_Civil t 0 = some (d, f) ∧ f.Code = 3) ∨
    ∃ w D m y h mi s, w < 7 ∧ 1 ≤ D ∧ D ≤ 31 ∧ m < 12 ∧ 1 ≤ y ∧ y ≤ 4000 ∧ h < 24 ∧ mi < 60 ∧ s < 60 ∧ whenP t = some (dateT w D m y h mi s) ∧ R_When t = some (dateT w D m y h mi s, true) ∧ ∃ d, dates_Civil t 0 = some (d, ⟨0, 0⟩) ∧ dates_Print d = some (dateT w D m y h mi s, ⟨0, 0⟩) := by
  rcases when_both t with ⟨h1, h2⟩ | ⟨w, D, m, y, h, mi, s, b1, b2, b3, b4, b5, b6, b7, b8, b9, h1, h2⟩
  · exact .inl ⟨by unfold whenP; rw [h1], h1, h2⟩
  · exact .inr ⟨w, D, m, y, h, mi, s, b1, b2, b3, b4, b5, b6, b7, b8, b9, by unfold whenP; rw [h1], h1, h2⟩
theorem dateT_len {w D m y h mi s : Nat} (b1 : w < 7) (b3 : D ≤ 31) (b4 : m < 12) (b6 : y ≤ 4000) (b7 : h < 24) (b8 : mi < 60) (b9 : s < 60) : (dateT w D m y h mi s).length = 31 := by
  have l1 := padD_len (u := h) (k := 2) (by omega) (by omega)
  have l2 := padD_len (u := mi) (k := 2) (by omega) (by omega)
  have l3 := padD_len (u := s) (k := 2) (by omega) (by omega)
  have l4 := padD_len (u := D) (k := 2) (by omega) (by omega)
  have l5 := padD_len (u := y) (k := 4) (by omega) (by omega)
  have lw := wdT_len ⟨w, b1⟩
  have lm := moT_len ⟨m, b4⟩
  dsimp only at lw lm
  unfold dateT
  simp [l1, l2, l3, l4, l5, lw, lm]
theorem whenP_len {t : Int} {x : Str} (h : whenP t = some x) : x.length = 31 := by
  rcases whenP_cases t with ⟨h1, _⟩ | ⟨w, D, m, y, hh, mi, s, b1, b2, b3, b4, b5, b6, b7, b8, b9, h1, _⟩
  · rw [h] at h1; cases h1
  · rw [h] at h1
    cases h1
    exact dateT_len b1 b3 b4 b6 b7 b8 b9
def rcv : Str := [82, 101, 99, 101, 105, 118, 101, 100]
def rcvS : Str := [114, 101, 99, 101, 105, 118, 101, 100]
theorem getP_rcv (l : List TField) : getP l rcvS = getP l rcv := by
  have : lowP rcvS = lowP rcv := by decide +kernel
  unfold getP sameP
  rw [this]
/-- the value of a trace field -/
def stV (by_ id when : Str) : Str := [98, 121, 32] ++ by_ ++ [32, 105, 100, 32] ++ id ++ [59, 32] ++ when
def stM (m : TMessage) (by_ id when : Str) : TMessage := ⟨⟨rcv, stV by_ id when⟩ :: m.Fields, m.Body⟩
def noM : TMessage := ⟨[], []⟩
noncomputable def stampP (m : TMessage) (by_ id : Str) (t : Int) : TMessage × TFault :=
  bif (msgF m).Code != 0 then (noM, msgF m) else bif !nameP by_ then (noM, ⟨10, -10⟩) else bif !nameP id then (noM, ⟨10, -12⟩) else
  bif (m.Fields.length : Int) == 60 then (noM, ⟨2, -13⟩) else match whenP t with
    | none => (noM, ⟨3, -2⟩)
    | some x => bif (msgF (stM m by_ id x)).Code != 0 then (noM, ⟨(msgF (stM m by_ id x)).Code, -14⟩) else (stM m by_ id x, ⟨0, 0⟩)
theorem msgF_zero {m : TMessage} (h : (msgF m).Code = 0) : msgF m = ⟨0, 0⟩ := by
  have hh := msgF_head h
  unfold msgF at h ⊢
  have e : ((headF m.Fields).Code != 0) = false := by simp [hh]
  rw [e] at h ⊢
  simp only [Bool.false_eq_true, if_false] at h ⊢
  split at h
  · exact absurd h (by decide)
  · rw [if_neg (by assumption)]
    unfold bodyF at h ⊢
    cases hb : bodyP 0 m.Body with
    | none => rfl
    | some b => rw [hb] at h; cases b <;> exact absurd h (by decide)
theorem msg_60 {m : TMessage} (h : (msgF m).Code = 0) : m.Fields.length ≤ 60 := by
  have := (headF_code _ (msgF_head h)).1
  omega
theorem nameP_len {s : Str} (h : nameP s = true) : 1 ≤ s.length ∧ s.length ≤ 60 := by
  unfold nameP at h
  simp only [Bool.and_eq_true, decide_eq_true_eq] at h
  exact ⟨h.1.1, h.1.2⟩
theorem stM_small {m : TMessage} {by_ id x : Str} (hm : smallM m) (h60 : m.Fields.length ≤ 60) (h1 : by_.length ≤ 60) (h2 : id.length ≤ 60) (h3 : x.length ≤ 60) : smallM (stM m by_ id x) :=
  ⟨smallF_cons ⟨by show rcv.length ≤ _; decide, by show (stV by_ id x).length ≤ _; unfold stV; simp; omega⟩ hm.1 (by omega), hm.2⟩
theorem trace_Stamp_eq (m : TMessage) (by_ id : Str) (t : Int) (hm : smallM m) (h1 : by_.length ≤ 1048576) (h2 : id.length ≤ 1048576) : trace_Stamp m by_ id t = some (stampP m by_ id t) := by
  unfold trace_Stamp stampP
  rw [message_Validate_eq m hm, basic_Name_eq _ h1, basic_Name_eq _ h2]
  simp only [Option.bind_some, basic_Failed_eq, basic_Fault_eq, basic_None_eq]
  cases hc : (msgF m).Code != 0 with
  | true => rfl
  | false =>
    have hm0 : (msgF m).Code = 0 := by simpa using hc
    have h60 := msg_60 hm0
    simp only [cond_false]
    cases hn1 : nameP by_ with
    | false => rfl
    | true =>
      cases hn2 : nameP id with
      | false => rfl
      | true =>
        simp only [Bool.not_true, cond_false]
        cases (m.Fields.length : Int) == 60 with
        | true => rfl
        | false =>
          simp only [cond_false]
          have q1 := nameP_len hn1
          have q2 := nameP_len hn2
          rcases whenP_cases t with ⟨w1, _, d, f, w2, w3⟩ | ⟨w, D, mo, y, hh, mi, s, b1, b2, b3, b4, b5, b6, b7, b8, b9, w1, _, d, w2, w3⟩
          · rw [w1, w2]
            simp only [Option.bind_some, w3]
            rfl
          · have hx := whenP_len w1
            rw [w1, w2]
            generalize hX : dateT w D mo y hh mi s = X at *
            simp only [Option.bind_some, bne_self_eq_false, cond_false, w3]
            rw [cat_ok (by simp; omega)]
            simp only [Option.bind_some]
            rw [cat_ok (by simp; omega)]
            simp only [Option.bind_some]
            rw [cat_ok (by simp; omega)]
            simp only [Option.bind_some]
            rw [cat_ok (by simp; omega)]
            simp only [Option.bind_some]
            rw [cat_ok (by simp; omega)]
            simp only [Option.bind_some]
            rw [trace_Front_eq _ _ _ (by omega) hm.2]
            simp only [Option.bind_some]
            have hv : message_Validate ⟨⟨[82, 101, 99, 101, 105, 118, 101, 100], ([98, 121, 32] : Str) ++ by_ ++ [32, 105, 100, 32] ++ id ++ [59, 32] ++ X⟩ :: m.Fields, m.Body⟩ = some (msgF (stM m by_ id X)) := message_Validate_eq _ (stM_small hm h60 q1.2 q2.2 (by omega))
            rw [hv]
            simp only [Option.bind_some]
            cases (msgF (stM m by_ id X)).Code != 0 <;> rfl
/-! ### hosts -/
theorem getP_lenT (l : List TField) (n : Str) : (getP l n).length ≤ l.length := by
  unfold getP
  rw [List.length_map]
  exact List.length_filter_le _ _
def hostP (v : Str) : Str := match splitC 32 v with | a :: b :: _ => if a = [98, 121] ∧ nameP b = true then b else [] | _ => []
theorem trace_host_eq (v : Str) (hv : v.length ≤ 1048576) : trace_host v = some (hostP v) := by
  unfold trace_host hostP
  rw [strings_Split_eq _ _ (by omega)]
  have hlm : ∀ x ∈ splitC 32 v, x.length ≤ v.length := fun x hx => splitC_mem hx
  simp only [Option.bind_some]
  match hs : splitC 32 v, hlm with
  | [], _ => rfl
  | [a], _ => rfl
  | a :: b :: r, hlm =>
    have hb : b.length ≤ 1048576 := by have := hlm b (by simp); omega
    have e1 : decide (((a :: b :: r).length : Int) < 2) = false := by simp; omega
    have e2 : idx (a :: b :: r) 0 = some a := rfl
    have e3 : idx (a :: b :: r) 1 = some b := rfl
    rw [e1, e2, e3]
    simp only [cond_false, Option.bind_some, basic_Name_eq b hb]
    by_cases h : a = [98, 121]
    · subst h
      cases nameP b <;> simp
    · have : (a != ([98, 121] : Str)) = true := by simpa using h
      rw [this]; simp [h]
theorem R_HostsOf_eq (m : TMessage) (hm : smallM m) : R_HostsOf m = some ((getP m.Fields rcv).map hostP) := by
  unfold R_HostsOf
  have hv : R_Values m [114, 101, 99, 101, 105, 118, 101, 100] = some (getP m.Fields rcvS) := R_Values_eq m _ hm (by decide)
  rw [hv, getP_rcv]
  have hgl := getP_lenT m.Fields rcv
  have hl := hm.1.1
  have hgm : ∀ x ∈ getP m.Fields rcv, x.length ≤ 1048576 := fun x hx => by
    unfold getP at hx
    obtain ⟨f, hf, rfl⟩ := List.mem_map.1 hx
    exact (hm.1.2 f (List.mem_filter.1 hf).1).2
  generalize getP m.Fields rcv = L at *
  simp only [Option.bind_some]
  have := (iter_fold L (fun i (s : List Str) => (i, s)) (fun o v => o ++ [hostP v]) id (fun i s => s.length = i) (body := R_HostsOf_l1 L)
    (fun s _ => by unfold R_HostsOf_l1; simp [dec_len]) (fun i v o hv hi => by
      have hlt := lt_get hv
      have hvl := hgm v (List.mem_of_getElem? hv)
      refine ⟨?_, by simp; omega⟩
      unfold R_HostsOf_l1
      dsimp only
      rw [dec_lt hv, idx_get hv]
      simp only [cond_true, Option.bind_some, sc i (by omega)]
      rw [R_Pieces_eq v hvl]
      have hlm : ∀ x ∈ splitC 32 v, x.length ≤ v.length := fun x hx => splitC_mem hx
      simp only [Option.bind_some]
      unfold hostP
      match hs : splitC 32 v, hlm with
      | [], _ => obtain ⟨x, l, h⟩ := splitC_ne 32 v; rw [hs] at h; cases h
      | [a], _ =>
        have e1 : decide ((1 : Int) < ([a].length : Int)) = false := by simp
        rw [e1]
        simp only [cond_false, Option.bind_some]
        rw [app_ok (by simp; omega)]
        rfl
      | a :: b :: r, hlm =>
        have hb : b.length ≤ 1048576 := by have := hlm b (by simp); omega
        have e1 : decide ((1 : Int) < ((a :: b :: r).length : Int)) = true := by simp; omega
        have e2 : idx (a :: b :: r) 0 = some a := rfl
        have e3 : idx (a :: b :: r) 1 = some b := rfl
        rw [e1, e2, e3]
        simp only [cond_true, Option.bind_some, R_NameOk_eq b hb]
        by_cases h : a = [98, 121]
        · subst h
          cases nameP b
          · simp only [beq_self_eq_true, cond_true, cond_false, Option.bind_some]
            rw [app_ok (by simp; omega)]; simp
          · simp only [beq_self_eq_true, cond_true, cond_false, Option.bind_some]
            rw [app_ok (by simp; omega)]; simp
        · have : (a == ([98, 121] : Str)) = false := by simpa using h
          rw [this]
          simp only [cond_false, Option.bind_some]
          rw [app_ok (by simp; omega)]; simp [h]) [] rfl).1
  rw [this]
  have hf : ∀ (l : List Str) (o : List Str), l.foldl (fun o v => o ++ [hostP v]) o = o ++ l.map hostP := by
    intro l
    induction l with
    | nil => intro o; simp
    | cons x l ih => intro o; rw [List.foldl_cons, ih]; simp
  rw [hf]
  simp
theorem trace_Hops_eq (m : TMessage) (hm : smallM m) : trace_Hops m = some (bif (msgF m).Code != 0 then ([], msgF m) else ((getP m.Fields rcv).map hostP, ⟨0, 0⟩)) := by
  unfold trace_Hops
  rw [message_Validate_eq m hm]
  simp only [Option.bind_some, basic_Failed_eq, basic_None_eq]
  cases hc : (msgF m).Code != 0 with
  | true => rfl
  | false =>
    simp only [cond_false]
    have := (iter_fold m.Fields (fun i (s : List Str) => (i, s)) (fun o (f : TField) => if sameP f.Name rcv then o ++ [hostP f.Value] else o) id (fun i s => s.length ≤ i) (body := trace_Hops_l1 m)
      (fun s _ => by unfold trace_Hops_l1; simp [dec_len]) (fun i f s hf hi => by
        have hlt := lt_get hf
        have hcap := hm.1.1
        have hfs := hm.1.2 f (List.mem_of_getElem? hf)
        refine ⟨?_, by split <;> (try simp) <;> omega⟩
        unfold trace_Hops_l1
        dsimp only
        rw [dec_lt hf, idx_get hf]
        have hsm : basic_Same f.Name [82, 101, 99, 101, 105, 118, 101, 100] = some (sameP f.Name rcv) := basic_Same_eq _ _ hfs.1 (by decide)
        simp only [cond_true, Option.bind_some, sc i (by omega), hsm]
        cases sameP f.Name rcv with
        | false => rfl
        | true =>
          simp only [cond_true, if_true, trace_host_eq _ hfs.2, Option.bind_some]
          rw [app_ok (by simp; omega)]; rfl) [] (by simp)).1
    rw [this]
    have hf : ∀ (l : List TField) (o : List Str), l.foldl (fun o (f : TField) => if sameP f.Name rcv then o ++ [hostP f.Value] else o) o = o ++ (getP l rcv).map hostP := by
      intro l
      induction l with
      | nil => intro o; simp [getP]
      | cons x l ih =>
        intro o
        rw [List.foldl_cons, ih]
        unfold getP
        cases hsx : sameP x.Name rcv <;> simp [hsx]
    rw [hf]
    simp
def trLoopP (m : TMessage) (by_ : Str) : Bool × TFault :=
  bif (msgF m).Code != 0 then (false, msgF m) else bif !nameP by_ then (false, ⟨10, -10⟩) else
  (decide (20 ≤ (getP m.Fields rcv).length) || decide (3 ≤ ((getP m.Fields rcv).map hostP).countP (· == by_)), ⟨0, 0⟩)
theorem count_filter {α : Type} (p : α → Bool) (l : List α) : l.countP p + (l.filter fun x => !p x).length = l.length := by
  induction l with
  | nil => rfl
  | cons x l ih => cases h : p x <;> simp [h] <;> omega
theorem trace_Loops_eq (m : TMessage) (by_ : Str) (hm : smallM m) (hb : by_.length ≤ 1048576) : trace_Loops m by_ = some (trLoopP m by_) := by
  unfold trace_Loops trLoopP
  rw [trace_Hops_eq m hm]
  have hgl := getP_lenT m.Fields rcv
  have hl := hm.1.1
  simp only [Option.bind_some, basic_Failed_eq, basic_Fault_eq, basic_None_eq, basic_Name_eq _ hb]
  cases hc : (msgF m).Code != 0 with
  | true => simp only [cond_true, hc]
  | false =>
    simp only [cond_false]
    cases nameP by_ with
    | false => rfl
    | true =>
      have hLb : ((getP m.Fields rcv).map hostP).length ≤ 1048576 := by rw [List.length_map]; omega
      have hll : (getP m.Fields rcv).length = ((getP m.Fields rcv).map hostP).length := by simp
      rw [hll]
      generalize (getP m.Fields rcv).map hostP = L at hLb ⊢
      simp only [bne_self_eq_false, Bool.not_true, cond_false]
      have hcl : (nilE L.isEmpty (some (([] : List Str))) ((app 8796093022208 ([] : List Str) L).bind fun v13 => some v13)) = some L := by
        exact clone_eq L (by omega)
      rw [hcl]
      simp only [Option.bind_some]
      rw [del_eq (fun s : Str => !(s == by_)) L ([] : Str) (by omega) (b1 := trace_Loops_l1 by_ L) (b2 := trace_Loops_l2 by_) (by unfold trace_Loops_l1; rw [dec_len]; rfl) (fun i x hx => by
          have hlt := lt_get hx
          unfold trace_Loops_l1
          rw [dec_lt hx, idx_get hx]
          simp only [cond_true, Option.bind_some, sc i (by omega)]
          cases x == by_ <;> rfl) (fun i M hM => by unfold trace_Loops_l2; simp [hM, dec_len]) (fun i k M x hM hx hik => by
          have hlt := lt_get hx
          have hil : i < M.length := by omega
          unfold trace_Loops_l2
          dsimp only
          rw [dec_lt hx, idx_get hx, idx_lt hil]
          simp only [cond_true, Option.bind_some, sc i (by omega), sc k (by omega)]
          cases x == by_ <;> rfl)]
      have hcf := count_filter (fun s : Str => s == by_) L
      have hw : w64 ((L.length : Int) - ((L.filter (fun s : Str => !(s == by_))).length : Int)) = ((L.countP (fun s => s == by_) : Nat) : Int) := by rw [w64_id (by omega) (by omega)]; omega
      simp only [Option.bind_some, hw]
      by_cases h20 : 20 ≤ L.length
      · rw [decide_eq_true h20, decide_eq_true (by omega)]; rfl
      · rw [decide_eq_false h20, decide_eq_false (by omega)]
        simp only [cond_false, Option.bind_some, Bool.false_or]
        congr 2
        rw [Bool.eq_iff_iff, decide_eq_true_eq, decide_eq_true_eq]
        omega
end Go.Proofs.YtpbanomkkkongaaGreatDoor

/- Trace fields: the closed example of the laws. -/
namespace Go.Proofs.YtpbanomkkkongaaGreatDoor
open Go.RowKit
set_option linter.unusedVariables false
set_option maxHeartbeats 1000000
def stT0 : Str := [84, 104, 117, 44, 32, 48, 49, 32, 74, 97, 110, 32, 49, 57, 55, 48, 32, 48, 48, 58, 48, 48, 58, 48, 48, 32, 43, 48, 48, 48, 48]
theorem dateT_0 : dateT 4 1 0 1970 0 0 0 = stT0 := by
  have e0 : padD 0 2 = [48, 48] := by unfold padD; rw [decD_small (by omega)]; rfl
  have e1 : padD 1 2 = [48, 49] := by unfold padD; rw [decD_small (by omega)]; rfl
  have e2 : padD 1970 4 = [49, 57, 55, 48] := by
    unfold padD
    rw [decD_big (by omega), decD_big (u := 1970 / 10) (by omega), decD_big (u := 1970 / 10 / 10) (by omega), decD_small (u := 1970 / 10 / 10 / 10) (by omega), decD_small (u := 1970 / 10 / 10 % 10) (by omega), decD_small (u := 1970 / 10 % 10) (by omega), decD_small (u := 1970 % 10) (by omega)]
    rfl
  unfold dateT
  rw [e0, e1, e2]
  rfl
theorem whenP_0 : whenP 0 = some stT0 := by
  rcases R_When_in 0 (by omega) (by omega) with ⟨_, h⟩ | ⟨Y, M, g, hY1, hY2, hM, hN, hd, hw⟩
  · exfalso; omega
  · have hn := domI_nn Y M
    have hm12 := domI_mono Y (show M + 1 ≤ 12 by omega)
    have hys := befI_succ Y
    rw [domI_12] at hm12
    have e70 : befI 1971 = 719527 := by decide
    have hY : Y = 1970 := year_unique (n := 719162) ⟨by omega, by omega⟩ ⟨by rw [befI_1970]; omega, by show (719162 : Int) < befI 1971; rw [e70]; omega⟩
    subst hY
    rw [befI_1970] at hN
    have hg : g = 0 := by omega
    subst hg
    have hM0 : M = 0 := month_unique (y := 1970) (n := 0) hd ⟨by simp [domI], by decide⟩
    subst hM0
    unfold whenP
    rw [hw]
    show some (dateT 4 1 0 1970 0 0 0) = _
    rw [dateT_0]
def stM0 : TMessage := ⟨[⟨rcv, [98, 121, 32, 109, 120, 32, 105, 100, 32, 55, 59, 32, 84, 104, 117, 44, 32, 48, 49, 32, 74, 97, 110, 32, 49, 57, 55, 48, 32, 48, 48, 58, 48, 48, 58, 48, 48, 32, 43, 48, 48, 48, 48]⟩], []⟩
theorem noM_small : smallM noM := ⟨⟨by decide, fun f hf => by cases hf⟩, by decide⟩
theorem stM0_small : smallM stM0 := ⟨⟨by decide, fun f hf => by
  obtain rfl : f = _ := List.mem_singleton.1 hf
  exact ⟨by decide, by decide⟩⟩, by decide⟩
theorem stampP_0 : stampP noM [109, 120] [55] 0 = (stM0, ⟨0, 0⟩) := by
  have h : ∀ o : Option Str, o = some stT0 → (bif (msgF noM).Code != 0 then (noM, msgF noM) else bif !nameP [109, 120] then (noM, ⟨10, -10⟩) else bif !nameP [55] then (noM, ⟨10, -12⟩) else
    bif (noM.Fields.length : Int) == 60 then (noM, ⟨2, -13⟩) else match o with
      | none => (noM, ⟨3, -2⟩)
      | some x => bif (msgF (stM noM [109, 120] [55] x)).Code != 0 then (noM, ⟨(msgF (stM noM [109, 120] [55] x)).Code, -14⟩) else (stM noM [109, 120] [55] x, ⟨0, 0⟩)) = (stM0, (⟨0, 0⟩ : TFault)) := by
    intro o ho
    subst ho
    kernel_rfl
  exact h _ whenP_0
theorem L_stamps_eq : L_stamps = some true := by
  unfold L_stamps
  have h1 : trace_Stamp ((TMessage.mk ([]) ([]))) (([109, 120] : Str)) (([55] : Str)) 0 = some (stM0, ⟨0, 0⟩) := by
    have := trace_Stamp_eq noM [109, 120] [55] 0 noM_small (by decide) (by decide)
    rw [stampP_0] at this
    exact this
  have h2 : trace_Hops stM0 = some ([[109, 120]], ⟨0, 0⟩) := by
    rw [trace_Hops_eq _ stM0_small]; kernel_rfl
  have h3 : trace_Loops stM0 [109, 120] = some (false, ⟨0, 0⟩) := by
    rw [trace_Loops_eq _ _ stM0_small (by decide)]; kernel_rfl
  rw [h1]
  simp only [Option.bind_some]
  rw [h2, h3]
  simp only [Option.bind_some]
  rw [R_Strings_eq [[109, 120]] [[109, 120]] (by decide)]
  show _ = some true
  kernel_rfl
end Go.Proofs.YtpbanomkkkongaaGreatDoor

/- The law TraceHopsMatchSpec in plain Lean. -/
namespace Go.Proofs.YtpbanomkkkongaaGreatDoor
open Go.RowKit
set_option linter.unusedVariables false
theorem hops_count (a1 : Str) (l : List Str) (hl : l.length ≤ 1048576) : iter (L_TraceHopsMatchSpec_l1 a1 l) (0, 0) = some ((l.countP (· == a1) : Nat) : Int) := by
  have h := (iter_fold l (fun i (s : Nat) => ((s : Int), i)) (fun s x => if x == a1 then s + 1 else s) (fun s => (s : Int)) (fun i s => s ≤ i) (body := L_TraceHopsMatchSpec_l1 a1 l)
    (fun s _ => by unfold L_TraceHopsMatchSpec_l1; simp [dec_len]) (fun i x s hx hi => by
      have hlt := lt_get hx
      refine ⟨?_, by split <;> omega⟩
      unfold L_TraceHopsMatchSpec_l1
      dsimp only
      rw [dec_lt hx, idx_get hx]
      simp only [cond_true, Option.bind_some, sc i (by omega), sc s (by omega)]
      cases x == a1 <;> rfl) 0 (by simp)).1
  have hf : ∀ (l : List Str) (n : Nat), l.foldl (fun s x => if x == a1 then s + 1 else s) n = n + l.countP (· == a1) := by
    intro l
    induction l with
    | nil => intro n; rfl
    | cons x l ih =>
      intro n
      rw [List.foldl_cons, ih]
      cases hx : x == a1 <;> simp [hx]; omega
  rw [hf] at h
  simpa using h
theorem fault_eqE (f : TFault) : (allEq [(f.Code == f.Code), (f.Index == f.Index)]) = true := by simp [allEq]
theorem L_TraceHopsMatchSpec_true (a0 : TMessage) (a1 : Str) (o0 : TMessage.ok a0) (o1 : okStr a1) (hk : TMessage.bk a0 + (fun s => s.length + 1) a1 ≤ 1048576) : L_TraceHopsMatchSpec a0 a1 = some true := by
  have hm : smallM a0 := smallM_of (by omega)
  dsimp only at hk
  have hb : a1.length ≤ 1048576 := by omega
  have hgl := getP_lenT a0.Fields rcv
  have hl := hm.1.1
  unfold L_TraceHopsMatchSpec
  rw [R_MessageFault_eq _ hm, trace_Hops_eq _ hm, trace_Loops_eq _ _ hm hb, L_stamps_eq, R_HostsOf_eq _ hm, R_NameOk_eq _ hb]
  simp only [Option.bind_some, Bool.not_true, cond_false, R_At_eq]
  unfold trLoopP
  cases hc : (msgF a0).Code != 0 with
  | true =>
    have hne : (msgF a0).Code ≠ 0 := by simpa using hc
    simp only [cond_true, fault_eqE]
    rfl
  | false =>
    have hz := msgF_zero (m := a0) (by simpa using hc)
    rw [hz]
    cases hn : nameP a1 with
    | false =>
      simp only [cond_false, cond_true, Bool.not_true, Bool.not_false, Option.bind_some, bne_self_eq_false]
      rw [R_Strings_eq _ _ (by simp; omega)]
      simp [allEq]
    | true =>
      simp only [cond_false, cond_true, Bool.not_true, Option.bind_some, bne_self_eq_false, hops_count a1 ((getP a0.Fields rcv).map hostP) (by simp; omega)]
      rw [R_Strings_eq _ _ (by simp; omega)]
      generalize hL : (getP a0.Fields rcv).map hostP = L
      have hll : (getP a0.Fields rcv).length = L.length := by rw [← hL]; simp
      rw [hll]
      by_cases h20 : 20 ≤ L.length
      · rw [decide_eq_true h20, decide_eq_true (by omega : (20 : Int) ≤ (L.length : Int))]
        simp [allEq]
      · rw [decide_eq_false h20, decide_eq_false (by omega : ¬ (20 : Int) ≤ (L.length : Int))]
        have e : decide (3 ≤ L.countP (· == a1)) = decide ((3 : Int) ≤ ((L.countP (· == a1) : Nat) : Int)) := by rw [Bool.eq_iff_iff, decide_eq_true_eq, decide_eq_true_eq]; omega
        rw [e]
        simp [allEq]
end Go.Proofs.YtpbanomkkkongaaGreatDoor

namespace Go.Proofs.YtpbanomkkkongaaGreatDoor
open Go.RowKit
set_option maxRecDepth 100000
set_option maxHeartbeats 40000000
set_option linter.unusedVariables false
theorem R_Strings_run (a0 : List Str) (a1 : List Str) (r : Bool) (hr : R_Strings a0 a1 = some r) : Run Tryz.prog 15 [.l cS a0, .l cS a1] (.bo r) := by
 unfold R_Strings at hr
 refine rf (fn := Tryz.f15) ⟨Tryz.func15, rfl, by kernel_rfl⟩ rfl (fun _ => rfl) fun g0 hg => ?_
 refine rn tk 9 rfl ?_
 refine wn tk rfl rfl rfl ?_
 refine rn tk 1 rfl ?_
 refine wn tk rfl rfl rfl ?_
 refine rn tk 3 rfl ?_
 refine ac 10 hr rfl (fun c1 hr => ?_) (fun c1 hr => ?_)
 ·
  refine rn tk 7 rfl ?_
  cases hr
  exact kr tk (.inr rfl) rfl rfl
 ·
  refine rn tk 9 rfl ?_
  refine al2 hr (fun s2 => [(0, .l cS a0), (1, .l cS a1), (5, .i s2)]) (fun s2 => []) (.exit 0) (fun b3 => []) (fun b3 => []) .ret (fun b4 => [(4, .bo b4)]) (fun b4 => []) rfl rfl (fun s2 x6 hr => ?_) (fun b3 hr => ?_) (fun b4 hr => ?_)
  ·
   unfold R_Strings_l1 at hr
   refine rn tk 5 rfl ?_
   refine wn tk rfl rfl rfl ?_
   refine rn tk 3 rfl ?_
   refine ac 14 hr rfl (fun c7 hr => ?_) (fun c7 hr => ?_)
   ·
    refine rn tk 5 rfl ?_
    obtain ⟨v8, h9, hr⟩ := bind_some hr
    obtain ⟨v10, h11, hr⟩ := bind_some hr
    refine dr 8 [(24, .s v10), (23, .ep [pS v10]), (22, .i s2), (21, .l cS a1), (20, .s v8), (19, .ep [pS v8]), (18, .i s2), (17, .l cS a0)] mixed (by kernel_rfl) rfl rfl (pq tk rfl (.plain rfl) (pq tk rfl (.plain rfl) (.run (.plain rfl) (opG_q (ev_idx (f := cS) rfl rfl ty_s_string ty_string rfl h9)) (pq tk rfl (.plain rfl) (pq tk rfl (.plain rfl) (pq tk rfl (.plain rfl) (.run (.plain rfl) (opG_q (ev_idx (f := cS) rfl rfl ty_s_string ty_string rfl h11)) (pq tk rfl (.plain rfl) .nil)))))))) rfl ?_
    refine rn tk 3 rfl ?_
    refine ac 25 hr rfl (fun c12 hr => ?_) (fun c12 hr => ?_)
    ·
     refine rn tk 8 rfl ?_
     cases hr
     exact ato rfl rfl rfl rfl
    ·
     refine rn tk 8 rfl ?_
     cases hr
     exact atc rfl rfl
   ·
    refine rn tk 2 rfl ?_
    cases hr
    exact ato rfl rfl rfl rfl
  ·
   refine rn tk 8 rfl ?_
   cases hr
   exact kr tk (.inr rfl) rfl rfl
  ·
   refine rn tk 2 rfl ?_
   cases hr
   exact kr tk (.inr rfl) rfl rfl
theorem basic_Failed_run (a0 : TFault) (r : Bool) (hr : basic_Failed a0 = some r) : Run Tryz.prog 18 [.agg [.i a0.Code, .i a0.Index]] (.bo r) := by
 unfold basic_Failed at hr
 refine rf (fn := Tryz.f18) ⟨Tryz.func18, rfl, by kernel_rfl⟩ rfl (fun _ => rfl) fun g0 hg => ?_
 refine rn tk 15 rfl ?_
 cases hr
 exact kr tk (.inr rfl) rfl rfl
theorem basic_None_run  (r : TFault) (hr : basic_None = some r) : Run Tryz.prog 24 [] (.agg [.i r.Code, .i r.Index]) := by
 unfold basic_None at hr
 refine rf (fn := Tryz.f24) ⟨Tryz.func24, rfl, by kernel_rfl⟩ rfl (fun _ => rfl) fun g0 hg => ?_
 refine rn tk 12 rfl ?_
 cases hr
 exact kr tk (.inr rfl) rfl rfl
theorem basic_Lower_run (a0 : Str) (r : Str) (hr : basic_Lower a0 = some r) : Run Tryz.prog 60 [.s a0] (.s r) := by
 unfold basic_Lower at hr
 refine rf (fn := Tryz.f60) ⟨Tryz.func60, rfl, by kernel_rfl⟩ rfl (fun _ => rfl) fun g0 hg => ?_
 refine rn tk 8 rfl ?_
 refine wo (opTo_s2buf (k := 7) (s := a0) 1007 rfl rfl rfl rfl ty_string ty_s_uint8 ty_uint8) rfl ?_
 refine rn tk 7 rfl ?_
 refine wq (ev_buflen (l := a0) rfl rfl ty_s_uint8.u) rfl rfl rfl ?_
 refine rn tk 4 rfl ?_
 refine al1 hr (fun s1 => [(3, .hs 1007 0), (8, .hs 1007 0), (9, .i ((a0.length : Int))), (10, .i s1.1)]) (fun s1 => [(1007, .buf s1.2)]) (.exit 0) (fun b2 => [(3, .hs 1007 0)]) (fun b2 => [(1007, .buf b2)]) rfl rfl (fun s1 x3 hr => ?_) (fun b2 hr => ?_)
 ·
  unfold basic_Lower_l1 at hr
  refine rn tk 6 rfl ?_
  refine ac 11 hr rfl (fun c4 hr => ?_) (fun c4 hr => ?_)
  ·
   refine rn tk 2 rfl ?_
   refine jb hr (fun j5 => [(3, .hs 1007 0), (8, .hs 1007 0), (9, .i ((a0.length : Int))), (10, .i s1.1)]) (fun j5 => [(1007, .buf j5)]) (fun j5 hr => ?_) (fun j5 hr => ?_)
   ·
    refine rn tk 4 rfl ?_
    obtain ⟨v6, h7, hr⟩ := bind_some hr
    refine wq (ev_bufidx (l := s1.2) (n := s1.1) rfl rfl rfl ty_s_uint8 ty_uint8 h7) rfl rfl rfl ?_
    obtain ⟨v8, h9, hr⟩ := bind_some hr
    refine wq (ev_bufload (l := s1.2) (n := s1.1) rfl rfl ty_uint8 h9) rfl rfl rfl ?_
    refine rn tk 4 rfl ?_
    refine jb hr (fun j10 => [(3, .hs 1007 0), (4, .i s1.1), (5, .u8 v8), (8, .hs 1007 0), (9, .i ((a0.length : Int))), (10, .i s1.1), (20, .bo j10)]) (fun j10 => [(1007, .buf s1.2)]) (fun j10 hr => ?_) (fun j10 hr => ?_)
    ·
     refine rn tk 4 rfl ?_
     refine bs 17 hr rfl (fun c11 hr => ?_) (fun c11 hr => ?_)
     ·
      refine rn tk 4 rfl ?_
      cases hr
      exact jn _ rfl rfl rfl
     ·
      refine rn tk 4 rfl ?_
      cases hr
      exact jn _ rfl rfl rfl
    ·
     refine ac 20 hr rfl (fun c12 hr => ?_) (fun c12 hr => ?_)
     ·
      refine rn tk 4 rfl ?_
      refine wq (ev_u8add (a := v8) (b := (97 : UInt8)) rfl rfl) rfl rfl rfl ?_
      refine wq (ev_u8sub (a := ((v8 + (97 : UInt8)))) (b := (65 : UInt8)) rfl rfl) rfl rfl rfl ?_
      obtain ⟨v13, h14, hr⟩ := bind_some hr
      refine wq (ev_bufidx (l := s1.2) (n := s1.1) rfl rfl rfl ty_s_uint8 ty_uint8 h14) rfl rfl rfl ?_
      obtain ⟨v15, h16, hr⟩ := bind_some hr
      refine wo (opTo_bufstore (l := s1.2) (n := s1.1) (v := v15) (v' := (((v8 + (97 : UInt8)) - (65 : UInt8)))) rfl rfl rfl ty_uint8 h16) rfl ?_
      refine rn tk 2 rfl ?_
      cases hr
      exact jn _ rfl rfl rfl
     ·
      refine rn tk 2 rfl ?_
      cases hr
      exact jn _ rfl rfl rfl
   ·
    refine rn tk 4 rfl ?_
    cases hr
    exact atc rfl rfl
  ·
   refine rn tk 2 rfl ?_
   cases hr
   exact ato rfl rfl rfl rfl
 ·
  refine rn tk 5 rfl ?_
  refine wq (ev_buf2s (l := b2) rfl rfl ty_s_uint8 ty_uint8 ty_string) rfl rfl rfl ?_
  refine rn tk 4 rfl ?_
  cases hr
  exact kr tk (.inr rfl) rfl rfl
theorem basic_Same_run (a0 : Str) (a1 : Str) (r : Bool) (hr : basic_Same a0 a1 = some r) : Run Tryz.prog 29 [.s a0, .s a1] (.bo r) := by
 unfold basic_Same at hr
 refine rf (fn := Tryz.f29) ⟨Tryz.func29, rfl, by kernel_rfl⟩ rfl (fun _ => rfl) fun g0 hg => ?_
 refine rn tk 5 rfl ?_
 refine jb hr (fun j1 => [(4, .bo j1)]) (fun j1 => []) (fun j1 hr => ?_) (fun j1 hr => ?_)
 ·
  refine rn tk 7 rfl ?_
  refine bs 10 hr rfl (fun c2 hr => ?_) (fun c2 hr => ?_)
  ·
   refine rn tk 1 rfl ?_
   obtain ⟨v3, h4, hr⟩ := bind_some hr
   refine ug rfl rfl rfl ?_
   refine cl (basic_Lower_run _ _ h4) rfl rfl ?_
   refine rn tk 1 rfl ?_
   obtain ⟨v5, h6, hr⟩ := bind_some hr
   refine ug rfl rfl rfl ?_
   refine cl (basic_Lower_run _ _ h6) rfl rfl ?_
   refine rn tk 4 rfl ?_
   cases hr
   exact jn _ rfl rfl rfl
  ·
   refine rn tk 8 rfl ?_
   cases hr
   exact jn _ rfl rfl rfl
 ·
  refine rn tk 1 rfl ?_
  cases hr
  exact kr tk (.inr rfl) rfl rfl
theorem basic_Fault_run (a0 : Int) (a1 : Int) (r : TFault) (hr : basic_Fault a0 a1 = some r) : Run Tryz.prog 20 [.i a0, .i a1] (.agg [.i r.Code, .i r.Index]) := by
 unfold basic_Fault at hr
 refine rf (fn := Tryz.f20) ⟨Tryz.func20, rfl, by kernel_rfl⟩ rfl (fun _ => rfl) fun g0 hg => ?_
 refine rn tk 14 rfl ?_
 cases hr
 exact kr tk (.inr rfl) rfl rfl
theorem fold_name_run (a0 : Str) (r : Bool) (hr : fold_name a0 = some r) : Run Tryz.prog 78 [.s a0] (.bo r) := by
 unfold fold_name at hr
 refine rf (fn := Tryz.f78) ⟨Tryz.func78, rfl, by kernel_rfl⟩ rfl (fun _ => rfl) fun g0 hg => ?_
 refine rn tk 5 rfl ?_
 refine jb hr (fun j1 => [(2, .bo j1)]) (fun j1 => []) (fun j1 hr => ?_) (fun j1 hr => ?_)
 ·
  refine rn tk 4 rfl ?_
  refine bs 5 hr rfl (fun c2 hr => ?_) (fun c2 hr => ?_)
  ·
   refine rn tk 5 rfl ?_
   refine bs 10 hr rfl (fun c3 hr => ?_) (fun c3 hr => ?_)
   ·
    refine rn tk 1 rfl ?_
    refine ug rfl rfl rfl ?_
    refine ct hr (fun j4 => [(10, .bo true), (12, .bo j4)]) (fun j4 => []) (fun j4 hr jump4 => ?_) (fun j4 hr => ?_)
    ·
     refine il (fn := Tryz.f41) (args := [.s a0, .fn (.func 91) [] []]) 400000 499999 [(10, .bo true)] rfl ⟨Tryz.func41, rfl, by kernel_rfl⟩ rfl rfl rfl fun T4 ds4 => ?_
     refine rn tk 14 rfl ?_
     refine al2 hr (fun s5 => [(0, .s a0), (1, .fn (.func 91) [] []), (7, .i ((a0.length : Int))), (8, .i s5)]) (fun s5 => [(499999, .sus g0.w.heap.size ds4), (400010, .hold (.bo true) (T4.getD 10 undef))]) (.exit 0) (fun b6 => []) (fun b6 => [(499999, .sus g0.w.heap.size ds4), (400010, .hold (.bo true) (T4.getD 10 undef))]) .ret (fun b7 => [(4, .bo false)]) (fun b7 => [(499999, .sus g0.w.heap.size ds4), (400010, .hold (.bo true) (T4.getD 10 undef))]) rfl rfl (fun s5 x9 hr => ?_) (fun b6 hr => ?_) (fun b7 hr => ?_)
     ·
      unfold fold_name_l1 at hr
      refine rn tk 6 rfl ?_
      refine ac 9 hr rfl (fun c10 hr => ?_) (fun c10 hr => ?_)
      ·
       refine rn tk 15 rfl ?_
       obtain ⟨v11, h12, hr⟩ := bind_some hr
       refine ws tk h12 rfl rfl rfl rfl ?_
       refine il (fn := Tryz.f91) (args := [.u8 v11]) 600000 699999 [(0, .s a0), (1, .fn (.func 91) [] []), (7, .i ((a0.length : Int))), (8, .i s5)] rfl ⟨Tryz.func91, rfl, by kernel_rfl⟩ rfl rfl rfl fun T6 ds6 => ?_
       refine rn tk 5 rfl ?_
       refine jb hr (fun j13 => [(2, .bo j13)]) (fun j13 => [(699999, .sus g0.w.heap.size ds6), (600000, .hold (.s a0) (T6.getD 0 undef)), (600001, .hold (.fn (.func 91) [] []) (T6.getD 1 undef)), (600007, .hold (.i ((a0.length : Int))) (T6.getD 7 undef)), (600008, .hold (.i s5) (T6.getD 8 undef)), (499999, .sus g0.w.heap.size ds4), (400010, .hold (.bo true) (T4.getD 10 undef))]) (fun j13 hr => ?_) (fun j13 hr => ?_)
       ·
        refine rn tk 4 rfl ?_
        refine bs 5 hr rfl (fun c14 hr => ?_) (fun c14 hr => ?_)
        ·
         refine rn tk 4 rfl ?_
         refine bs 9 hr rfl (fun c15 hr => ?_) (fun c15 hr => ?_)
         ·
          refine rn tk 5 rfl ?_
          cases hr
          exact jn _ rfl rfl rfl
         ·
          refine rn tk 5 rfl ?_
          cases hr
          exact jn _ rfl rfl rfl
        ·
         refine rn tk 9 rfl ?_
         cases hr
         exact jn _ rfl rfl rfl
       ·
        refine rn tk 1 rfl ?_
        refine ie tk [.bo j13] [(0, .s a0), (1, .fn (.func 91) [] []), (7, .i ((a0.length : Int))), (8, .i s5)] [(499999, .sus g0.w.heap.size ds4), (400010, .hold (.bo true) (T4.getD 10 undef))] (.inr rfl) rfl rfl rfl rfl (hO ?_)
        refine rn tk 3 rfl ?_
        refine ac 16 hr rfl (fun c16 hr => ?_) (fun c16 hr => ?_)
        ·
         refine rn tk 8 rfl ?_
         cases hr
         exact ato rfl rfl rfl rfl
        ·
         refine rn tk 7 rfl ?_
         cases hr
         exact atc rfl rfl
      ·
       refine rn tk 2 rfl ?_
       cases hr
       exact ato rfl rfl rfl rfl
     ·
      refine rn tk 8 rfl ?_
      refine ie tk [.bo true] [(10, .bo true)] [] (.inr rfl) rfl rfl rfl rfl ?_
      cases hr
      exact jump4 _ _ rfl rfl
     ·
      refine rn tk 2 rfl ?_
      refine ie tk [.bo false] [(10, .bo true)] [] (.inr rfl) rfl rfl rfl rfl ?_
      cases hr
      exact jump4 _ _ rfl rfl
    ·
     refine rn tk 3 rfl ?_
     cases hr
     exact jn _ rfl rfl rfl
   ·
    refine rn tk 5 rfl ?_
    cases hr
    exact jn _ rfl rfl rfl
  ·
   refine rn tk 10 rfl ?_
   cases hr
   exact jn _ rfl rfl rfl
 ·
  refine rn tk 1 rfl ?_
  cases hr
  exact kr tk (.inr rfl) rfl rfl
theorem basic_Blank_run (a0 : UInt8) (r : Bool) (hr : basic_Blank a0 = some r) : Run Tryz.prog 93 [.u8 a0] (.bo r) := by
 unfold basic_Blank at hr
 refine rf (fn := Tryz.f93) ⟨Tryz.func93, rfl, by kernel_rfl⟩ rfl (fun _ => rfl) fun g0 hg => ?_
 refine rn tk 5 rfl ?_
 refine jb hr (fun j1 => [(2, .bo j1)]) (fun j1 => []) (fun j1 hr => ?_) (fun j1 hr => ?_)
 ·
  refine rn tk 4 rfl ?_
  refine bs 5 hr rfl (fun c2 hr => ?_) (fun c2 hr => ?_)
  ·
   refine rn tk 5 rfl ?_
   cases hr
   exact jn _ rfl rfl rfl
  ·
   refine rn tk 5 rfl ?_
   cases hr
   exact jn _ rfl rfl rfl
 ·
  refine rn tk 1 rfl ?_
  cases hr
  exact kr tk (.inr rfl) rfl rfl
theorem fold_point_run (a0 : Str) (a1 : Int) (r : Int) (hr : fold_point a0 a1 = some r) : Run Tryz.prog 80 [.s a0, .i a1] (.i r) := by
 unfold fold_point at hr
 refine rf (fn := Tryz.f80) ⟨Tryz.func80, rfl, by kernel_rfl⟩ rfl (fun _ => rfl) fun g0 hg => ?_
 refine rn tk 14 rfl ?_
 refine wq (ev_max rfl rfl) rfl rfl rfl ?_
 refine rn tk 4 rfl ?_
 refine al1 hr (fun s1 => [(0, .s a0), (5, .i s1.1), (6, .i s1.2)]) (fun s1 => []) (.exit 0) (fun b2 => [(5, .i b2)]) (fun b2 => []) rfl rfl (fun s1 x3 hr => ?_) (fun b2 hr => ?_)
 ·
  unfold fold_point_l1 at hr
  refine rn tk 9 rfl ?_
  refine ac 12 hr rfl (fun c4 hr => ?_) (fun c4 hr => ?_)
  ·
   refine rn tk 2 rfl ?_
   refine jk (fun j5 => [(0, .s a0), (5, .i j5), (6, .i s1.2)]) (fun j5 => []) (fun j5 => fold_point_k2 s1 j5 = some x3) ?_ ?_
   ·
    refine rn tk 2 rfl ?_
    refine jb hr (fun j6 => [(0, .s a0), (5, .i s1.1), (6, .i s1.2), (26, .bo j6)]) (fun j6 => []) (fun j6 hr => ?_) (fun j6 hr => ?_)
    ·
     refine rn tk 3 rfl ?_
     obtain ⟨v7, h8, hr⟩ := bind_some hr
     refine ws tk h8 rfl rfl rfl rfl ?_
     obtain ⟨v9, h10, hr⟩ := bind_some hr
     refine cl (basic_Blank_run _ _ h10) rfl rfl ?_
     refine rn tk 2 rfl ?_
     refine bs 20 hr rfl (fun c11 hr => ?_) (fun c11 hr => ?_)
     ·
      refine rn tk 7 rfl ?_
      cases hr
      exact jn _ rfl rfl rfl
     ·
      refine rn tk 3 rfl ?_
      obtain ⟨v12, h13, hr⟩ := bind_some hr
      refine ug rfl rfl rfl ?_
      refine ws tk h13 rfl rfl rfl rfl ?_
      obtain ⟨v14, h15, hr⟩ := bind_some hr
      refine ug rfl rfl rfl ?_
      refine cl (basic_Blank_run _ _ h15) rfl rfl ?_
      refine rn tk 2 rfl ?_
      cases hr
      exact jn _ rfl rfl rfl
    ·
     refine ac 26 hr rfl (fun c16 hr => ?_) (fun c16 hr => ?_)
     ·
      refine rn tk 3 rfl ?_
      exact jn s1.1 hr rfl rfl
     ·
      refine rn tk 3 rfl ?_
      refine jb hr (fun j17 => [(0, .s a0), (5, .i s1.1), (6, .i s1.2), (32, .bo j17)]) (fun j17 => []) (fun j17 hr => ?_) (fun j17 hr => ?_)
      ·
       refine rn tk 4 rfl ?_
       refine bs 29 hr rfl (fun c18 hr => ?_) (fun c18 hr => ?_)
       ·
        refine rn tk 4 rfl ?_
        cases hr
        exact jn _ rfl rfl rfl
       ·
        refine rn tk 4 rfl ?_
        cases hr
        exact jn _ rfl rfl rfl
      ·
       refine ac 32 hr rfl (fun c19 hr => ?_) (fun c19 hr => ?_)
       ·
        refine rn tk 4 rfl ?_
        cases hr
        exact ato rfl rfl rfl rfl
       ·
        refine rn tk 7 rfl ?_
        exact jn s1.2 hr rfl rfl
   ·
    intro j5 hr
    unfold fold_point_k2 at hr
    refine rn tk 5 rfl ?_
    cases hr
    exact atc rfl rfl
  ·
   refine rn tk 2 rfl ?_
   cases hr
   exact ato rfl rfl rfl rfl
 ·
  refine rn tk 9 rfl ?_
  cases hr
  exact kr tk (.inr rfl) rfl rfl
end Go.Proofs.YtpbanomkkkongaaGreatDoor

/- Library functions compute what their Lean functions do. -/
namespace Go.Proofs.YtpbanomkkkongaaGreatDoor
open Go.RowKit
set_option maxRecDepth 100000
theorem str_arg {g : G} {s : Str} {v : Value} (h : Rel g (.s s) v) : v = .string (strB s) := rel_b h
theorem strings_IndexByte_run (s : Str) (c : UInt8) (r : Int) (hr : strings_IndexByte s c = some r) : Run Tryz.prog 128 [.s s, .u8 c] (.i r) := by
  unfold strings_IndexByte at hr
  cases hr
  refine ⟨⟨_, _, ⟨Tryz.func128, rfl, by kernel_rfl⟩⟩, fun g vs hw hg ha => ?_⟩
  obtain ⟨hsz, hrel⟩ := ha
  obtain ⟨l⟩ := vs
  match l, hsz with
  | [x, y], _ =>
    obtain rfl := str_arg (hrel 0 _ rfl)
    have e2 : y = .int .u8 (c.toNat : Int) := rel_b (hrel 1 _ rfl)
    subst e2
    refine callsIn_wide.2 ((Tryz.strings_IndexByte (strB s) (c.toNat : Int) g.w).mono ?_)
    rintro e w' ⟨rfl, rfl⟩
    refine ⟨g, _, rfl, rfl, Old.refl _ g, hw, rfl, ?_⟩
    simp [strB]
    exact .pv (.b rfl)
end Go.Proofs.YtpbanomkkkongaaGreatDoor

namespace Go.Proofs.YtpbanomkkkongaaGreatDoor
open Go.RowKit
set_option maxRecDepth 100000
set_option maxHeartbeats 40000000
set_option linter.unusedVariables false
theorem unicode_utf8_ValidRune_run (a0 : Int) (r : Bool) (hr : unicode_utf8_ValidRune a0 = some r) : Run Tryz.prog 129 [.pv (.b (.int .i32 a0))] (.bo r) := by
 unfold unicode_utf8_ValidRune at hr
 refine rf (fn := Tryz.f129) ⟨Tryz.func129, rfl, by kernel_rfl⟩ rfl (fun _ => rfl) fun g0 hg => ?_
 refine rn tk 7 rfl ?_
 refine jb hr (fun j1 => [(0, .pv (.b (.int .i32 a0))), (3, .bo j1)]) (fun j1 => []) (fun j1 hr => ?_) (fun j1 hr => ?_)
 ·
  refine rn tk 4 rfl ?_
  refine bs 6 hr rfl (fun c2 hr => ?_) (fun c2 hr => ?_)
  ·
   refine rn tk 5 rfl ?_
   cases hr
   exact jn _ rfl rfl rfl
  ·
   refine rn tk 5 rfl ?_
   cases hr
   exact jn _ rfl rfl rfl
 ·
  refine ac 3 hr rfl (fun c3 hr => ?_) (fun c3 hr => ?_)
  ·
   refine rn tk 8 rfl ?_
   cases hr
   exact kr tk (.inr rfl) rfl rfl
  ·
   refine jb hr (fun j4 => [(10, .bo j4)]) (fun j4 => []) (fun j4 hr => ?_) (fun j4 hr => ?_)
   ·
    refine rn tk 4 rfl ?_
    refine bs 13 hr rfl (fun c5 hr => ?_) (fun c5 hr => ?_)
    ·
     refine rn tk 5 rfl ?_
     cases hr
     exact jn _ rfl rfl rfl
    ·
     refine rn tk 5 rfl ?_
     cases hr
     exact jn _ rfl rfl rfl
   ·
    refine ac 10 hr rfl (fun c6 hr => ?_) (fun c6 hr => ?_)
    ·
     refine rn tk 8 rfl ?_
     cases hr
     exact kr tk (.inr rfl) rfl rfl
    ·
     refine rn tk 9 rfl ?_
     cases hr
     exact kr tk (.inr rfl) rfl rfl
theorem strings_IndexRune_run (a0 : Str) (a1 : Int) (r : Int) (hr : strings_IndexRune a0 a1 = some r) : Run Tryz.prog 122 [.s a0, .pv (.b (.int .i32 a1))] (.i r) := by
 unfold strings_IndexRune at hr
 refine rf (fn := Tryz.f122) ⟨Tryz.func122, rfl, by kernel_rfl⟩ rfl (fun _ => rfl) fun g0 hg => ?_
 refine rn tk 6 rfl ?_
 refine jb hr (fun j1 => [(0, .s a0), (1, .pv (.b (.int .i32 a1))), (160, .bo j1)]) (fun j1 => []) (fun j1 hr => ?_) (fun j1 hr => ?_)
 ·
  refine rn tk 4 rfl ?_
  refine bs 163 hr rfl (fun c2 hr => ?_) (fun c2 hr => ?_)
  ·
   refine rn tk 5 rfl ?_
   cases hr
   exact jn _ rfl rfl rfl
  ·
   refine rn tk 5 rfl ?_
   cases hr
   exact jn _ rfl rfl rfl
 ·
  refine ac 160 hr rfl (fun c3 hr => ?_) (fun c3 hr => ?_)
  ·
   refine rn tk 5 rfl ?_
   obtain ⟨v4, h5, hr⟩ := bind_some hr
   refine cl (strings_IndexByte_run _ _ _ h5) rfl rfl ?_
   refine rn tk 5 rfl ?_
   cases hr
   exact kr tk (.inr rfl) rfl rfl
  ·
   refine rn tk 7 rfl ?_
   refine ac 171 hr rfl (fun c6 hr => ?_) (fun c6 hr => ?_)
   ·
    refine rn tk 4 rfl ?_
    refine wr 1175 tk rfl rfl rfl rfl ?_
    refine rn tk 3 rfl ?_
    refine al2 hr (fun s7 => [(175, .ptr 1175 0)]) (fun s7 => [(1175, .it (strB a0) s7)]) (.exit 9) (fun b8 => []) (fun b8 => []) .ret (fun b9 => [(4, .i b9)]) (fun b9 => []) rfl rfl (fun s7 x11 hr => ?_) (fun b8 hr => ?_) (fun b9 hr => ?_)
    ·
     unfold strings_IndexRune_l1 at hr
     refine rn tk 2 rfl ?_
     refine wnx hr rfl rfl rfl (fun c12 hr => ?_) (fun c12 hr => ?_)
     ·
      refine rn tk 22 rfl ?_
      refine ac 181 hr rfl (fun c13 hr => ?_) (fun c13 hr => ?_)
      ·
       refine rn tk 8 rfl ?_
       cases hr
       exact ato rfl rfl rfl rfl
      ·
       refine rn tk 2 rfl ?_
       cases hr
       exact atc rfl rfl
     ·
      refine rn tk 7 rfl ?_
      cases hr
      exact ato rfl rfl rfl rfl
    ·
     refine rn tk 9 rfl ?_
     cases hr
     exact kr tk (.inr rfl) rfl rfl
    ·
     refine rn tk 3 rfl ?_
     cases hr
     exact kr tk (.inr rfl) rfl rfl
   ·
    refine rn tk 3 rfl ?_
    obtain ⟨v14, h15, hr⟩ := bind_some hr
    refine cl (unicode_utf8_ValidRune_run _ _ h15) rfl rfl ?_
    refine rn tk 4 rfl ?_
    refine ac 183 hr rfl (fun c16 hr => ?_) (fun c16 hr => ?_)
    ·
     refine rn tk 7 rfl ?_
     cases hr
     exact kr tk (.inr rfl) rfl rfl
    ·
     refine rn tk 29 rfl ?_
     refine al2 hr (fun s17 => [(0, .s a0), (7, .s ((runeS a1))), (8, .i ((w64 ((((runeS a1)).length : Int) - 1)))), (9, .i s17)]) (fun s17 => []) (.exit 1) (fun b18 => []) (fun b18 => []) .ret (fun b19 => [(4, .i b19)]) (fun b19 => []) rfl rfl (fun s17 x21 hr => ?_) (fun b18 hr => ?_) (fun b19 hr => ?_)
     ·
      unfold strings_IndexRune_l2 at hr
      refine rn tk 9 rfl ?_
      refine ac 26 hr rfl (fun c22 hr => ?_) (fun c22 hr => ?_)
      ·
       refine rn tk 4 rfl ?_
       refine jk (fun j23 => [(0, .s a0), (7, .s ((runeS a1))), (8, .i j23.1), (9, .i j23.2)]) (fun j23 => []) (fun j23 => strings_IndexRune_k3 a0 a1 j23 = some x21) ?_ ?_
       ·
        refine rn tk 1 rfl ?_
        obtain ⟨v24, h25, hr⟩ := bind_some hr
        obtain ⟨v26, h27, hr⟩ := bind_some hr
        refine dr 6 [(32, .u8 v26), (31, .i ((w64 ((((runeS a1)).length : Int) - 1)))), (30, .s ((runeS a1))), (29, .u8 v24), (28, .i s17), (27, .s a0)] mixed (by kernel_rfl) rfl rfl (pq tk rfl (.plain rfl) (pq tk rfl (.plain rfl) (.run (.plain rfl) (opG_q (ev_sidx rfl rfl ty_string h25)) (pq tk rfl (.plain rfl) (pq tk rfl (.plain rfl) (.run (.plain rfl) (opG_q (ev_sidx rfl rfl ty_string h27)) .nil)))))) rfl ?_
        refine rn tk 3 rfl ?_
        refine ac 33 hr rfl (fun c28 hr => ?_) (fun c28 hr => ?_)
        ·
         refine rn tk 1 rfl ?_
         obtain ⟨v29, h30, hr⟩ := bind_some hr
         obtain ⟨v31, h32, hr⟩ := bind_some hr
         refine dr 7 [(40, .u8 v31), (39, .i ((w64 ((((runeS a1)).length : Int) - 1)))), (38, .s ((runeS a1))), (37, .s v29), (36, .i ((w64 (s17 + 1)))), (35, .i s17), (34, .s a0)] mixed (by kernel_rfl) rfl rfl (pq tk rfl (.plain rfl) (pq tk rfl (.plain rfl) (pq tk rfl (.plain rfl) (.run (.plain rfl) (opG_q (ev_scutL rfl rfl ty_string h30)) (pq tk rfl (.plain rfl) (pq tk rfl (.plain rfl) (.run (.plain rfl) (opG_q (ev_sidx rfl rfl ty_string h32)) .nil))))))) rfl ?_
         obtain ⟨v33, h34, hr⟩ := bind_some hr
         refine cl (strings_IndexByte_run _ _ _ h34) rfl rfl ?_
         refine rn tk 10 rfl ?_
         refine ac 43 hr rfl (fun c35 hr => ?_) (fun c35 hr => ?_)
         ·
          refine rn tk 10 rfl ?_
          cases hr
          exact ato rfl rfl rfl rfl
         ·
          refine rn tk 9 rfl ?_
          exact jn (((w64 ((((runeS a1)).length : Int) - 1)), (w64 (s17 + (w64 (v33 + 1)))))) hr rfl rfl
        ·
         refine rn tk 1 rfl ?_
         exact jn (((w64 ((((runeS a1)).length : Int) - 1)), s17)) hr rfl rfl
       ·
        intro j23 hr
        unfold strings_IndexRune_k3 at hr
        refine rn tk 7 rfl ?_
        refine al1 hr (fun s36 => [(0, .s a0), (7, .s ((runeS a1))), (8, .i j23.1), (9, .i j23.2), (12, .i s36)]) (fun s36 => []) (.exit 3) (fun b37 => [(8, .i j23.1), (9, .i j23.2)]) (fun b37 => []) rfl rfl (fun s36 x38 hr => ?_) (fun b37 hr => ?_)
        ·
         unfold strings_IndexRune_l4 at hr
         refine rn tk 9 rfl ?_
         refine ac 51 hr rfl (fun c39 hr => ?_) (fun c39 hr => ?_)
         ·
          refine rn tk 5 rfl ?_
          obtain ⟨v40, h41, hr⟩ := bind_some hr
          obtain ⟨v42, h43, hr⟩ := bind_some hr
          refine dr 10 [(63, .u8 v42), (62, .i ((w64 (j23.1 - s36)))), (61, .i s36), (60, .i j23.1), (59, .s ((runeS a1))), (58, .u8 v40), (57, .i ((w64 (j23.2 - s36)))), (56, .i s36), (55, .i j23.2), (54, .s a0)] mixed (by kernel_rfl) rfl rfl (pq tk rfl (.plain rfl) (pq tk rfl (.plain rfl) (pq tk rfl (.plain rfl) (pq tk rfl (.plain rfl) (.run (.plain rfl) (opG_q (ev_sidx rfl rfl ty_string h41)) (pq tk rfl (.plain rfl) (pq tk rfl (.plain rfl) (pq tk rfl (.plain rfl) (pq tk rfl (.plain rfl) (.run (.plain rfl) (opG_q (ev_sidx rfl rfl ty_string h43)) .nil)))))))))) rfl ?_
          refine rn tk 3 rfl ?_
          refine ac 64 hr rfl (fun c44 hr => ?_) (fun c44 hr => ?_)
          ·
           cases hr
          ·
           refine rn tk 8 rfl ?_
           cases hr
           exact atc rfl rfl
         ·
          refine rn tk 2 rfl ?_
          cases hr
          exact ato rfl rfl rfl rfl
        ·
         refine rn tk 15 rfl ?_
         cases hr
         exact ato rfl rfl rfl rfl
      ·
       refine rn tk 2 rfl ?_
       cases hr
       exact ato rfl rfl rfl rfl
     ·
      refine rn tk 12 rfl ?_
      cases hr
      exact kr tk (.inr rfl) rfl rfl
     ·
      refine rn tk 4 rfl ?_
      cases hr
      exact kr tk (.inr rfl) rfl rfl
theorem strings_shouldUseASCIISet_run (a0 : Int) (r : Bool) (hr : strings_shouldUseASCIISet a0 = some r) : Run Tryz.prog 123 [.i a0] (.bo r) := by
 unfold strings_shouldUseASCIISet at hr
 refine rf (fn := Tryz.f123) ⟨Tryz.func123, rfl, by kernel_rfl⟩ rfl (fun _ => rfl) fun g0 hg => ?_
 refine rn tk 13 rfl ?_
 cases hr
 exact kr tk (.inr rfl) rfl rfl
theorem strings_IndexAnyP_run (a0 : Str) (a1 : Str) (r : Int) (hr : strings_IndexAnyP a0 a1 = some r) : Run Tryz.prog 114 [.s a0, .s a1] (.i r) := by
 unfold strings_IndexAnyP at hr
 refine rf (fn := Tryz.f114) ⟨Tryz.func114, rfl, by kernel_rfl⟩ rfl (fun _ => rfl) fun g0 hg => ?_
 refine rn tk 12 rfl ?_
 refine ac 12 hr rfl (fun c1 hr => ?_) (fun c1 hr => ?_)
 ·
  refine rn tk 7 rfl ?_
  cases hr
  exact kr tk (.inr rfl) rfl rfl
 ·
  refine rn tk 10 rfl ?_
  refine ac 15 hr rfl (fun c2 hr => ?_) (fun c2 hr => ?_)
  ·
   refine rn tk 3 rfl ?_
   obtain ⟨v3, h4, hr⟩ := bind_some hr
   refine ws tk h4 rfl rfl rfl rfl ?_
   refine wur tk rfl rfl rfl ?_
   refine rn tk 3 rfl ?_
   refine jb hr (fun j5 => [(0, .s a0), (5, .pv (.b (.int .i32 j5)))]) (fun j5 => []) (fun j5 hr => ?_) (fun j5 hr => ?_)
   ·
    refine rn tk 6 rfl ?_
    refine ac 20 hr rfl (fun c6 hr => ?_) (fun c6 hr => ?_)
    ·
     refine rn tk 3 rfl ?_
     cases hr
     exact jn _ rfl rfl rfl
    ·
     refine rn tk 1 rfl ?_
     cases hr
     exact jn _ rfl rfl rfl
   ·
    refine rn tk 4 rfl ?_
    obtain ⟨v7, h8, hr⟩ := bind_some hr
    refine cl (strings_IndexRune_run _ _ _ h8) rfl rfl ?_
    refine rn tk 5 rfl ?_
    cases hr
    exact kr tk (.inr rfl) rfl rfl
  ·
   refine rn tk 7 rfl ?_
   obtain ⟨v9, h10, hr⟩ := bind_some hr
   refine cl (strings_shouldUseASCIISet_run _ _ h10) rfl rfl ?_
   refine rn tk 2 rfl ?_
   refine ac 26 hr rfl (fun c11 hr => ?_) (fun c11 hr => ?_)
   ·
    refine rn tk 3 rfl ?_
    cases hr
   ·
    refine rn tk 6 rfl ?_
    refine wr 1045 tk rfl rfl rfl rfl ?_
    refine rn tk 3 rfl ?_
    refine al2 hr (fun s12 => [(1, .s a1), (45, .ptr 1045 0)]) (fun s12 => [(1045, .it (strB a0) s12)]) (.exit 2) (fun b13 => []) (fun b13 => []) .ret (fun b14 => [(4, .i b14)]) (fun b14 => []) rfl rfl (fun s12 x16 hr => ?_) (fun b13 hr => ?_) (fun b14 hr => ?_)
    ·
     unfold strings_IndexAnyP_l1 at hr
     refine rn tk 2 rfl ?_
     refine wnx hr rfl rfl rfl (fun c17 hr => ?_) (fun c17 hr => ?_)
     ·
      refine rn tk 20 rfl ?_
      obtain ⟨v18, h19, hr⟩ := bind_some hr
      refine cl (strings_IndexRune_run _ _ _ h19) rfl rfl ?_
      refine rn tk 3 rfl ?_
      refine ac 53 hr rfl (fun c20 hr => ?_) (fun c20 hr => ?_)
      ·
       refine rn tk 8 rfl ?_
       cases hr
       exact ato rfl rfl rfl rfl
      ·
       refine rn tk 2 rfl ?_
       cases hr
       exact atc rfl rfl
     ·
      refine rn tk 7 rfl ?_
      cases hr
      exact ato rfl rfl rfl rfl
    ·
     refine rn tk 8 rfl ?_
     cases hr
     exact kr tk (.inr rfl) rfl rfl
    ·
     refine rn tk 2 rfl ?_
     cases hr
     exact kr tk (.inr rfl) rfl rfl
end Go.Proofs.YtpbanomkkkongaaGreatDoor

/- Library functions compute what their Lean functions do. -/
namespace Go.Proofs.YtpbanomkkkongaaGreatDoor
open Go.RowKit
set_option maxRecDepth 100000
theorem old_allocL (g : G) (vs : Array Value) (t : TypeId) : Old (fun _ => False) g ⟨g.w.alloc (.cells vs t), fun k => if k = g.w.heap.size then 0 else g.u k, g.loc⟩ := by
  have h := old_alloc g vs t 0 0 (g.loc 0)
  have e : (g.alloc vs t 0 0 (g.loc 0)) = ⟨g.w.alloc (.cells vs t), fun k => if k = g.w.heap.size then 0 else g.u k, g.loc⟩ := by
    unfold G.alloc
    congr 1
    funext k
    split
    · rename_i hk; rw [hk]
    · rfl
  rw [← e]; exact h
theorem wf_allocL {g : G} (h : Wf g) (vs : Array Value) (t : TypeId) : Wf ⟨g.w.alloc (.cells vs t), fun k => if k = g.w.heap.size then 0 else g.u k, g.loc⟩ := by
  intro k hk
  have hk : g.w.heap.size + 1 ≤ k := by simpa using hk
  show (if k = g.w.heap.size then 0 else g.u k) = 0
  rw [if_neg (by omega)]
  exact h k (by omega)
theorem ascii_data {t : Str} (h : asciiL t = true) : ∀ (j : Nat) b, (strB t).data.toList[j]? = some b → b.toNat < 128 := fun j b hb => asciiL_mem h (List.mem_of_getElem? hb)
theorem strings_IndexAny_run (s t : Str) (r : Int) (hr : strings_IndexAny s t = some r) : Run Tryz.prog 114 [.s s, .s t] (.i r) := by
  unfold strings_IndexAny at hr
  split at hr
  case isFalse => cases hr
  rename_i hc
  obtain ⟨h1, h2, h3, h4⟩ := hc
  by_cases h8 : s.length ≤ 8
  · exact strings_IndexAnyP_run s t r (by rw [IndexAnyP_eq s t h8 h3 h2 h4]; exact hr)
  · cases hr
    refine ⟨⟨_, _, ⟨Tryz.func114, rfl, by kernel_rfl⟩⟩, fun g vs hw hg ha => ?_⟩
    obtain ⟨hsz, hrel⟩ := ha
    obtain ⟨l⟩ := vs
    match l, hsz with
    | [x, y], _ =>
      obtain rfl := str_arg (hrel 0 _ rfl)
      obtain rfl := str_arg (hrel 1 _ rfl)
      have h116 : (Tryz.prog.info? 146).map (fun i => (i.zero, i.size)) = some (some (.agg (Array.replicate 256 (.bool false))), 256) := by kernel_rfl
      have hz := (zero_of_info h116).1
      refine callsIn_wide.2 ((Tryz.strings_IndexAny_long hz (strB s) (strB t) g.w (by rw [strB_size]; exact h3) (by rw [strB_size]; omega) (by rw [strB_size]; exact h1) (by rw [strB_size]; exact h2) (ascii_data h4)).mono ?_)
      rintro e w' ⟨rfl, rfl⟩
      have o1 := old_allocL g (Lib.setCells t) 146
      have w1 := wf_allocL hw (Lib.setCells t) 146
      have o2 := old_allocL ⟨g.w.alloc (.cells (Lib.setCells t) 146), fun k => if k = g.w.heap.size then 0 else g.u k, g.loc⟩ (Lib.setCells t) 146
      have w2 := wf_allocL w1 (Lib.setCells t) 146
      have o3 : Old (fun _ => False) g _ := o1.trans (o2.mono (S' := fun b => False ∨ g.w.heap.size ≤ b) (by intro b _ hf; exact hf.elim))
      exact ⟨⟨_, _, _⟩, _, rfl, (by rfl), o3, w2, (by rfl), .pv (.b rfl)⟩
end Go.Proofs.YtpbanomkkkongaaGreatDoor

namespace Go.Proofs.YtpbanomkkkongaaGreatDoor
open Go.RowKit
set_option maxRecDepth 100000
set_option maxHeartbeats 40000000
set_option linter.unusedVariables false
theorem strings_ContainsAny_run (a0 : Str) (a1 : Str) (r : Bool) (hr : strings_ContainsAny a0 a1 = some r) : Run Tryz.prog 104 [.s a0, .s a1] (.bo r) := by
 unfold strings_ContainsAny at hr
 refine rf (fn := Tryz.f104) ⟨Tryz.func104, rfl, by kernel_rfl⟩ rfl (fun _ => rfl) fun g0 hg => ?_
 refine rn tk 9 rfl ?_
 obtain ⟨v1, h2, hr⟩ := bind_some hr
 refine cl (strings_IndexAny_run _ _ _ h2) rfl rfl ?_
 refine rn tk 5 rfl ?_
 cases hr
 exact kr tk (.inr rfl) rfl rfl
theorem fold_ends_run (a0 : Str) (r : Bool) (hr : fold_ends a0 = some r) : Run Tryz.prog 92 [.s a0] (.bo r) := by
 unfold fold_ends at hr
 refine rf (fn := Tryz.f92) ⟨Tryz.func92, rfl, by kernel_rfl⟩ rfl (fun _ => rfl) fun g0 hg => ?_
 refine rn tk 8 rfl ?_
 obtain ⟨v1, h2, hr⟩ := bind_some hr
 refine cl (strings_ContainsAny_run _ _ _ h2) rfl rfl ?_
 refine rn tk 4 rfl ?_
 cases hr
 exact kr tk (.inr rfl) rfl rfl
theorem fold_value_run (a0 : Str) (r : Bool) (hr : fold_value a0 = some r) : Run Tryz.prog 79 [.s a0] (.bo r) := by
 unfold fold_value at hr
 refine rf (fn := Tryz.f79) ⟨Tryz.func79, rfl, by kernel_rfl⟩ rfl (fun _ => rfl) fun g0 hg => ?_
 refine rn tk 5 rfl ?_
 refine jb hr (fun j1 => [(2, .bo j1)]) (fun j1 => []) (fun j1 hr => ?_) (fun j1 hr => ?_)
 ·
  refine rn tk 2 rfl ?_
  obtain ⟨v2, h3, hr⟩ := bind_some hr
  refine cl (fold_ends_run _ _ h3) rfl rfl ?_
  refine rn tk 2 rfl ?_
  refine bs 6 hr rfl (fun c4 hr => ?_) (fun c4 hr => ?_)
  ·
   refine rn tk 3 rfl ?_
   refine bs 9 hr rfl (fun c5 hr => ?_) (fun c5 hr => ?_)
   ·
    refine rn tk 17 rfl ?_
    cases hr
    exact jn _ rfl rfl rfl
   ·
    refine rn tk 1 rfl ?_
    obtain ⟨v6, h7, hr⟩ := bind_some hr
    refine ug rfl rfl rfl ?_
    refine ws tk h7 rfl rfl rfl rfl ?_
    obtain ⟨v8, h9, hr⟩ := bind_some hr
    refine ug rfl rfl rfl ?_
    refine cl (basic_Blank_run _ _ h9) rfl rfl ?_
    refine rn tk 2 rfl ?_
    refine bs 14 hr rfl (fun c10 hr => ?_) (fun c10 hr => ?_)
    ·
     refine rn tk 4 rfl ?_
     obtain ⟨v11, h12, hr⟩ := bind_some hr
     refine ug rfl rfl rfl ?_
     refine ws tk h12 rfl rfl rfl rfl ?_
     obtain ⟨v13, h14, hr⟩ := bind_some hr
     refine ug rfl rfl rfl ?_
     refine cl (basic_Blank_run _ _ h14) rfl rfl ?_
     refine rn tk 6 rfl ?_
     cases hr
     exact jn _ rfl rfl rfl
    ·
     refine rn tk 12 rfl ?_
     cases hr
     exact jn _ rfl rfl rfl
  ·
   refine rn tk 20 rfl ?_
   cases hr
   exact jn _ rfl rfl rfl
 ·
  refine rn tk 1 rfl ?_
  cases hr
  exact kr tk (.inr rfl) rfl rfl
theorem fold_Fold_run (a0 : Str) (a1 : Str) (r : (List Str) × TFault) (hr : fold_Fold a0 a1 = some r) : Run Tryz.prog 64 [.s a0, .s a1] (.tup [.l cS r.1, .agg [.i r.2.Code, .i r.2.Index]]) := by
 unfold fold_Fold at hr
 refine rf (fn := Tryz.f64) ⟨Tryz.func64, rfl, by kernel_rfl⟩ rfl (fun _ => rfl) fun g0 hg => ?_
 refine rn tk 11 rfl ?_
 obtain ⟨v1, h2, hr⟩ := bind_some hr
 refine cl (fold_name_run _ _ h2) rfl rfl ?_
 refine rn tk 4 rfl ?_
 refine ac 12 hr rfl (fun c3 hr => ?_) (fun c3 hr => ?_)
 ·
  refine rn tk 2 rfl ?_
  obtain ⟨v4, h5, hr⟩ := bind_some hr
  refine cl (basic_Fault_run _ _ _ h5) rfl rfl ?_
  refine rn tk 7 rfl ?_
  cases hr
  exact kr tk (.inr rfl) rfl rfl
 ·
  refine rn tk 8 rfl ?_
  refine ac 17 hr rfl (fun c6 hr => ?_) (fun c6 hr => ?_)
  ·
   refine rn tk 2 rfl ?_
   obtain ⟨v7, h8, hr⟩ := bind_some hr
   refine cl (basic_Fault_run _ _ _ h8) rfl rfl ?_
   refine rn tk 7 rfl ?_
   cases hr
   exact kr tk (.inr rfl) rfl rfl
  ·
   refine rn tk 3 rfl ?_
   obtain ⟨v9, h10, hr⟩ := bind_some hr
   refine cl (fold_value_run _ _ h10) rfl rfl ?_
   refine rn tk 4 rfl ?_
   refine ac 22 hr rfl (fun c11 hr => ?_) (fun c11 hr => ?_)
   ·
    refine rn tk 2 rfl ?_
    obtain ⟨v12, h13, hr⟩ := bind_some hr
    refine cl (basic_Fault_run _ _ _ h13) rfl rfl ?_
    refine rn tk 7 rfl ?_
    cases hr
    exact kr tk (.inr rfl) rfl rfl
   ·
    refine rn tk 6 rfl ?_
    obtain ⟨v14, h15, hr⟩ := bind_some hr
    refine wc h15 rfl rfl rfl ?_
    refine rn tk 1 rfl ?_
    obtain ⟨v16, h17, hr⟩ := bind_some hr
    refine wc h17 rfl rfl rfl ?_
    refine rn tk 10 rfl ?_
    refine awpl_adopt 1008 (d := 8) 9 1 rfl rfl rfl (hO ?_)
    refine rn tk 4 rfl ?_
    refine al1 hr (fun s18 => [(5, .ptr 5 0), (6, .s s18.1), (7, .i s18.2.1), (8, .hs 1008 0)]) (fun s18 => [(1008, .row 9 false 1 (List.map cS s18.2.2)), (5, .cells [.i 0, .i 0])]) (.exit 1) (fun b19 => [(5, .ptr 5 0), (6, .s b19.1), (8, .hs 1008 0)]) (fun b19 => [(1008, .row 9 false 1 (List.map cS b19.2)), (5, .cells [.i 0, .i 0])]) rfl rfl (fun s18 x20 hr => ?_) (fun b19 hr => ?_)
    ·
     unfold fold_Fold_l1 at hr
     refine rn tk 8 rfl ?_
     refine ac 36 hr rfl (fun c21 hr => ?_) (fun c21 hr => ?_)
     ·
      refine rn tk 7 rfl ?_
      obtain ⟨v22, h23, hr⟩ := bind_some hr
      refine cl (fold_point_run _ _ _ h23) rfl rfl ?_
      refine rn tk 10 rfl ?_
      refine ac 41 hr rfl (fun c24 hr => ?_) (fun c24 hr => ?_)
      ·
       refine rn tk 3 rfl ?_
       cases hr
       exact ato rfl rfl rfl rfl
      ·
       refine rn tk 7 rfl ?_
       obtain ⟨v25, h26, hr⟩ := bind_some hr
       refine wscH tk h26 rfl rfl rfl rfl ?_
       refine wz cS ([v25] : List Str) tk rfl rfl (fun _ => rfl) rfl rfl rfl ?_
       obtain ⟨v27, h28, hr⟩ := bind_some hr
       refine wa tk h28 rfl rfl rfl rfl (fun _ => rfl) rfl rfl ?_
       refine rn tk 6 rfl ?_
       obtain ⟨v29, h30, hr⟩ := bind_some hr
       refine wscL tk h30 rfl rfl rfl rfl ?_
       refine rn tk 4 rfl ?_
       cases hr
       exact atc rfl rfl
     ·
      refine rn tk 2 rfl ?_
      cases hr
      exact ato rfl rfl rfl rfl
    ·
     refine rn tk 6 rfl ?_
     refine wz cS ([b19.1] : List Str) tk rfl rfl (fun _ => rfl) rfl rfl rfl ?_
     obtain ⟨v31, h32, hr⟩ := bind_some hr
     refine wa tk h32 rfl rfl rfl rfl (fun _ => rfl) rfl rfl ?_
     refine rn tk 7 rfl ?_
     refine wnh tk rfl rfl rfl rfl ?_
     refine rn tk 4 rfl ?_
     refine awp_pub (d := 55) (F := cS) (l := v31) rfl rfl (hC ?_)
     refine al2 hr (fun s34 => [(5, .ptr 5 0), (8, .hs 1008 0), (55, .l cS v31), (56, .i ((v31.length : Int))), (57, .i s34)]) (fun s34 => [(1008, .row 9 false 1 (List.map cS v31)), (5, .cells [.i 0, .i 0])]) (.exit 3) (fun b35 => [(5, .ptr 5 0), (8, .hs 1008 0)]) (fun b35 => [(1008, .row 9 false 1 (List.map cS v31)), (5, .cells [.i 0, .i 0])]) .ret (fun b36 => [(4, .l cS b36.1), (5, .ptr 5 0)]) (fun b36 => [(5, .cells [.i b36.2.Code, .i b36.2.Index])]) rfl rfl (fun s34 x38 hr => ?_) (fun b35 hr => ?_) (fun b36 hr => ?_)
     ·
      unfold fold_Fold_l2 at hr
      refine rn tk 6 rfl ?_
      refine ac 58 hr rfl (fun c39 hr => ?_) (fun c39 hr => ?_)
      ·
       refine rn tk 7 rfl ?_
       obtain ⟨v40, h41, hr⟩ := bind_some hr
       refine wi tk h41 rfl rfl rfl rfl rfl ?_
       refine rn tk 12 rfl ?_
       refine ac 64 hr rfl (fun c42 hr => ?_) (fun c42 hr => ?_)
       ·
        refine rn tk 3 rfl ?_
        obtain ⟨v43, h44, hr⟩ := bind_some hr
        refine cl (basic_Fault_run _ _ _ h44) rfl rfl ?_
        refine rn tk 7 rfl ?_
        cases hr
        exact ato rfl rfl rfl rfl
       ·
        refine rn tk 7 rfl ?_
        cases hr
        exact atc rfl rfl
      ·
       refine rn tk 2 rfl ?_
       cases hr
       exact ato rfl rfl rfl rfl
     ·
      refine rn tk 5 rfl ?_
      obtain ⟨v45, h46, hr⟩ := bind_some hr
      refine cl (basic_None_run _ h46) rfl rfl ?_
      refine rn tk 4 rfl ?_
      refine awp_pub (d := 4) (F := cS) (l := v31) rfl rfl (hC ?_)
      refine rn tk 1 rfl ?_
      cases hr
      exact kr tk (.inr rfl) rfl rfl
     ·
      refine rn tk 2 rfl ?_
      cases hr
      exact kr tk (.inr rfl) rfl rfl
theorem header_Validate_run (a0 : List TField) (r : TFault) (hr : header_Validate a0 = some r) : Run Tryz.prog 38 [.l TField.pc a0] (.agg [.i r.Code, .i r.Index]) := by
 unfold header_Validate at hr
 refine rf (fn := Tryz.f38) ⟨Tryz.func38, rfl, by kernel_rfl⟩ rfl (fun _ => rfl) fun g0 hg => ?_
 refine rn tk 9 rfl ?_
 refine wn tk rfl rfl rfl ?_
 refine rn tk 3 rfl ?_
 refine ac 9 hr rfl (fun c1 hr => ?_) (fun c1 hr => ?_)
 ·
  refine rn tk 2 rfl ?_
  obtain ⟨v2, h3, hr⟩ := bind_some hr
  refine cl (basic_Fault_run _ _ _ h3) rfl rfl ?_
  refine rn tk 5 rfl ?_
  cases hr
  exact kr tk (.inr rfl) rfl rfl
 ·
  refine rn tk 6 rfl ?_
  refine wn tk rfl rfl rfl ?_
  refine rn tk 4 rfl ?_
  refine al2 hr (fun s4 => [(2, .ptr 2 0), (11, .l TField.pc a0), (12, .i ((a0.length : Int))), (13, .i s4)]) (fun s4 => [(2, .cells [.i 0, .i 0])]) (.exit 0) (fun b5 => [(2, .ptr 2 0)]) (fun b5 => [(2, .cells [.i 0, .i 0])]) .ret (fun b6 => [(2, .ptr 2 0)]) (fun b6 => [(2, .cells [.i b6.Code, .i b6.Index])]) rfl rfl (fun s4 x8 hr => ?_) (fun b5 hr => ?_) (fun b6 hr => ?_)
  ·
   unfold header_Validate_l1 at hr
   refine rn tk 6 rfl ?_
   refine ac 14 hr rfl (fun c9 hr => ?_) (fun c9 hr => ?_)
   ·
    refine rn tk 7 rfl ?_
    obtain ⟨v10, h11, hr⟩ := bind_some hr
    refine wi tk h11 rfl rfl rfl rfl rfl ?_
    refine rn tk 12 rfl ?_
    obtain ⟨v12, h13, hr⟩ := bind_some hr
    refine cl (fold_Fold_run _ _ _ h13) rfl rfl ?_
    refine rn tk 11 rfl ?_
    obtain ⟨v14, h15, hr⟩ := bind_some hr
    refine cl (basic_Failed_run _ _ h15) rfl rfl ?_
    refine rn tk 2 rfl ?_
    refine ac 27 hr rfl (fun c16 hr => ?_) (fun c16 hr => ?_)
    ·
     refine rn tk 5 rfl ?_
     obtain ⟨v17, h18, hr⟩ := bind_some hr
     refine cl (basic_Fault_run _ _ _ h18) rfl rfl ?_
     refine rn tk 6 rfl ?_
     cases hr
     exact ato rfl rfl rfl rfl
    ·
     refine rn tk 7 rfl ?_
     cases hr
     exact atc rfl rfl
   ·
    refine rn tk 2 rfl ?_
    cases hr
    exact ato rfl rfl rfl rfl
  ·
   refine rn tk 4 rfl ?_
   obtain ⟨v19, h20, hr⟩ := bind_some hr
   refine cl (basic_None_run _ h20) rfl rfl ?_
   refine rn tk 4 rfl ?_
   cases hr
   exact kr tk (.inr rfl) rfl rfl
  ·
   refine rn tk 2 rfl ?_
   cases hr
   exact kr tk (.inr rfl) rfl rfl
theorem basic_Body_run (a0 : List UInt8) (r : Int) (hr : basic_Body a0 = some r) : Run Tryz.prog 65 [.l cU a0] (.i r) := by
 unfold basic_Body at hr
 refine rf (fn := Tryz.f65) ⟨Tryz.func65, rfl, by kernel_rfl⟩ rfl (fun _ => rfl) fun g0 hg => ?_
 refine rn tk 17 rfl ?_
 refine al2 hr (fun s1 => [(0, .l cU a0), (3, .i s1.1), (4, .i s1.2)]) (fun s1 => []) (.exit 0) (fun b2 => []) (fun b2 => []) .ret (fun b3 => [(2, .i b3)]) (fun b3 => []) rfl rfl (fun s1 x5 hr => ?_) (fun b2 hr => ?_) (fun b3 hr => ?_)
 ·
  unfold basic_Body_l1 at hr
  refine rn tk 5 rfl ?_
  refine wn tk rfl rfl rfl ?_
  refine rn tk 3 rfl ?_
  refine ac 9 hr rfl (fun c6 hr => ?_) (fun c6 hr => ?_)
  ·
   refine rn tk 2 rfl ?_
   refine jk (fun j7 => [(0, .l cU a0), (3, .i j7.1), (4, .i j7.2)]) (fun j7 => []) (fun j7 => basic_Body_k2  j7 = some x5) ?_ ?_
   ·
    refine rn tk 5 rfl ?_
    obtain ⟨v8, h9, hr⟩ := bind_some hr
    refine wi tk h9 rfl rfl rfl rfl rfl ?_
    refine rn tk 5 rfl ?_
    refine jb hr (fun j10 => [(0, .l cU a0), (3, .i s1.1), (4, .i s1.2), (5, .u8 v8), (32, .bo j10)]) (fun j10 => []) (fun j10 hr => ?_) (fun j10 hr => ?_)
    ·
     refine rn tk 4 rfl ?_
     refine bs 18 hr rfl (fun c11 hr => ?_) (fun c11 hr => ?_)
     ·
      refine rn tk 3 rfl ?_
      refine ug rfl rfl rfl ?_
      refine wn tk rfl rfl rfl ?_
      refine rn tk 3 rfl ?_
      refine bs 25 hr rfl (fun c12 hr => ?_) (fun c12 hr => ?_)
      ·
       refine rn tk 3 rfl ?_
       obtain ⟨v13, h14, hr⟩ := bind_some hr
       refine ug rfl rfl rfl ?_
       refine wi tk h14 rfl rfl rfl rfl rfl ?_
       refine rn tk 4 rfl ?_
       cases hr
       exact jn _ rfl rfl rfl
      ·
       refine rn tk 8 rfl ?_
       cases hr
       exact jn _ rfl rfl rfl
     ·
      refine rn tk 15 rfl ?_
      cases hr
      exact jn _ rfl rfl rfl
    ·
     refine ac 32 hr rfl (fun c15 hr => ?_) (fun c15 hr => ?_)
     ·
      refine rn tk 15 rfl ?_
      exact jn ((0, (w64 (s1.2 + 1)))) hr rfl rfl
     ·
      refine rn tk 3 rfl ?_
      refine jb hr (fun j16 => [(0, .l cU a0), (3, .i s1.1), (4, .i s1.2), (40, .bo j16)]) (fun j16 => []) (fun j16 hr => ?_) (fun j16 hr => ?_)
      ·
       refine rn tk 4 rfl ?_
       refine bs 37 hr rfl (fun c17 hr => ?_) (fun c17 hr => ?_)
       ·
        refine rn tk 4 rfl ?_
        cases hr
        exact jn _ rfl rfl rfl
       ·
        refine rn tk 4 rfl ?_
        cases hr
        exact jn _ rfl rfl rfl
      ·
       refine ac 40 hr rfl (fun c18 hr => ?_) (fun c18 hr => ?_)
       ·
        refine rn tk 9 rfl ?_
        cases hr
        exact ato rfl rfl rfl rfl
       ·
        refine rn tk 15 rfl ?_
        refine ac 44 hr rfl (fun c19 hr => ?_) (fun c19 hr => ?_)
        ·
         refine rn tk 8 rfl ?_
         cases hr
         exact ato rfl rfl rfl rfl
        ·
         refine rn tk 2 rfl ?_
         exact jn (((w64 (s1.1 + 1)), s1.2)) hr rfl rfl
   ·
    intro j7 hr
    unfold basic_Body_k2 at hr
    refine rn tk 5 rfl ?_
    cases hr
    exact atc rfl rfl
  ·
   refine rn tk 2 rfl ?_
   cases hr
   exact ato rfl rfl rfl rfl
 ·
  refine rn tk 8 rfl ?_
  cases hr
  exact kr tk (.inr rfl) rfl rfl
 ·
  refine rn tk 2 rfl ?_
  cases hr
  exact kr tk (.inr rfl) rfl rfl
theorem message_body_run (a0 : List UInt8) (r : TFault) (hr : message_body a0 = some r) : Run Tryz.prog 40 [.l cU a0] (.agg [.i r.Code, .i r.Index]) := by
 unfold message_body at hr
 refine rf (fn := Tryz.f40) ⟨Tryz.func40, rfl, by kernel_rfl⟩ rfl (fun _ => rfl) fun g0 hg => ?_
 refine rn tk 9 rfl ?_
 obtain ⟨v1, h2, hr⟩ := bind_some hr
 refine cl (basic_Body_run _ _ h2) rfl rfl ?_
 refine rn tk 9 rfl ?_
 refine ac 5 hr rfl (fun c3 hr => ?_) (fun c3 hr => ?_)
 ·
  refine rn tk 2 rfl ?_
  obtain ⟨v4, h5, hr⟩ := bind_some hr
  refine cl (basic_Fault_run _ _ _ h5) rfl rfl ?_
  refine rn tk 6 rfl ?_
  cases hr
  exact kr tk (.inr rfl) rfl rfl
 ·
  refine rn tk 6 rfl ?_
  refine ac 8 hr rfl (fun c6 hr => ?_) (fun c6 hr => ?_)
  ·
   refine rn tk 2 rfl ?_
   obtain ⟨v7, h8, hr⟩ := bind_some hr
   refine cl (basic_Fault_run _ _ _ h8) rfl rfl ?_
   refine rn tk 6 rfl ?_
   cases hr
   exact kr tk (.inr rfl) rfl rfl
  ·
   refine rn tk 5 rfl ?_
   obtain ⟨v9, h10, hr⟩ := bind_some hr
   refine cl (basic_None_run _ h10) rfl rfl ?_
   refine rn tk 4 rfl ?_
   cases hr
   exact kr tk (.inr rfl) rfl rfl
theorem message_write_run (a0 : TMessage) (r : List UInt8) (hr : message_write a0 = some r) : Run Tryz.prog 39 [.agg [.l TField.pc a0.Fields, .l cU a0.Body]] (.l cU r) := by
 unfold message_write at hr
 refine rf (fn := Tryz.f39) ⟨Tryz.func39, rfl, by kernel_rfl⟩ rfl (fun _ => rfl) fun g0 hg => ?_
 refine rn tk 9 rfl ?_
 refine awpl_adopt 1003 (d := 3) 5 1 rfl rfl rfl (hO ?_)
 refine rn tk 7 rfl ?_
 refine wn tk rfl rfl rfl ?_
 refine rn tk 4 rfl ?_
 refine al1 hr (fun s1 => [(1, .ptr 1 0), (3, .hs 1003 0), (11, .l TField.pc a0.Fields), (12, .i ((a0.Fields.length : Int))), (13, .i s1.1)]) (fun s1 => [(1003, .row 5 false 1 (List.map cU s1.2)), (1, .cells [.l TField.pc a0.Fields, .l cU a0.Body])]) (.exit 0) (fun b2 => [(1, .ptr 1 0), (3, .hs 1003 0)]) (fun b2 => [(1003, .row 5 false 1 (List.map cU b2)), (1, .cells [.l TField.pc a0.Fields, .l cU a0.Body])]) rfl rfl (fun s1 x3 hr => ?_) (fun b2 hr => ?_)
 ·
  unfold message_write_l1 at hr
  refine rn tk 6 rfl ?_
  refine ac 14 hr rfl (fun c4 hr => ?_) (fun c4 hr => ?_)
  ·
   refine rn tk 6 rfl ?_
   obtain ⟨v5, h6, hr⟩ := bind_some hr
   refine wi tk h6 rfl rfl rfl rfl rfl ?_
   refine rn tk 11 rfl ?_
   obtain ⟨v7, h8, hr⟩ := bind_some hr
   refine cl (fold_Fold_run _ _ _ h8) rfl rfl ?_
   refine rn tk 11 rfl ?_
   refine wn tk rfl rfl rfl ?_
   refine rn tk 4 rfl ?_
   refine al1 hr (fun s9 => [(1, .ptr 1 0), (3, .hs 1003 0), (11, .l TField.pc a0.Fields), (12, .i ((a0.Fields.length : Int))), (13, .i s1.1), (25, .l cS v7.1), (26, .i ((v7.1.length : Int))), (27, .i s9.1)]) (fun s9 => [(1003, .row 5 false 1 (List.map cU s9.2)), (1, .cells [.l TField.pc a0.Fields, .l cU a0.Body])]) (.exit 2) (fun b10 => [(1, .ptr 1 0), (3, .hs 1003 0), (11, .l TField.pc a0.Fields), (12, .i ((a0.Fields.length : Int))), (13, .i s1.1)]) (fun b10 => [(1003, .row 5 false 1 (List.map cU b10)), (1, .cells [.l TField.pc a0.Fields, .l cU a0.Body])]) rfl rfl (fun s9 x11 hr => ?_) (fun b10 hr => ?_)
   ·
    unfold message_write_l2 at hr
    refine rn tk 6 rfl ?_
    refine ac 28 hr rfl (fun c12 hr => ?_) (fun c12 hr => ?_)
    ·
     refine rn tk 6 rfl ?_
     obtain ⟨v13, h14, hr⟩ := bind_some hr
     refine wi tk h14 rfl rfl rfl rfl rfl ?_
     refine rn tk 7 rfl ?_
     obtain ⟨v15, h16, hr⟩ := bind_some hr
     refine wo (opTo_appends (k := 33) (l := s9.2) (s := v13) (lim := 140737488355328) rfl rfl rfl rfl ty_s_uint8 ty_string.u ty_uint8 rfl h16) rfl ?_
     refine wz cU ([(13 : UInt8), (10 : UInt8)] : List UInt8) tk rfl rfl (fun _ => rfl) rfl rfl rfl ?_
     obtain ⟨v17, h18, hr⟩ := bind_some hr
     refine wa tk h18 rfl rfl rfl rfl (fun _ => rfl) rfl rfl ?_
     refine rn tk 8 rfl ?_
     cases hr
     exact atc rfl rfl
    ·
     refine rn tk 2 rfl ?_
     cases hr
     exact ato rfl rfl rfl rfl
   ·
    refine rn tk 7 rfl ?_
    cases hr
    exact atc rfl rfl
  ·
   refine rn tk 2 rfl ?_
   cases hr
   exact ato rfl rfl rfl rfl
 ·
  refine rn tk 3 rfl ?_
  obtain ⟨v19, h20, hr⟩ := bind_some hr
  obtain ⟨v21, h22, hr⟩ := bind_some hr
  refine awp_explore [([false, false, false, false, false, false, false], [(1, .ptr 1 0), (3, .hs 1003 0)], [(1003, .row 5 false 1 (List.map cU b2)), (1, .cells [.l TField.pc a0.Fields, .l cU a0.Body])]), ([true, false, false, false, false, false, false], [(1, .ptr 1 0), (3, .hs 1003 0), (38, .hs 1003 0)], [(1003, .row 5 false 1 (List.map cU b2)), (1, .cells [.l TField.pc a0.Fields, .l cU a0.Body])]), ([false, true, false, false, false, false, false], [(1, .ptr 1 0), (3, .hs 1003 0), (39, .l cU (([(13 : UInt8), (10 : UInt8)] : List UInt8)))], [(1003, .row 5 false 1 (List.map cU b2)), (1, .cells [.l TField.pc a0.Fields, .l cU a0.Body])]), ([false, false, false, true, false, false, false], [(1, .ptr 1 0), (3, .hs 1003 0), (41, .ptr 1 1)], [(1003, .row 5 false 1 (List.map cU b2)), (1, .cells [.l TField.pc a0.Fields, .l cU a0.Body])]), ([true, true, false, false, false, false, false], [(1, .ptr 1 0), (3, .hs 1003 0), (38, .hs 1003 0), (39, .l cU (([(13 : UInt8), (10 : UInt8)] : List UInt8)))], [(1003, .row 5 false 1 (List.map cU b2)), (1, .cells [.l TField.pc a0.Fields, .l cU a0.Body])]), ([true, false, false, true, false, false, false], [(1, .ptr 1 0), (3, .hs 1003 0), (38, .hs 1003 0), (41, .ptr 1 1)], [(1003, .row 5 false 1 (List.map cU b2)), (1, .cells [.l TField.pc a0.Fields, .l cU a0.Body])]), ([false, true, false, true, false, false, false], [(1, .ptr 1 0), (3, .hs 1003 0), (39, .l cU (([(13 : UInt8), (10 : UInt8)] : List UInt8))), (41, .ptr 1 1)], [(1003, .row 5 false 1 (List.map cU b2)), (1, .cells [.l TField.pc a0.Fields, .l cU a0.Body])]), ([false, false, false, true, true, false, false], [(1, .ptr 1 0), (3, .hs 1003 0), (41, .ptr 1 1), (42, .l cU a0.Body)], [(1003, .row 5 false 1 (List.map cU b2)), (1, .cells [.l TField.pc a0.Fields, .l cU a0.Body])]), ([true, true, true, false, false, false, false], [(1, .ptr 1 0), (39, .l cU (([(13 : UInt8), (10 : UInt8)] : List UInt8))), (40, .hs 1003 0)], [(1003, .row 5 false 1 (List.map cU v19)), (1, .cells [.l TField.pc a0.Fields, .l cU a0.Body])]), ([true, true, false, true, false, false, false], [(1, .ptr 1 0), (3, .hs 1003 0), (38, .hs 1003 0), (39, .l cU (([(13 : UInt8), (10 : UInt8)] : List UInt8))), (41, .ptr 1 1)], [(1003, .row 5 false 1 (List.map cU b2)), (1, .cells [.l TField.pc a0.Fields, .l cU a0.Body])]), ([true, false, false, true, true, false, false], [(1, .ptr 1 0), (3, .hs 1003 0), (38, .hs 1003 0), (41, .ptr 1 1), (42, .l cU a0.Body)], [(1003, .row 5 false 1 (List.map cU b2)), (1, .cells [.l TField.pc a0.Fields, .l cU a0.Body])]), ([false, true, false, true, true, false, false], [(1, .ptr 1 0), (3, .hs 1003 0), (39, .l cU (([(13 : UInt8), (10 : UInt8)] : List UInt8))), (41, .ptr 1 1), (42, .l cU a0.Body)], [(1003, .row 5 false 1 (List.map cU b2)), (1, .cells [.l TField.pc a0.Fields, .l cU a0.Body])]), ([true, true, true, true, false, false, false], [(1, .ptr 1 0), (39, .l cU (([(13 : UInt8), (10 : UInt8)] : List UInt8))), (40, .hs 1003 0), (41, .ptr 1 1)], [(1003, .row 5 false 1 (List.map cU v19)), (1, .cells [.l TField.pc a0.Fields, .l cU a0.Body])]), ([true, true, false, true, true, false, false], [(1, .ptr 1 0), (3, .hs 1003 0), (38, .hs 1003 0), (39, .l cU (([(13 : UInt8), (10 : UInt8)] : List UInt8))), (41, .ptr 1 1), (42, .l cU a0.Body)], [(1003, .row 5 false 1 (List.map cU b2)), (1, .cells [.l TField.pc a0.Fields, .l cU a0.Body])]), ([true, true, true, true, true, false, false], [(1, .ptr 1 0), (39, .l cU (([(13 : UInt8), (10 : UInt8)] : List UInt8))), (40, .hs 1003 0), (41, .ptr 1 1), (42, .l cU a0.Body)], [(1003, .row 5 false 1 (List.map cU v19)), (1, .cells [.l TField.pc a0.Fields, .l cU a0.Body])]), ([true, true, true, true, true, true, false], [(1, .ptr 1 0), (39, .l cU (([(13 : UInt8), (10 : UInt8)] : List UInt8))), (41, .ptr 1 1), (42, .l cU a0.Body), (43, .hs 1003 0)], [(1003, .row 5 false 1 (List.map cU v21)), (1, .cells [.l TField.pc a0.Fields, .l cU a0.Body])]), ([true, true, true, true, true, true, true], [(1, .ptr 1 0), (2, .hs 1003 0), (39, .l cU (([(13 : UInt8), (10 : UInt8)] : List UInt8))), (41, .ptr 1 1), (42, .l cU a0.Body), (43, .hs 1003 0)], [(1003, .row 5 false 1 (List.map cU v21)), (1, .cells [.l TField.pc a0.Fields, .l cU a0.Body])])] mixed (by kernel_rfl) rfl rfl (frLe_cons rfl (frLe_cons rfl frLe_nil)) (stoLe_cons rfl (stoLe_cons rfl stoLe_nil)) (.cons (.step [0, 1, 3] (by kernel_rfl) rfl (.cons (.yes 1 rfl (wanted_plain rfl) (opTo_q (d := 38) rfl rfl ev_move) rfl (frLe_cons rfl (frLe_cons rfl (frLe_cons rfl frLe_nil))) (stoLe_cons rfl (stoLe_cons rfl stoLe_nil))) (.cons (.yes 2 rfl (wanted_plain rfl) (opTo_g (d := 39) rfl rfl (opG_lit (F := cU) (l := ([(13 : UInt8), (10 : UInt8)] : List UInt8)) ty_s_uint8 ty_uint8 rfl (fun _ => rfl) rfl rfl)) rfl (frLe_cons rfl (frLe_cons rfl (frLe_cons rfl frLe_nil))) (stoLe_cons rfl (stoLe_cons rfl stoLe_nil))) (.cons (.yes 3 rfl (wanted_plain rfl) (opTo_q (d := 41) rfl rfl (ev_fieldAddr rfl ty_api_Message.u rfl ty_s_uint8 rfl)) rfl (frLe_cons rfl (frLe_cons rfl (frLe_cons rfl frLe_nil))) (stoLe_cons rfl (stoLe_cons rfl stoLe_nil))) .nil)))) (.cons (.step [1, 3] (by kernel_rfl) rfl (.cons (.yes 4 rfl (wanted_plain rfl) (opTo_g (d := 39) rfl rfl (opG_lit (F := cU) (l := ([(13 : UInt8), (10 : UInt8)] : List UInt8)) ty_s_uint8 ty_uint8 rfl (fun _ => rfl) rfl rfl)) rfl (frLe_cons rfl (frLe_cons rfl (frLe_cons rfl (frLe_cons rfl frLe_nil)))) (stoLe_cons rfl (stoLe_cons rfl stoLe_nil))) (.cons (.yes 5 rfl (wanted_plain rfl) (opTo_q (d := 41) rfl rfl (ev_fieldAddr rfl ty_api_Message.u rfl ty_s_uint8 rfl)) rfl (frLe_cons rfl (frLe_cons rfl (frLe_cons rfl (frLe_cons rfl frLe_nil)))) (stoLe_cons rfl (stoLe_cons rfl stoLe_nil))) .nil))) (.cons (.step [0, 3] (by kernel_rfl) rfl (.cons (.yes 4 rfl (wanted_plain rfl) (opTo_q (d := 38) rfl rfl ev_move) rfl (frLe_cons rfl (frLe_cons rfl (frLe_cons rfl (frLe_cons rfl frLe_nil)))) (stoLe_cons rfl (stoLe_cons rfl stoLe_nil))) (.cons (.yes 6 rfl (wanted_plain rfl) (opTo_q (d := 41) rfl rfl (ev_fieldAddr rfl ty_api_Message.u rfl ty_s_uint8 rfl)) rfl (frLe_cons rfl (frLe_cons rfl (frLe_cons rfl (frLe_cons rfl frLe_nil)))) (stoLe_cons rfl (stoLe_cons rfl stoLe_nil))) .nil))) (.cons (.step [0, 1, 4] (by kernel_rfl) rfl (.cons (.yes 5 rfl (wanted_plain rfl) (opTo_q (d := 38) rfl rfl ev_move) rfl (frLe_cons rfl (frLe_cons rfl (frLe_cons rfl (frLe_cons rfl frLe_nil)))) (stoLe_cons rfl (stoLe_cons rfl stoLe_nil))) (.cons (.yes 6 rfl (wanted_plain rfl) (opTo_g (d := 39) rfl rfl (opG_lit (F := cU) (l := ([(13 : UInt8), (10 : UInt8)] : List UInt8)) ty_s_uint8 ty_uint8 rfl (fun _ => rfl) rfl rfl)) rfl (frLe_cons rfl (frLe_cons rfl (frLe_cons rfl (frLe_cons rfl frLe_nil)))) (stoLe_cons rfl (stoLe_cons rfl stoLe_nil))) (.cons (.yes 7 rfl (wanted_plain rfl) (opTo_q (d := 42) rfl rfl (ev_load rfl rfl ty_s_uint8 rfl rfl)) rfl (frLe_cons rfl (frLe_cons rfl (frLe_cons rfl (frLe_cons rfl frLe_nil)))) (stoLe_cons rfl (stoLe_cons rfl stoLe_nil))) .nil)))) (.cons (.step [2, 3] (by kernel_rfl) rfl (.cons (.yes 8 rfl (wanted_plain rfl) (opTo_append (k := 40) (F := cU) (l := b2) (xs := (([(13 : UInt8), (10 : UInt8)] : List UInt8))) (lim := 140737488355328) rfl rfl rfl rfl ty_s_uint8 ty_uint8 rfl rfl (fun _ => rfl) rfl h20) rfl (frLe_cons rfl (frLe_cons rfl (frLe_cons rfl frLe_nil))) (stoLe_cons rfl (stoLe_cons rfl stoLe_nil))) (.cons (.yes 9 rfl (wanted_plain rfl) (opTo_q (d := 41) rfl rfl (ev_fieldAddr rfl ty_api_Message.u rfl ty_s_uint8 rfl)) rfl (frLe_cons rfl (frLe_cons rfl (frLe_cons rfl (frLe_cons rfl (frLe_cons rfl frLe_nil))))) (stoLe_cons rfl (stoLe_cons rfl stoLe_nil))) .nil))) (.cons (.step [1, 4] (by kernel_rfl) rfl (.cons (.yes 9 rfl (wanted_plain rfl) (opTo_g (d := 39) rfl rfl (opG_lit (F := cU) (l := ([(13 : UInt8), (10 : UInt8)] : List UInt8)) ty_s_uint8 ty_uint8 rfl (fun _ => rfl) rfl rfl)) rfl (frLe_cons rfl (frLe_cons rfl (frLe_cons rfl (frLe_cons rfl (frLe_cons rfl frLe_nil))))) (stoLe_cons rfl (stoLe_cons rfl stoLe_nil))) (.cons (.yes 10 rfl (wanted_plain rfl) (opTo_q (d := 42) rfl rfl (ev_load rfl rfl ty_s_uint8 rfl rfl)) rfl (frLe_cons rfl (frLe_cons rfl (frLe_cons rfl (frLe_cons rfl (frLe_cons rfl frLe_nil))))) (stoLe_cons rfl (stoLe_cons rfl stoLe_nil))) .nil))) (.cons (.step [0, 4] (by kernel_rfl) rfl (.cons (.yes 9 rfl (wanted_plain rfl) (opTo_q (d := 38) rfl rfl ev_move) rfl (frLe_cons rfl (frLe_cons rfl (frLe_cons rfl (frLe_cons rfl (frLe_cons rfl frLe_nil))))) (stoLe_cons rfl (stoLe_cons rfl stoLe_nil))) (.cons (.yes 11 rfl (wanted_plain rfl) (opTo_q (d := 42) rfl rfl (ev_load rfl rfl ty_s_uint8 rfl rfl)) rfl (frLe_cons rfl (frLe_cons rfl (frLe_cons rfl (frLe_cons rfl (frLe_cons rfl frLe_nil))))) (stoLe_cons rfl (stoLe_cons rfl stoLe_nil))) .nil))) (.cons (.step [0, 1] (by kernel_rfl) rfl (.cons (.yes 10 rfl (wanted_plain rfl) (opTo_q (d := 38) rfl rfl ev_move) rfl (frLe_cons rfl (frLe_cons rfl (frLe_cons rfl (frLe_cons rfl (frLe_cons rfl frLe_nil))))) (stoLe_cons rfl (stoLe_cons rfl stoLe_nil))) (.cons (.yes 11 rfl (wanted_plain rfl) (opTo_g (d := 39) rfl rfl (opG_lit (F := cU) (l := ([(13 : UInt8), (10 : UInt8)] : List UInt8)) ty_s_uint8 ty_uint8 rfl (fun _ => rfl) rfl rfl)) rfl (frLe_cons rfl (frLe_cons rfl (frLe_cons rfl (frLe_cons rfl (frLe_cons rfl frLe_nil))))) (stoLe_cons rfl (stoLe_cons rfl stoLe_nil))) .nil))) (.cons (.step [3] (by kernel_rfl) rfl (.cons (.yes 12 rfl (wanted_plain rfl) (opTo_q (d := 41) rfl rfl (ev_fieldAddr rfl ty_api_Message.u rfl ty_s_uint8 rfl)) rfl (frLe_cons rfl (frLe_cons rfl (frLe_cons rfl (frLe_cons rfl frLe_nil)))) (stoLe_cons rfl (stoLe_cons rfl stoLe_nil))) .nil)) (.cons (.step [2, 4] (by kernel_rfl) rfl (.cons (.yes 12 rfl (wanted_plain rfl) (opTo_append (k := 40) (F := cU) (l := b2) (xs := (([(13 : UInt8), (10 : UInt8)] : List UInt8))) (lim := 140737488355328) rfl rfl rfl rfl ty_s_uint8 ty_uint8 rfl rfl (fun _ => rfl) rfl h20) rfl (frLe_cons rfl (frLe_cons rfl (frLe_cons rfl (frLe_cons rfl frLe_nil)))) (stoLe_cons rfl (stoLe_cons rfl stoLe_nil))) (.cons (.yes 13 rfl (wanted_plain rfl) (opTo_q (d := 42) rfl rfl (ev_load rfl rfl ty_s_uint8 rfl rfl)) rfl (frLe_cons rfl (frLe_cons rfl (frLe_cons rfl (frLe_cons rfl (frLe_cons rfl (frLe_cons rfl frLe_nil)))))) (stoLe_cons rfl (stoLe_cons rfl stoLe_nil))) .nil))) (.cons (.step [1] (by kernel_rfl) rfl (.cons (.yes 13 rfl (wanted_plain rfl) (opTo_g (d := 39) rfl rfl (opG_lit (F := cU) (l := ([(13 : UInt8), (10 : UInt8)] : List UInt8)) ty_s_uint8 ty_uint8 rfl (fun _ => rfl) rfl rfl)) rfl (frLe_cons rfl (frLe_cons rfl (frLe_cons rfl (frLe_cons rfl (frLe_cons rfl (frLe_cons rfl frLe_nil)))))) (stoLe_cons rfl (stoLe_cons rfl stoLe_nil))) .nil)) (.cons (.step [0] (by kernel_rfl) rfl (.cons (.yes 13 rfl (wanted_plain rfl) (opTo_q (d := 38) rfl rfl ev_move) rfl (frLe_cons rfl (frLe_cons rfl (frLe_cons rfl (frLe_cons rfl (frLe_cons rfl (frLe_cons rfl frLe_nil)))))) (stoLe_cons rfl (stoLe_cons rfl stoLe_nil))) .nil)) (.cons (.step [4] (by kernel_rfl) rfl (.cons (.yes 14 rfl (wanted_plain rfl) (opTo_q (d := 42) rfl rfl (ev_load rfl rfl ty_s_uint8 rfl rfl)) rfl (frLe_cons rfl (frLe_cons rfl (frLe_cons rfl (frLe_cons rfl (frLe_cons rfl frLe_nil))))) (stoLe_cons rfl (stoLe_cons rfl stoLe_nil))) .nil)) (.cons (.step [2] (by kernel_rfl) rfl (.cons (.yes 14 rfl (wanted_plain rfl) (opTo_append (k := 40) (F := cU) (l := b2) (xs := (([(13 : UInt8), (10 : UInt8)] : List UInt8))) (lim := 140737488355328) rfl rfl rfl rfl ty_s_uint8 ty_uint8 rfl rfl (fun _ => rfl) rfl h20) rfl (frLe_cons rfl (frLe_cons rfl (frLe_cons rfl (frLe_cons rfl (frLe_cons rfl frLe_nil))))) (stoLe_cons rfl (stoLe_cons rfl stoLe_nil))) .nil)) (.cons (.step [5] (by kernel_rfl) rfl (.cons (.yes 15 rfl (wanted_plain rfl) (opTo_append (k := 43) (F := cU) (l := v19) (xs := a0.Body) (lim := 140737488355328) rfl rfl rfl rfl ty_s_uint8 ty_uint8 rfl rfl (fun _ => rfl) rfl h22) rfl (frLe_cons rfl (frLe_cons rfl (frLe_cons rfl (frLe_cons rfl (frLe_cons rfl frLe_nil))))) (stoLe_cons rfl (stoLe_cons rfl stoLe_nil))) .nil)) (.cons (.step [6] (by kernel_rfl) rfl (.cons (.yes 16 rfl (wanted_plain rfl) (opTo_q (d := 2) rfl rfl ev_assign) rfl (frLe_cons rfl (frLe_cons rfl (frLe_cons rfl (frLe_cons rfl (frLe_cons rfl (frLe_cons rfl frLe_nil)))))) (stoLe_cons rfl (stoLe_cons rfl stoLe_nil))) .nil)) (.cons (.full (by kernel_rfl) (hA ?_)) .nil)))))))))))))))))
  refine rn tk 1 rfl ?_
  refine awp_pub (d := 2) (F := cU) (l := v21) rfl rfl (hC ?_)
  refine rn tk 1 rfl ?_
  cases hr
  exact kr tk (.inr rfl) rfl rfl
theorem message_Validate_run (a0 : TMessage) (r : TFault) (hr : message_Validate a0 = some r) : Run Tryz.prog 17 [.agg [.l TField.pc a0.Fields, .l cU a0.Body]] (.agg [.i r.Code, .i r.Index]) := by
 unfold message_Validate at hr
 refine rf (fn := Tryz.f17) ⟨Tryz.func17, rfl, by kernel_rfl⟩ rfl (fun _ => rfl) fun g0 hg => ?_
 refine rn tk 11 rfl ?_
 obtain ⟨v1, h2, hr⟩ := bind_some hr
 refine cl (header_Validate_run _ _ h2) rfl rfl ?_
 refine rn tk 7 rfl ?_
 obtain ⟨v3, h4, hr⟩ := bind_some hr
 refine cl (basic_Failed_run _ _ h4) rfl rfl ?_
 refine rn tk 2 rfl ?_
 refine ac 8 hr rfl (fun c5 hr => ?_) (fun c5 hr => ?_)
 ·
  refine rn tk 8 rfl ?_
  cases hr
  exact kr tk (.inr rfl) rfl rfl
 ·
  refine rn tk 6 rfl ?_
  obtain ⟨v6, h7, hr⟩ := bind_some hr
  refine cl (message_write_run _ _ h7) rfl rfl ?_
  refine wn tk rfl rfl rfl ?_
  refine rn tk 3 rfl ?_
  refine ac 13 hr rfl (fun c8 hr => ?_) (fun c8 hr => ?_)
  ·
   refine rn tk 2 rfl ?_
   obtain ⟨v9, h10, hr⟩ := bind_some hr
   refine cl (basic_Fault_run _ _ _ h10) rfl rfl ?_
   refine rn tk 5 rfl ?_
   cases hr
   exact kr tk (.inr rfl) rfl rfl
  ·
   refine rn tk 6 rfl ?_
   obtain ⟨v11, h12, hr⟩ := bind_some hr
   refine cl (message_body_run _ _ h12) rfl rfl ?_
   refine rn tk 4 rfl ?_
   cases hr
   exact kr tk (.inr rfl) rfl rfl
end Go.Proofs.YtpbanomkkkongaaGreatDoor

/- Library functions compute what their Lean functions do: texts split. -/
namespace Go.Proofs.YtpbanomkkkongaaGreatDoor
open Go.RowKit
set_option maxRecDepth 100000
theorem str_argS {g : G} {s : Str} {v : Value} (h : Rel g (.s s) v) : v = .string (strB s) := rel_b h
theorem strings_Split_run (s t : Str) (r : List Str) (hr : strings_Split s t = some r) : Run Tryz.prog 61 [.s s, .s t] (.l cS r) := by
  unfold strings_Split at hr
  split at hr
  case isFalse => cases hr
  rename_i hlen
  cases hr
  refine ⟨⟨_, _, ⟨Tryz.func61, rfl, by kernel_rfl⟩⟩, fun g vs hw hg ha => ?_⟩
  obtain ⟨hsz, hrel⟩ := ha
  obtain ⟨vl⟩ := vs
  match vl, hsz with
  | [x, y], _ =>
    obtain rfl := str_argS (hrel 0 _ rfl)
    obtain rfl := str_argS (hrel 1 _ rfl)
    obtain ⟨_, _, m, hm⟩ := hg.1 (0, 0) (by simp [globs])
    have hlen2 := Lib.splitB_all (strB t) (by rw [strB_size]; exact hlen.2) 0 _ (strB s) rfl
    generalize hL : Lib.splitB (strB t) 0 (Lib.countB (strB s) (strB t)) (strB s) = L at hlen2
    refine callsIn_wide.2 ((Tryz.strings_Split (strB s) (strB t) m g.w (by rw [strB_size]; exact hlen.1) hm (by rw [strB_size]; exact hlen.2)).mono ?_)
    rintro e w' ⟨rfl, rfl⟩
    rw [hL, ← hlen2]
    have hout : ((L.map Value.string).toArray).size = L.length := by simp
    have hold := old_alloc g (L.map Value.string).toArray 9 L.length 0 (g.loc 0)
    have hwf := wf_alloc hw (L.map Value.string).toArray 9 L.length 0 (g.loc 0)
    have hloc : (g.alloc (L.map Value.string).toArray 9 L.length 0 (g.loc 0)).loc = g.loc := by
      funext q; show (if q = 0 then g.loc 0 else g.loc q) = g.loc q; split <;> simp_all
    refine ⟨g.alloc (L.map Value.string).toArray 9 L.length 0 (g.loc 0), _, rfl, hloc, hold, hwf, rfl, ?_⟩
    have hh : (g.alloc (L.map Value.string).toArray 9 L.length 0 (g.loc 0)).w.heap[g.w.heap.size]? = some (.cells (L.map Value.string).toArray 9 (0, 0)) := heap_alloc_new _ _
    have hlm : L.length = (L.map fun b => b.data.toList).length := by simp
    rw [show (Value.slice (some ⟨g.w.heap.size, 0, none⟩) L.length L.length) = .slice (some ⟨g.w.heap.size, 0, none⟩) (L.map fun b => b.data.toList).length L.length by rw [← hlm]]
    refine rel_new (g := g) (cap := L.length) (F := cS) (size := 1) (l := L.map fun b => b.data.toList) (out := (L.map Value.string).toArray) (fun _ => rfl) (by simp) (by simp) (by rw [hh]; simp) (fun i hi => cell_of_heap hh hi) (by rw [Nat.mul_one, ← hlm]; exact if_pos rfl) ?_
    intro i j x c hi hj
    simp only [List.getElem?_map, Option.map_eq_some_iff] at hi
    obtain ⟨b, hb, rfl⟩ := hi
    have hj0 : j = 0 ∧ c = .b (.string (strB b.data.toList)) := by
      cases j with
      | zero => exact ⟨rfl, (Option.some.inj hj).symm⟩
      | succ j => cases hj
    obtain ⟨rfl, rfl⟩ := hj0
    have : ((L.map Value.string).toArray).getD (i * 1 + 0) undef = .string (strB b.data.toList) := by
      rw [Array.getD_eq_getD_getElem?]
      simp [hb, strB]
    rw [this]
    exact .b rfl
end Go.Proofs.YtpbanomkkkongaaGreatDoor

namespace Go.Proofs.YtpbanomkkkongaaGreatDoor
open Go.RowKit
set_option maxRecDepth 100000
set_option maxHeartbeats 40000000
set_option linter.unusedVariables false
theorem basic_Letter_run (a0 : UInt8) (r : Bool) (hr : basic_Letter a0 = some r) : Run Tryz.prog 43 [.u8 a0] (.bo r) := by
 unfold basic_Letter at hr
 refine rf (fn := Tryz.f43) ⟨Tryz.func43, rfl, by kernel_rfl⟩ rfl (fun _ => rfl) fun g0 hg => ?_
 refine rn tk 5 rfl ?_
 refine jb hr (fun j1 => [(2, .bo j1)]) (fun j1 => []) (fun j1 hr => ?_) (fun j1 hr => ?_)
 ·
  refine rn tk 4 rfl ?_
  refine bs 5 hr rfl (fun c2 hr => ?_) (fun c2 hr => ?_)
  ·
   refine rn tk 4 rfl ?_
   refine bs 9 hr rfl (fun c3 hr => ?_) (fun c3 hr => ?_)
   ·
    refine rn tk 17 rfl ?_
    cases hr
    exact jn _ rfl rfl rfl
   ·
    refine rn tk 3 rfl ?_
    refine bs 12 hr rfl (fun c4 hr => ?_) (fun c4 hr => ?_)
    ·
     refine rn tk 5 rfl ?_
     refine bs 17 hr rfl (fun c5 hr => ?_) (fun c5 hr => ?_)
     ·
      refine rn tk 9 rfl ?_
      cases hr
      exact jn _ rfl rfl rfl
     ·
      refine rn tk 3 rfl ?_
      refine bs 20 hr rfl (fun c6 hr => ?_) (fun c6 hr => ?_)
      ·
       refine rn tk 6 rfl ?_
       cases hr
       exact jn _ rfl rfl rfl
      ·
       refine rn tk 6 rfl ?_
       cases hr
       exact jn _ rfl rfl rfl
    ·
     refine rn tk 8 rfl ?_
     refine bs 20 hr rfl (fun c7 hr => ?_) (fun c7 hr => ?_)
     ·
      refine rn tk 6 rfl ?_
      cases hr
      exact jn _ rfl rfl rfl
     ·
      refine rn tk 6 rfl ?_
      cases hr
      exact jn _ rfl rfl rfl
  ·
   refine rn tk 7 rfl ?_
   refine bs 12 hr rfl (fun c8 hr => ?_) (fun c8 hr => ?_)
   ·
    refine rn tk 5 rfl ?_
    refine bs 17 hr rfl (fun c9 hr => ?_) (fun c9 hr => ?_)
    ·
     refine rn tk 9 rfl ?_
     cases hr
     exact jn _ rfl rfl rfl
    ·
     refine rn tk 3 rfl ?_
     refine bs 20 hr rfl (fun c10 hr => ?_) (fun c10 hr => ?_)
     ·
      refine rn tk 6 rfl ?_
      cases hr
      exact jn _ rfl rfl rfl
     ·
      refine rn tk 6 rfl ?_
      cases hr
      exact jn _ rfl rfl rfl
   ·
    refine rn tk 8 rfl ?_
    refine bs 20 hr rfl (fun c11 hr => ?_) (fun c11 hr => ?_)
    ·
     refine rn tk 6 rfl ?_
     cases hr
     exact jn _ rfl rfl rfl
    ·
     refine rn tk 6 rfl ?_
     cases hr
     exact jn _ rfl rfl rfl
 ·
  refine rn tk 1 rfl ?_
  cases hr
  exact kr tk (.inr rfl) rfl rfl
theorem basic_Name_run (a0 : Str) (r : Bool) (hr : basic_Name a0 = some r) : Run Tryz.prog 19 [.s a0] (.bo r) := by
 unfold basic_Name at hr
 refine rf (fn := Tryz.f19) ⟨Tryz.func19, rfl, by kernel_rfl⟩ rfl (fun _ => rfl) fun g0 hg => ?_
 refine rn tk 5 rfl ?_
 refine jb hr (fun j1 => [(2, .bo j1)]) (fun j1 => []) (fun j1 hr => ?_) (fun j1 hr => ?_)
 ·
  refine rn tk 4 rfl ?_
  refine bs 5 hr rfl (fun c2 hr => ?_) (fun c2 hr => ?_)
  ·
   refine rn tk 5 rfl ?_
   refine bs 10 hr rfl (fun c3 hr => ?_) (fun c3 hr => ?_)
   ·
    refine rn tk 1 rfl ?_
    refine ug rfl rfl rfl ?_
    refine ct hr (fun j4 => [(10, .bo true), (12, .bo j4)]) (fun j4 => []) (fun j4 hr jump4 => ?_) (fun j4 hr => ?_)
    ·
     refine il (fn := Tryz.f41) (args := [.s a0, .fn (.func 42) [] []]) 400000 499999 [(10, .bo true)] rfl ⟨Tryz.func41, rfl, by kernel_rfl⟩ rfl rfl rfl fun T4 ds4 => ?_
     refine rn tk 14 rfl ?_
     refine al2 hr (fun s5 => [(0, .s a0), (1, .fn (.func 42) [] []), (7, .i ((a0.length : Int))), (8, .i s5)]) (fun s5 => [(499999, .sus g0.w.heap.size ds4), (400010, .hold (.bo true) (T4.getD 10 undef))]) (.exit 0) (fun b6 => []) (fun b6 => [(499999, .sus g0.w.heap.size ds4), (400010, .hold (.bo true) (T4.getD 10 undef))]) .ret (fun b7 => [(4, .bo false)]) (fun b7 => [(499999, .sus g0.w.heap.size ds4), (400010, .hold (.bo true) (T4.getD 10 undef))]) rfl rfl (fun s5 x9 hr => ?_) (fun b6 hr => ?_) (fun b7 hr => ?_)
     ·
      unfold basic_Name_l1 at hr
      refine rn tk 6 rfl ?_
      refine ac 9 hr rfl (fun c10 hr => ?_) (fun c10 hr => ?_)
      ·
       refine rn tk 15 rfl ?_
       obtain ⟨v11, h12, hr⟩ := bind_some hr
       refine ws tk h12 rfl rfl rfl rfl ?_
       refine il (fn := Tryz.f42) (args := [.u8 v11]) 600000 699999 [(0, .s a0), (1, .fn (.func 42) [] []), (7, .i ((a0.length : Int))), (8, .i s5)] rfl ⟨Tryz.func42, rfl, by kernel_rfl⟩ rfl rfl rfl fun T6 ds6 => ?_
       refine rn tk 5 rfl ?_
       refine jb hr (fun j13 => [(2, .bo j13)]) (fun j13 => [(699999, .sus g0.w.heap.size ds6), (600000, .hold (.s a0) (T6.getD 0 undef)), (600001, .hold (.fn (.func 42) [] []) (T6.getD 1 undef)), (600007, .hold (.i ((a0.length : Int))) (T6.getD 7 undef)), (600008, .hold (.i s5) (T6.getD 8 undef)), (499999, .sus g0.w.heap.size ds4), (400010, .hold (.bo true) (T4.getD 10 undef))]) (fun j13 hr => ?_) (fun j13 hr => ?_)
       ·
        refine rn tk 2 rfl ?_
        obtain ⟨v14, h15, hr⟩ := bind_some hr
        refine cl (basic_Letter_run _ _ h15) rfl rfl ?_
        refine rn tk 1 rfl ?_
        refine bs 5 hr rfl (fun c16 hr => ?_) (fun c16 hr => ?_)
        ·
         refine rn tk 13 rfl ?_
         cases hr
         exact jn _ rfl rfl rfl
        ·
         refine rn tk 4 rfl ?_
         refine bs 9 hr rfl (fun c17 hr => ?_) (fun c17 hr => ?_)
         ·
          refine rn tk 9 rfl ?_
          cases hr
          exact jn _ rfl rfl rfl
         ·
          refine rn tk 4 rfl ?_
          refine bs 13 hr rfl (fun c18 hr => ?_) (fun c18 hr => ?_)
          ·
           refine rn tk 5 rfl ?_
           cases hr
           exact jn _ rfl rfl rfl
          ·
           refine rn tk 5 rfl ?_
           cases hr
           exact jn _ rfl rfl rfl
       ·
        refine rn tk 1 rfl ?_
        refine ie tk [.bo j13] [(0, .s a0), (1, .fn (.func 42) [] []), (7, .i ((a0.length : Int))), (8, .i s5)] [(499999, .sus g0.w.heap.size ds4), (400010, .hold (.bo true) (T4.getD 10 undef))] (.inr rfl) rfl rfl rfl rfl (hO ?_)
        refine rn tk 3 rfl ?_
        refine ac 16 hr rfl (fun c19 hr => ?_) (fun c19 hr => ?_)
        ·
         refine rn tk 8 rfl ?_
         cases hr
         exact ato rfl rfl rfl rfl
        ·
         refine rn tk 7 rfl ?_
         cases hr
         exact atc rfl rfl
      ·
       refine rn tk 2 rfl ?_
       cases hr
       exact ato rfl rfl rfl rfl
     ·
      refine rn tk 8 rfl ?_
      refine ie tk [.bo true] [(10, .bo true)] [] (.inr rfl) rfl rfl rfl rfl ?_
      cases hr
      exact jump4 _ _ rfl rfl
     ·
      refine rn tk 2 rfl ?_
      refine ie tk [.bo false] [(10, .bo true)] [] (.inr rfl) rfl rfl rfl rfl ?_
      cases hr
      exact jump4 _ _ rfl rfl
    ·
     refine rn tk 3 rfl ?_
     cases hr
     exact jn _ rfl rfl rfl
   ·
    refine rn tk 5 rfl ?_
    cases hr
    exact jn _ rfl rfl rfl
  ·
   refine rn tk 10 rfl ?_
   cases hr
   exact jn _ rfl rfl rfl
 ·
  refine rn tk 1 rfl ?_
  cases hr
  exact kr tk (.inr rfl) rfl rfl
theorem trace_host_run (a0 : Str) (r : Str) (hr : trace_host a0 = some r) : Run Tryz.prog 30 [.s a0] (.s r) := by
 unfold trace_host at hr
 refine rf (fn := Tryz.f30) ⟨Tryz.func30, rfl, by kernel_rfl⟩ rfl (fun _ => rfl) fun g0 hg => ?_
 refine rn tk 8 rfl ?_
 obtain ⟨v1, h2, hr⟩ := bind_some hr
 refine cl (strings_Split_run _ _ _ h2) rfl rfl ?_
 refine rn tk 4 rfl ?_
 refine jb hr (fun j3 => [(3, .l cS v1), (21, .bo j3)]) (fun j3 => []) (fun j3 hr => ?_) (fun j3 hr => ?_)
 ·
  refine rn tk 2 rfl ?_
  refine wn tk rfl rfl rfl ?_
  refine rn tk 2 rfl ?_
  refine bs 9 hr rfl (fun c4 hr => ?_) (fun c4 hr => ?_)
  ·
   refine rn tk 13 rfl ?_
   cases hr
   exact jn _ rfl rfl rfl
  ·
   refine rn tk 1 rfl ?_
   obtain ⟨v5, h6, hr⟩ := bind_some hr
   refine ug rfl rfl rfl ?_
   refine wi tk h6 rfl rfl rfl rfl rfl ?_
   refine rn tk 4 rfl ?_
   refine bs 15 hr rfl (fun c7 hr => ?_) (fun c7 hr => ?_)
   ·
    refine rn tk 7 rfl ?_
    cases hr
    exact jn _ rfl rfl rfl
   ·
    refine rn tk 1 rfl ?_
    obtain ⟨v8, h9, hr⟩ := bind_some hr
    refine ug rfl rfl rfl ?_
    refine wi tk h9 rfl rfl rfl rfl rfl ?_
    refine rn tk 1 rfl ?_
    obtain ⟨v10, h11, hr⟩ := bind_some hr
    refine ug rfl rfl rfl ?_
    refine cl (basic_Name_run _ _ h11) rfl rfl ?_
    refine rn tk 3 rfl ?_
    cases hr
    exact jn _ rfl rfl rfl
 ·
  refine ac 21 hr rfl (fun c12 hr => ?_) (fun c12 hr => ?_)
  ·
   refine rn tk 7 rfl ?_
   cases hr
   exact kr tk (.inr rfl) rfl rfl
  ·
   refine rn tk 5 rfl ?_
   obtain ⟨v13, h14, hr⟩ := bind_some hr
   refine wi tk h14 rfl rfl rfl rfl rfl ?_
   refine rn tk 5 rfl ?_
   cases hr
   exact kr tk (.inr rfl) rfl rfl
theorem trace_Hops_run (a0 : TMessage) (r : (List Str) × TFault) (hr : trace_Hops a0 = some r) : Run Tryz.prog 11 [.agg [.l TField.pc a0.Fields, .l cU a0.Body]] (.tup [.l cS r.1, .agg [.i r.2.Code, .i r.2.Index]]) := by
 unfold trace_Hops at hr
 refine rf (fn := Tryz.f11) ⟨Tryz.func11, rfl, by kernel_rfl⟩ rfl (fun _ => rfl) fun g0 hg => ?_
 refine rn tk 11 rfl ?_
 obtain ⟨v1, h2, hr⟩ := bind_some hr
 refine cl (message_Validate_run _ _ h2) rfl rfl ?_
 refine rn tk 7 rfl ?_
 obtain ⟨v3, h4, hr⟩ := bind_some hr
 refine cl (basic_Failed_run _ _ h4) rfl rfl ?_
 refine rn tk 2 rfl ?_
 refine ac 11 hr rfl (fun c5 hr => ?_) (fun c5 hr => ?_)
 ·
  refine rn tk 1 rfl ?_
  refine dr 2 [(2, .pv (.sl (some true) [])), (12, .agg [.i v1.Code, .i v1.Index])] mixed (by kernel_rfl) rfl rfl (pq tk rfl (.plain rfl) (pq tk rfl (.plain rfl) .nil)) rfl ?_
  refine rn tk 5 rfl ?_
  cases hr
  exact kr tk (.inr rfl) rfl rfl
 ·
  refine rn tk 5 rfl ?_
  refine awpl_adopt 1005 (d := 5) 9 1 rfl rfl rfl (hO ?_)
  refine rn tk 7 rfl ?_
  refine wn tk rfl rfl rfl ?_
  refine rn tk 4 rfl ?_
  refine al1 hr (fun s6 => [(3, .ptr 3 0), (5, .hs 1005 0), (14, .l TField.pc a0.Fields), (15, .i ((a0.Fields.length : Int))), (16, .i s6.1)]) (fun s6 => [(1005, .row 9 false 1 (List.map cS s6.2)), (3, .cells [.i 0, .i 0])]) (.exit 0) (fun b7 => [(3, .ptr 3 0), (5, .hs 1005 0)]) (fun b7 => [(1005, .row 9 false 1 (List.map cS b7)), (3, .cells [.i 0, .i 0])]) rfl rfl (fun s6 x8 hr => ?_) (fun b7 hr => ?_)
  ·
   unfold trace_Hops_l1 at hr
   refine rn tk 6 rfl ?_
   refine ac 17 hr rfl (fun c9 hr => ?_) (fun c9 hr => ?_)
   ·
    refine rn tk 2 rfl ?_
    refine jb hr (fun j10 => [(3, .ptr 3 0), (5, .hs 1005 0), (14, .l TField.pc a0.Fields), (15, .i ((a0.Fields.length : Int))), (16, .i s6.1)]) (fun j10 => [(1005, .row 9 false 1 (List.map cS j10)), (3, .cells [.i 0, .i 0])]) (fun j10 hr => ?_) (fun j10 hr => ?_)
    ·
     refine rn tk 3 rfl ?_
     obtain ⟨v11, h12, hr⟩ := bind_some hr
     refine wi tk h12 rfl rfl rfl rfl rfl ?_
     refine rn tk 9 rfl ?_
     obtain ⟨v13, h14, hr⟩ := bind_some hr
     refine cl (basic_Same_run _ _ _ h14) rfl rfl ?_
     refine rn tk 2 rfl ?_
     refine ac 22 hr rfl (fun c15 hr => ?_) (fun c15 hr => ?_)
     ·
      refine rn tk 4 rfl ?_
      obtain ⟨v16, h17, hr⟩ := bind_some hr
      refine cl (trace_host_run _ _ h17) rfl rfl ?_
      refine wz cS ([v16] : List Str) tk rfl rfl (fun _ => rfl) rfl rfl rfl ?_
      obtain ⟨v18, h19, hr⟩ := bind_some hr
      refine wa tk h19 rfl rfl rfl rfl (fun _ => rfl) rfl rfl ?_
      refine rn tk 3 rfl ?_
      cases hr
      exact jn _ rfl rfl rfl
     ·
      refine rn tk 2 rfl ?_
      cases hr
      exact jn _ rfl rfl rfl
    ·
     refine rn tk 4 rfl ?_
     cases hr
     exact atc rfl rfl
   ·
    refine rn tk 2 rfl ?_
    cases hr
    exact ato rfl rfl rfl rfl
  ·
   refine rn tk 5 rfl ?_
   obtain ⟨v20, h21, hr⟩ := bind_some hr
   refine cl (basic_None_run _ h21) rfl rfl ?_
   refine rn tk 4 rfl ?_
   refine awp_pub (d := 2) (F := cS) (l := b7) rfl rfl (hC ?_)
   refine rn tk 1 rfl ?_
   cases hr
   exact kr tk (.inr rfl) rfl rfl
theorem trace_Loops_run (a0 : TMessage) (a1 : Str) (r : Bool × TFault) (hr : trace_Loops a0 a1 = some r) : Run Tryz.prog 12 [.agg [.l TField.pc a0.Fields, .l cU a0.Body], .s a1] (.tup [.bo r.1, .agg [.i r.2.Code, .i r.2.Index]]) := by
 unfold trace_Loops at hr
 refine rf (fn := Tryz.f12) ⟨Tryz.func12, rfl, by kernel_rfl⟩ rfl (fun _ => rfl) fun g0 hg => ?_
 refine rn tk 11 rfl ?_
 obtain ⟨v1, h2, hr⟩ := bind_some hr
 refine cl (trace_Hops_run _ _ h2) rfl rfl ?_
 refine rn tk 12 rfl ?_
 obtain ⟨v3, h4, hr⟩ := bind_some hr
 refine cl (basic_Failed_run _ _ h4) rfl rfl ?_
 refine rn tk 2 rfl ?_
 refine ac 15 hr rfl (fun c5 hr => ?_) (fun c5 hr => ?_)
 ·
  refine rn tk 1 rfl ?_
  refine dr 2 [(4, .bo false), (16, .agg [.i v1.2.Code, .i v1.2.Index])] mixed (by kernel_rfl) rfl rfl (pq tk rfl (.plain rfl) (pq tk rfl (.plain rfl) .nil)) rfl ?_
  refine rn tk 5 rfl ?_
  cases hr
  exact kr tk (.inr rfl) rfl rfl
 ·
  refine rn tk 6 rfl ?_
  obtain ⟨v6, h7, hr⟩ := bind_some hr
  refine cl (basic_Name_run _ _ h7) rfl rfl ?_
  refine rn tk 3 rfl ?_
  refine ac 19 hr rfl (fun c8 hr => ?_) (fun c8 hr => ?_)
  ·
   refine rn tk 2 rfl ?_
   obtain ⟨v9, h10, hr⟩ := bind_some hr
   refine cl (basic_Fault_run _ _ _ h10) rfl rfl ?_
   refine rn tk 6 rfl ?_
   cases hr
   exact kr tk (.inr rfl) rfl rfl
  ·
   refine rn tk 5 rfl ?_
   refine ct hr (fun j11 => [(3, .ptr 3 0), (5, .ptr 5 0), (6, .l cS v1.1), (22, .hs 2002 0)]) (fun j11 => [(2002, .row 9 true 1 (List.map cS j11)), (5, .cells [.i 0, .i 0]), (3, .cells [.s a1])]) (fun j11 hr jump1 => ?_) (fun j11 hr => ?_)
   ·
    refine il (fn := Tryz.f32) (args := [.l cS v1.1]) 100000 199999 [(3, .ptr 3 0), (5, .ptr 5 0), (6, .l cS v1.1)] rfl ⟨Tryz.func32, rfl, by kernel_rfl⟩ rfl rfl rfl fun T1 ds1 => ?_
    refine rn tk 3 rfl ?_
    refine awpl_adoptM 1002 (d := 2) 9 1 rfl rfl rfl (hO ?_)
    refine rn tk 6 rfl ?_
    refine awpl_isnil (d := 3) (F := cS) (l := v1.1) rfl rfl rfl ty_s_string (fun c12 => hO ?_) (hO ?_)
    ·
     replace hr := nilE_nil c12 hr
     refine rn tk 6 rfl ?_
     refine awpl_adoptM 2002 (d := 2) 9 1 rfl rfl rfl (hO ?_)
     refine rn tk 4 rfl ?_
     refine ie tk [.hs 2002 0] [(3, .ptr 3 0), (5, .ptr 5 0), (6, .l cS v1.1)] [(2002, .row 9 true 1 (List.map cS (([] : List Str)))), (1002, .row 9 true 1 (List.map cS (([] : List Str)))), (7, .cells [.i v1.2.Code, .i v1.2.Index]), (5, .cells [.i 0, .i 0]), (3, .cells [.s a1]), (2, .cells [.l TField.pc a0.Fields, .l cU a0.Body])] (.inr rfl) rfl rfl rfl rfl ?_
     cases hr
     exact jump1 _ _ rfl rfl
    ·
     replace hr := nilE_not hr
     refine rn tk 7 rfl ?_
     refine wo (opTo_litz (k := 5) rfl ty_s_string ty_string) rfl ?_
     refine rn tk 1 rfl ?_
     obtain ⟨v13, h14, hr⟩ := bind_some hr
     refine wo (opTo_appendz (k := 7) (F := cS) (xs := v1.1) (lim := 8796093022208) 2002 rfl rfl rfl ty_s_string ty_string rfl rfl (fun _ => rfl) rfl rfl rfl h14) rfl ?_
     refine rn tk 4 rfl ?_
     refine ie tk [.hs 2002 0] [(3, .ptr 3 0), (5, .ptr 5 0), (6, .l cS v1.1)] [(2002, .row 9 true 1 (List.map cS v13)), (1002, .row 9 true 1 (List.map cS (([] : List Str)))), (7, .cells [.i v1.2.Code, .i v1.2.Index]), (5, .cells [.i 0, .i 0]), (3, .cells [.s a1]), (2, .cells [.l TField.pc a0.Fields, .l cU a0.Body])] (.inr rfl) rfl rfl rfl rfl ?_
     cases hr
     exact jump1 _ _ rfl rfl
   ·
    refine rn tk 1 rfl ?_
    refine ct hr (fun j15 => [(5, .ptr 5 0), (6, .l cS v1.1), (24, .l cS j15)]) (fun j15 => [(5, .cells [.i 0, .i 0])]) (fun j15 hr jump2 => ?_) (fun j15 hr => ?_)
    ·
     refine il (fn := Tryz.f31) (args := [.hs 2002 0, .fn (.func 33) [] [.ptr 3 0]]) 200000 299999 [(5, .ptr 5 0), (6, .l cS v1.1)] rfl ⟨Tryz.func31, rfl, by kernel_rfl⟩ rfl rfl rfl fun T2 ds2 => ?_
     refine rn tk 9 rfl ?_
     refine ct hr (fun j16 => [(0, .hs 2002 0), (1, .fn (.func 33) [] [.ptr 3 0]), (10, .i j16)]) (fun j16 => [(299999, .sus g0.w.heap.size ds2), (200005, .hold (.ptr 5 0) (T2.getD 5 undef)), (200006, .hold (.l cS v1.1) (T2.getD 6 undef)), (2002, .row 9 true 1 (List.map cS j11)), (5, .cells [.i 0, .i 0]), (3, .cells [.s a1])]) (fun j16 hr jump3 => ?_) (fun j16 hr => ?_)
     ·
      refine il (fn := Tryz.f62) (args := [.hs 2002 0, .fn (.func 33) [] [.ptr 3 0]]) 300000 399999 [(0, .hs 2002 0), (1, .fn (.func 33) [] [.ptr 3 0])] rfl ⟨Tryz.func62, rfl, by kernel_rfl⟩ rfl rfl rfl fun T3 ds3 => ?_
      refine rn tk 9 rfl ?_
      refine wnh tk rfl rfl rfl rfl ?_
      refine rn tk 4 rfl ?_
      refine al2 hr (fun s17 => [(0, .hs 2002 0), (1, .fn (.func 33) [] [.ptr 3 0]), (7, .i ((j11.length : Int))), (8, .i s17)]) (fun s17 => [(399999, .sus g0.w.heap.size ds3), (300000, .hold (.hs 2002 0) (T3.getD 0 undef)), (300001, .hold (.fn (.func 33) [] [.ptr 3 0]) (T3.getD 1 undef)), (299999, .sus g0.w.heap.size ds2), (200005, .hold (.ptr 5 0) (T2.getD 5 undef)), (200006, .hold (.l cS v1.1) (T2.getD 6 undef)), (2002, .row 9 true 1 (List.map cS j11)), (5, .cells [.i 0, .i 0]), (3, .cells [.s a1])]) (.exit 0) (fun b18 => []) (fun b18 => [(399999, .sus g0.w.heap.size ds3), (300000, .hold (.hs 2002 0) (T3.getD 0 undef)), (300001, .hold (.fn (.func 33) [] [.ptr 3 0]) (T3.getD 1 undef)), (299999, .sus g0.w.heap.size ds2), (200005, .hold (.ptr 5 0) (T2.getD 5 undef)), (200006, .hold (.l cS v1.1) (T2.getD 6 undef)), (2002, .row 9 true 1 (List.map cS j11)), (5, .cells [.i 0, .i 0]), (3, .cells [.s a1])]) .ret (fun b19 => [(4, .i b19)]) (fun b19 => [(399999, .sus g0.w.heap.size ds3), (300000, .hold (.hs 2002 0) (T3.getD 0 undef)), (300001, .hold (.fn (.func 33) [] [.ptr 3 0]) (T3.getD 1 undef)), (299999, .sus g0.w.heap.size ds2), (200005, .hold (.ptr 5 0) (T2.getD 5 undef)), (200006, .hold (.l cS v1.1) (T2.getD 6 undef)), (2002, .row 9 true 1 (List.map cS j11)), (5, .cells [.i 0, .i 0]), (3, .cells [.s a1])]) rfl rfl (fun s17 x21 hr => ?_) (fun b18 hr => ?_) (fun b19 hr => ?_)
      ·
       unfold trace_Loops_l1 at hr
       refine rn tk 6 rfl ?_
       refine ac 9 hr rfl (fun c22 hr => ?_) (fun c22 hr => ?_)
       ·
        refine rn tk 15 rfl ?_
        obtain ⟨v23, h24, hr⟩ := bind_some hr
        refine wih tk h24 rfl rfl rfl rfl rfl ?_
        obtain ⟨v25, h26, hr⟩ := bind_some hr
        refine wq (ev_hload (F := cS) (l := j11) (n := s17) (j := 0) rfl rfl ty_string rfl h26 rfl) rfl rfl rfl ?_
        refine il (fn := Tryz.f33) (args := [.s v25, .ptr 3 0]) 500000 599999 [(0, .hs 2002 0), (1, .fn (.func 33) [] [.ptr 3 0]), (5, .i s17), (7, .i ((j11.length : Int))), (8, .i s17)] rfl ⟨Tryz.func33, rfl, by kernel_rfl⟩ rfl rfl rfl fun T5 ds5 => ?_
        refine rn tk 14 rfl ?_
        refine ie tk [.bo ((v25 == a1))] [(0, .hs 2002 0), (1, .fn (.func 33) [] [.ptr 3 0]), (5, .i s17), (7, .i ((j11.length : Int))), (8, .i s17)] [(399999, .sus g0.w.heap.size ds3), (300000, .hold (.hs 2002 0) (T3.getD 0 undef)), (300001, .hold (.fn (.func 33) [] [.ptr 3 0]) (T3.getD 1 undef)), (299999, .sus g0.w.heap.size ds2), (200005, .hold (.ptr 5 0) (T2.getD 5 undef)), (200006, .hold (.l cS v1.1) (T2.getD 6 undef)), (2002, .row 9 true 1 (List.map cS j11)), (5, .cells [.i 0, .i 0]), (3, .cells [.s a1])] (.inr rfl) rfl rfl rfl rfl (hO ?_)
        refine rn tk 2 rfl ?_
        refine ac 16 hr rfl (fun c27 hr => ?_) (fun c27 hr => ?_)
        ·
         refine rn tk 9 rfl ?_
         cases hr
         exact ato rfl rfl rfl rfl
        ·
         refine rn tk 7 rfl ?_
         cases hr
         exact atc rfl rfl
       ·
        refine rn tk 2 rfl ?_
        cases hr
        exact ato rfl rfl rfl rfl
      ·
       refine rn tk 8 rfl ?_
       refine ie tk [.i ((-1))] [(0, .hs 2002 0), (1, .fn (.func 33) [] [.ptr 3 0])] [(299999, .sus g0.w.heap.size ds2), (200005, .hold (.ptr 5 0) (T2.getD 5 undef)), (200006, .hold (.l cS v1.1) (T2.getD 6 undef)), (2002, .row 9 true 1 (List.map cS j11)), (5, .cells [.i 0, .i 0]), (3, .cells [.s a1])] (.inr rfl) rfl rfl rfl rfl ?_
       cases hr
       exact jump3 _ _ rfl rfl
      ·
       refine rn tk 2 rfl ?_
       refine ie tk [.i b19] [(0, .hs 2002 0), (1, .fn (.func 33) [] [.ptr 3 0])] [(299999, .sus g0.w.heap.size ds2), (200005, .hold (.ptr 5 0) (T2.getD 5 undef)), (200006, .hold (.l cS v1.1) (T2.getD 6 undef)), (2002, .row 9 true 1 (List.map cS j11)), (5, .cells [.i 0, .i 0]), (3, .cells [.s a1])] (.inr rfl) rfl rfl rfl rfl ?_
       cases hr
       exact jump3 _ _ rfl rfl
     ·
      refine rn tk 10 rfl ?_
      refine ac 12 hr rfl (fun c28 hr => ?_) (fun c28 hr => ?_)
      ·
       refine rn tk 6 rfl ?_
       refine awp_unmu 2002 rfl (hC ?_)
       refine awp_pub (d := 4) (F := cS) (l := j11) rfl rfl (hC ?_)
       refine rn tk 2 rfl ?_
       refine ie tk [.l cS j11] [(5, .ptr 5 0), (6, .l cS v1.1)] [(2002, .row 9 false 1 (List.map cS j11)), (5, .cells [.i 0, .i 0]), (3, .cells [.s a1])] (.inr rfl) rfl rfl rfl rfl ?_
       cases hr
       exact jump2 _ _ rfl rfl
      ·
       refine rn tk 11 rfl ?_
       refine al1 hr (fun s29 => [(0, .hs 2002 0), (1, .fn (.func 33) [] [.ptr 3 0]), (5, .i s29.1), (6, .i s29.2.1)]) (fun s29 => [(299999, .sus g0.w.heap.size ds2), (200005, .hold (.ptr 5 0) (T2.getD 5 undef)), (200006, .hold (.l cS v1.1) (T2.getD 6 undef)), (2002, .row 9 true 1 (List.map cS s29.2.2)), (5, .cells [.i 0, .i 0]), (3, .cells [.s a1])]) (.exit 0) (fun b30 => [(0, .hs 2002 0), (5, .i b30.1)]) (fun b30 => [(299999, .sus g0.w.heap.size ds2), (200005, .hold (.ptr 5 0) (T2.getD 5 undef)), (200006, .hold (.l cS v1.1) (T2.getD 6 undef)), (2002, .row 9 true 1 (List.map cS b30.2)), (5, .cells [.i 0, .i 0])]) rfl rfl (fun s29 x31 hr => ?_) (fun b30 hr => ?_)
       ·
        unfold trace_Loops_l2 at hr
        refine rn tk 5 rfl ?_
        refine wnh tk rfl rfl rfl rfl ?_
        refine rn tk 3 rfl ?_
        refine ac 19 hr rfl (fun c32 hr => ?_) (fun c32 hr => ?_)
        ·
         refine rn tk 2 rfl ?_
         refine jb hr (fun j33 => [(0, .hs 2002 0), (1, .fn (.func 33) [] [.ptr 3 0]), (5, .i j33.1), (6, .i s29.2.1)]) (fun j33 => [(299999, .sus g0.w.heap.size ds2), (200005, .hold (.ptr 5 0) (T2.getD 5 undef)), (200006, .hold (.l cS v1.1) (T2.getD 6 undef)), (2002, .row 9 true 1 (List.map cS j33.2)), (5, .cells [.i 0, .i 0]), (3, .cells [.s a1])]) (fun j33 hr => ?_) (fun j33 hr => ?_)
         ·
          refine rn tk 5 rfl ?_
          obtain ⟨v34, h35, hr⟩ := bind_some hr
          refine wih tk h35 rfl rfl rfl rfl rfl ?_
          obtain ⟨v36, h37, hr⟩ := bind_some hr
          refine wq (ev_hload (F := cS) (l := s29.2.2) (n := s29.2.1) (j := 0) rfl rfl ty_string rfl h37 rfl) rfl rfl rfl ?_
          refine rn tk 7 rfl ?_
          refine il (fn := Tryz.f33) (args := [.s v36, .ptr 3 0]) 1100000 1199999 [(0, .hs 2002 0), (1, .fn (.func 33) [] [.ptr 3 0]), (5, .i s29.1), (6, .i s29.2.1), (7, .s v36)] rfl ⟨Tryz.func33, rfl, by kernel_rfl⟩ rfl rfl rfl fun T11 ds11 => ?_
          refine rn tk 14 rfl ?_
          refine ie tk [.bo ((v36 == a1))] [(0, .hs 2002 0), (1, .fn (.func 33) [] [.ptr 3 0]), (5, .i s29.1), (6, .i s29.2.1), (7, .s v36)] [(299999, .sus g0.w.heap.size ds2), (200005, .hold (.ptr 5 0) (T2.getD 5 undef)), (200006, .hold (.l cS v1.1) (T2.getD 6 undef)), (2002, .row 9 true 1 (List.map cS s29.2.2)), (5, .cells [.i 0, .i 0]), (3, .cells [.s a1])] (.inr rfl) rfl rfl rfl rfl (hO ?_)
          refine rn tk 3 rfl ?_
          refine ac 29 hr rfl (fun c38 hr => ?_) (fun c38 hr => ?_)
          ·
           refine rn tk 5 rfl ?_
           obtain ⟨v39, h40, hr⟩ := bind_some hr
           refine wih tk h40 rfl rfl rfl rfl rfl ?_
           obtain ⟨v41, h42, hr⟩ := bind_some hr
           refine wo (opTo_hstore (F := cS) (l := s29.2.2) (n := s29.1) (j := 0) (v := v41) (v' := v36) (pcs := [pS v36]) rfl rfl rfl ty_string rfl h42 rfl rfl) rfl ?_
           refine rn tk 8 rfl ?_
           cases hr
           exact jn _ rfl rfl rfl
          ·
           refine rn tk 2 rfl ?_
           cases hr
           exact jn _ rfl rfl rfl
         ·
          refine rn tk 5 rfl ?_
          cases hr
          exact atc rfl rfl
        ·
         refine rn tk 2 rfl ?_
         cases hr
         exact ato rfl rfl rfl rfl
       ·
        refine rn tk 6 rfl ?_
        obtain ⟨v43, h44, hr⟩ := bind_some hr
        refine wq (ev_hsub (F := cS) (l := b30.2) (p := b30.1) rfl rfl rfl ty_s_string ty_string h44) rfl rfl rfl ?_
        refine wo (opTo_clear (F := cS) (l := b30.2) (z := (([] : Str))) rfl rfl ty_s_string ty_string rfl rfl) rfl ?_
        refine rn tk 6 rfl ?_
        refine awpl_unmu 2002 rfl (hO ?_)
        refine awpl_pub (d := 39) (F := cS) (l := ((clr0 b30.2 (Int.toNat b30.1) (([] : Str))))) rfl rfl (hO ?_)
        obtain ⟨v45, h46, hr⟩ := bind_some hr
        refine wlH tk h46 rfl rfl rfl (fun _ => rfl) rfl ?_
        refine rn tk 4 rfl ?_
        refine ie tk [.l cS v45] [(5, .ptr 5 0), (6, .l cS v1.1)] [(2002, .row 9 false 1 (List.map cS ((clr0 b30.2 (Int.toNat b30.1) (([] : Str)))))), (5, .cells [.i 0, .i 0])] (.inr rfl) rfl rfl rfl rfl ?_
        cases hr
        exact jump2 _ _ rfl rfl
    ·
     refine rn tk 3 rfl ?_
     refine jb hr (fun j47 => [(4, .bo j47.1), (5, .ptr 5 0)]) (fun j47 => [(5, .cells [.i j47.2.1, .i j47.2.2])]) (fun j47 hr => ?_) (fun j47 hr => ?_)
     ·
      refine rn tk 2 rfl ?_
      refine wn tk rfl rfl rfl ?_
      refine rn tk 2 rfl ?_
      refine bs 28 hr rfl (fun c48 hr => ?_) (fun c48 hr => ?_)
      ·
       refine rn tk 7 rfl ?_
       obtain ⟨v49, h50, hr⟩ := bind_some hr
       refine cl (basic_None_run _ h50) rfl rfl ?_
       refine rn tk 3 rfl ?_
       cases hr
       exact jn _ rfl rfl rfl
      ·
       refine rn tk 1 rfl ?_
       refine ug rfl rfl rfl ?_
       refine wn tk rfl rfl rfl ?_
       refine rn tk 1 rfl ?_
       refine ug rfl rfl rfl ?_
       refine wn tk rfl rfl rfl ?_
       refine rn tk 3 rfl ?_
       obtain ⟨v51, h52, hr⟩ := bind_some hr
       refine cl (basic_None_run _ h52) rfl rfl ?_
       refine rn tk 3 rfl ?_
       cases hr
       exact jn _ rfl rfl rfl
     ·
      refine rn tk 1 rfl ?_
      cases hr
      exact kr tk (.inr rfl) rfl rfl
theorem basic_Time_run (a0 : Int) (r : Bool) (hr : basic_Time a0 = some r) : Run Tryz.prog 44 [.i a0] (.bo r) := by
  unfold basic_Time at hr
  refine run_of_awp (fn := Tryz.f44) ⟨Tryz.func44, rfl, by kernel_rfl⟩ rfl (fun _ => rfl) fun g0 hg => ?_
  refine awp_seq ?_
  refine awp_region ?_
  refine awpl_op rfl (opTo_q (d := 2) rfl rfl ev_assign) ?_
  refine awpl_nil ?_
  refine kthen_normal ?_
  obtain ⟨j1, hx, hy⟩ := bind_some hr
  refine awp_join (fun j1 => [(2, .bo j1)]) (fun j1 => []) (fun z => j1 = z) ?_ ?_
  · have hr := hx
    clear hx hy
    refine awp_region ?_
    refine awpl_op rfl (opTo_q (d := 3) rfl rfl ev_move) ?_
    refine awpl_op rfl (opTo_q (d := 4) rfl rfl (ev_geq rfl rfl)) ?_
    refine awpl_op rfl (opTo_q (d := 5) rfl rfl ev_move) ?_
    refine bool_split (decide ((-68719476736) ≤ a0)) (fun c2 => ?_) (fun c2 => ?_)
    · replace hr := cond_t c2 hr
      refine awpl_yes (d := 5) rfl rfl rfl c2 (opTo_q (d := 6) rfl rfl ev_move) ?_
      refine awpl_yes (d := 5) rfl rfl rfl c2 (opTo_q (d := 7) rfl rfl (ev_leq rfl rfl)) ?_
      refine awpl_op rfl (opTo_q (d := 8) rfl rfl (ev_pick_t rfl c2)) ?_
      refine awpl_op rfl (opTo_q (d := 2) rfl rfl ev_assign) ?_
      refine awpl_nil ?_
      cases hr
      exact joinK_normal _ rfl (frLe_cons rfl frLe_nil) stoLe_nil
    · replace hr := cond_f c2 hr
      refine awpl_no (d := 5) rfl rfl rfl c2 ?_
      refine awpl_no (d := 5) rfl rfl rfl c2 ?_
      refine awpl_op rfl (opTo_q (d := 8) rfl rfl (ev_pick_f rfl c2)) ?_
      refine awpl_op rfl (opTo_q (d := 2) rfl rfl ev_assign) ?_
      refine awpl_nil ?_
      cases hr
      exact joinK_normal _ rfl (frLe_cons rfl frLe_nil) stoLe_nil
  · rintro _ rfl
    have hr := hy
    clear hx hy
    refine awp_ret ?_
    cases hr
    exact kret' rfl (.cons (res_tmp rfl) .nil) rfl
theorem dates_before_run (a0 : Int) (r : Int) (hr : dates_before a0 = some r) : Run Tryz.prog 66 [.i a0] (.i r) := by
 unfold dates_before at hr
 refine rf (fn := Tryz.f66) ⟨Tryz.func66, rfl, by kernel_rfl⟩ rfl (fun _ => rfl) fun g0 hg => ?_
 refine rn tk 17 rfl ?_
 refine wq (ev_iquo rfl rfl rfl) rfl rfl rfl ?_
 refine rn tk 2 rfl ?_
 refine wq (ev_iquo rfl rfl rfl) rfl rfl rfl ?_
 refine rn tk 2 rfl ?_
 refine wq (ev_iquo rfl rfl rfl) rfl rfl rfl ?_
 refine rn tk 5 rfl ?_
 cases hr
 exact kr tk (.inr rfl) rfl rfl
theorem dates_leap_run (a0 : Int) (r : Bool) (hr : dates_leap a0 = some r) : Run Tryz.prog 81 [.i a0] (.bo r) := by
 unfold dates_leap at hr
 refine rf (fn := Tryz.f81) ⟨Tryz.func81, rfl, by kernel_rfl⟩ rfl (fun _ => rfl) fun g0 hg => ?_
 refine rn tk 5 rfl ?_
 refine jb hr (fun j1 => [(2, .bo j1)]) (fun j1 => []) (fun j1 hr => ?_) (fun j1 hr => ?_)
 ·
  refine rn tk 2 rfl ?_
  refine wq (ev_irem rfl rfl rfl) rfl rfl rfl ?_
  refine rn tk 2 rfl ?_
  refine bs 6 hr rfl (fun c2 hr => ?_) (fun c2 hr => ?_)
  ·
   refine rn tk 1 rfl ?_
   refine ug rfl rfl rfl ?_
   refine wq (ev_irem rfl rfl rfl) rfl rfl rfl ?_
   refine rn tk 2 rfl ?_
   refine bs 10 hr rfl (fun c3 hr => ?_) (fun c3 hr => ?_)
   ·
    refine rn tk 7 rfl ?_
    cases hr
    exact jn _ rfl rfl rfl
   ·
    refine rn tk 1 rfl ?_
    refine ug rfl rfl rfl ?_
    refine wq (ev_irem rfl rfl rfl) rfl rfl rfl ?_
    refine rn tk 5 rfl ?_
    cases hr
    exact jn _ rfl rfl rfl
  ·
   refine rn tk 11 rfl ?_
   cases hr
   exact jn _ rfl rfl rfl
 ·
  refine rn tk 1 rfl ?_
  cases hr
  exact kr tk (.inr rfl) rfl rfl
theorem dates_length_run (a0 : Int) (a1 : Int) (r : Int) (hr : dates_length a0 a1 = some r) : Run Tryz.prog 67 [.i a0, .i a1] (.i r) := by
 unfold dates_length at hr
 refine rf (fn := Tryz.f67) ⟨Tryz.func67, rfl, by kernel_rfl⟩ rfl (fun _ => rfl) fun g0 hg => ?_
 refine rn tk 7 rfl ?_
 refine wq (ev_buildA (cs := [.i 31, .i 28, .i 31, .i 30, .i 31, .i 30, .i 31, .i 31, .i 30, .i 31, .i 30, .i 31]) ty__12_int ty_int (.inr ⟨rfl, rfl⟩) (by kernel_rfl)) rfl rfl rfl ?_
 refine rn tk 2 rfl ?_
 obtain ⟨v1, h2, hr⟩ := bind_some hr
 refine wq (ev_aidx (f := cI) (L := ([31, 28, 31, 30, 31, 30, 31, 31, 30, 31, 30, 31] : List Int)) rfl rfl ty__12_int ty_int rfl rfl (fun _ => rfl) h2 rfl) rfl rfl rfl ?_
 refine rn tk 3 rfl ?_
 refine jb hr (fun j3 => [(5, .i j3)]) (fun j3 => []) (fun j3 hr => ?_) (fun j3 hr => ?_)
 ·
  refine jb hr (fun j4 => [(5, .i v1), (15, .bo j4)]) (fun j4 => []) (fun j4 hr => ?_) (fun j4 hr => ?_)
  ·
   refine rn tk 4 rfl ?_
   refine bs 12 hr rfl (fun c5 hr => ?_) (fun c5 hr => ?_)
   ·
    refine rn tk 1 rfl ?_
    obtain ⟨v6, h7, hr⟩ := bind_some hr
    refine ug rfl rfl rfl ?_
    refine cl (dates_leap_run _ _ h7) rfl rfl ?_
    refine rn tk 2 rfl ?_
    cases hr
    exact jn _ rfl rfl rfl
   ·
    refine rn tk 4 rfl ?_
    cases hr
    exact jn _ rfl rfl rfl
  ·
   refine ac 15 hr rfl (fun c8 hr => ?_) (fun c8 hr => ?_)
   ·
    refine rn tk 5 rfl ?_
    cases hr
    exact jn _ rfl rfl rfl
   ·
    refine rn tk 1 rfl ?_
    cases hr
    exact jn _ rfl rfl rfl
 ·
  refine rn tk 7 rfl ?_
  cases hr
  exact kr tk (.inr rfl) rfl rfl
theorem dates_day_run (a0 : Int) (a1 : Int) (a2 : Int) (r : Int) (hr : dates_day a0 a1 a2 = some r) : Run Tryz.prog 47 [.i a0, .i a1, .i a2] (.i r) := by
 unfold dates_day at hr
 refine rf (fn := Tryz.f47) ⟨Tryz.func47, rfl, by kernel_rfl⟩ rfl (fun _ => rfl) fun g0 hg => ?_
 refine rn tk 8 rfl ?_
 obtain ⟨v1, h2, hr⟩ := bind_some hr
 refine cl (dates_before_run _ _ h2) rfl rfl ?_
 obtain ⟨v3, h4, hr⟩ := bind_some hr
 refine cl (dates_before_run _ _ h4) rfl rfl ?_
 refine rn tk 14 rfl ?_
 refine al1 hr (fun s5 => [(0, .i a0), (1, .i a1), (7, .i s5.1), (8, .i s5.2)]) (fun s5 => []) (.exit 0) (fun b6 => [(7, .i b6)]) (fun b6 => []) rfl rfl (fun s5 x7 hr => ?_) (fun b6 hr => ?_)
 ·
  unfold dates_day_l1 at hr
  refine rn tk 8 rfl ?_
  refine ac 18 hr rfl (fun c8 hr => ?_) (fun c8 hr => ?_)
  ·
   refine rn tk 8 rfl ?_
   obtain ⟨v9, h10, hr⟩ := bind_some hr
   refine cl (dates_length_run _ _ _ h10) rfl rfl ?_
   refine rn tk 10 rfl ?_
   cases hr
   exact atc rfl rfl
  ·
   refine rn tk 2 rfl ?_
   cases hr
   exact ato rfl rfl rfl rfl
 ·
  refine rn tk 9 rfl ?_
  cases hr
  exact kr tk (.inr rfl) rfl rfl
theorem dates_split_run (a0 : Int) (a1 : Int) (r : Int × Int) (hr : dates_split a0 a1 = some r) : Run Tryz.prog 46 [.i a0, .i a1] (.tup [.i r.1, .i r.2]) := by
 unfold dates_split at hr
 refine rf (fn := Tryz.f46) ⟨Tryz.func46, rfl, by kernel_rfl⟩ rfl (fun _ => rfl) fun g0 hg => ?_
 refine rn tk 10 rfl ?_
 obtain ⟨v1, h2, hr⟩ := bind_some hr
 refine wq (ev_irem rfl rfl (nz_spec h2)) rfl rfl rfl ?_
 refine rn tk 3 rfl ?_
 obtain ⟨v3, h4, hr⟩ := bind_some hr
 refine wq (ev_irem rfl rfl (nz_spec h4)) rfl rfl rfl ?_
 refine rn tk 9 rfl ?_
 obtain ⟨v5, h6, hr⟩ := bind_some hr
 refine wq (ev_iquo rfl rfl (nz_spec h6)) rfl rfl rfl ?_
 refine rn tk 6 rfl ?_
 cases hr
 exact kr tk (.inr rfl) rfl rfl
theorem dates_within_run (a0 : Int) (a1 : Int) (a2 : Int) (r : Bool) (hr : dates_within a0 a1 a2 = some r) : Run Tryz.prog 45 [.i a0, .i a1, .i a2] (.bo r) := by
 unfold dates_within at hr
 refine rf (fn := Tryz.f45) ⟨Tryz.func45, rfl, by kernel_rfl⟩ rfl (fun _ => rfl) fun g0 hg => ?_
 refine rn tk 5 rfl ?_
 refine jb hr (fun j1 => [(6, .bo j1)]) (fun j1 => []) (fun j1 hr => ?_) (fun j1 hr => ?_)
 ·
  refine rn tk 5 rfl ?_
  refine bs 10 hr rfl (fun c2 hr => ?_) (fun c2 hr => ?_)
  ·
   refine rn tk 6 rfl ?_
   cases hr
   exact jn _ rfl rfl rfl
  ·
   refine rn tk 6 rfl ?_
   cases hr
   exact jn _ rfl rfl rfl
 ·
  refine rn tk 1 rfl ?_
  cases hr
  exact kr tk (.inr rfl) rfl rfl
theorem dates_Civil_run (a0 : Int) (a1 : Int) (r : TDate × TFault) (hr : dates_Civil a0 a1 = some r) : Run Tryz.prog 21 [.i a0, .i a1] (.tup [.agg [.i r.1.Year, .i r.1.Month, .i r.1.Day, .i r.1.Hour, .i r.1.Minute, .i r.1.Second, .i r.1.Zone], .agg [.i r.2.Code, .i r.2.Index]]) := by
 unfold dates_Civil at hr
 refine rf (fn := Tryz.f21) ⟨Tryz.func21, rfl, by kernel_rfl⟩ rfl (fun _ => rfl) fun g0 hg => ?_
 refine rn tk 10 rfl ?_
 obtain ⟨v1, h2, hr⟩ := bind_some hr
 refine cl (basic_Time_run _ _ h2) rfl rfl ?_
 refine rn tk 3 rfl ?_
 refine ac 13 hr rfl (fun c3 hr => ?_) (fun c3 hr => ?_)
 ·
  refine rn tk 3 rfl ?_
  obtain ⟨v4, h5, hr⟩ := bind_some hr
  refine cl (basic_Fault_run _ _ _ h5) rfl rfl ?_
  refine rn tk 6 rfl ?_
  cases hr
  exact kr tk (.inr rfl) rfl rfl
 ·
  refine rn tk 6 rfl ?_
  obtain ⟨v6, h7, hr⟩ := bind_some hr
  refine cl (dates_within_run _ _ _ _ h7) rfl rfl ?_
  refine rn tk 3 rfl ?_
  refine ac 18 hr rfl (fun c8 hr => ?_) (fun c8 hr => ?_)
  ·
   refine rn tk 3 rfl ?_
   obtain ⟨v9, h10, hr⟩ := bind_some hr
   refine cl (basic_Fault_run _ _ _ h10) rfl rfl ?_
   refine rn tk 6 rfl ?_
   cases hr
   exact kr tk (.inr rfl) rfl rfl
  ·
   refine rn tk 8 rfl ?_
   obtain ⟨v11, h12, hr⟩ := bind_some hr
   refine cl (dates_split_run _ _ _ h12) rfl rfl ?_
   refine rn tk 8 rfl ?_
   refine jb hr (fun j13 => [(1, .i a1), (4, .ptr 4 0), (5, .ptr 5 0), (6, .i v11.1), (7, .i v11.2), (36, .bo j13)]) (fun j13 => [(5, .cells [.i 0, .i 0]), (4, .cells [.i 0, .i 0, .i 0, .i 0, .i 0, .i 0, .i 0])]) (fun j13 hr => ?_) (fun j13 hr => ?_)
   ·
    refine rn tk 2 rfl ?_
    obtain ⟨v14, h15, hr⟩ := bind_some hr
    refine cl (dates_day_run _ _ _ _ h15) rfl rfl ?_
    refine rn tk 2 rfl ?_
    refine bs 32 hr rfl (fun c16 hr => ?_) (fun c16 hr => ?_)
    ·
     refine rn tk 5 rfl ?_
     cases hr
     exact jn _ rfl rfl rfl
    ·
     refine rn tk 1 rfl ?_
     obtain ⟨v17, h18, hr⟩ := bind_some hr
     refine ug rfl rfl rfl ?_
     refine cl (dates_day_run _ _ _ _ h18) rfl rfl ?_
     refine rn tk 3 rfl ?_
     cases hr
     exact jn _ rfl rfl rfl
   ·
    refine ac 36 hr rfl (fun c19 hr => ?_) (fun c19 hr => ?_)
    ·
     refine rn tk 3 rfl ?_
     obtain ⟨v20, h21, hr⟩ := bind_some hr
     refine cl (basic_Fault_run _ _ _ h21) rfl rfl ?_
     refine rn tk 6 rfl ?_
     cases hr
     exact kr tk (.inr rfl) rfl rfl
    ·
     refine rn tk 14 rfl ?_
     refine al1 hr (fun s22 => [(1, .i a1), (4, .ptr 4 0), (5, .ptr 5 0), (6, .i v11.1), (7, .i v11.2), (8, .i s22.1), (9, .i s22.2)]) (fun s22 => [(5, .cells [.i 0, .i 0]), (4, .cells [.i 0, .i 0, .i 0, .i 0, .i 0, .i 0, .i 0])]) (.exit 0) (fun b23 => [(1, .i a1), (4, .ptr 4 0), (5, .ptr 5 0), (6, .i v11.1), (7, .i v11.2), (8, .i b23)]) (fun b23 => [(5, .cells [.i 0, .i 0]), (4, .cells [.i 0, .i 0, .i 0, .i 0, .i 0, .i 0, .i 0])]) rfl rfl (fun s22 x24 hr => ?_) (fun b23 hr => ?_)
     ·
      unfold dates_Civil_l1 at hr
      refine rn tk 7 rfl ?_
      refine ac 40 hr rfl (fun c25 hr => ?_) (fun c25 hr => ?_)
      ·
       refine rn tk 2 rfl ?_
       refine jb hr (fun j26 => [(1, .i a1), (4, .ptr 4 0), (5, .ptr 5 0), (6, .i v11.1), (7, .i v11.2), (8, .i j26), (9, .i s22.2)]) (fun j26 => [(5, .cells [.i 0, .i 0]), (4, .cells [.i 0, .i 0, .i 0, .i 0, .i 0, .i 0, .i 0])]) (fun j26 hr => ?_) (fun j26 hr => ?_)
       ·
        refine rn tk 1 rfl ?_
        refine jb hr (fun j27 => [(1, .i a1), (4, .ptr 4 0), (5, .ptr 5 0), (6, .i v11.1), (7, .i v11.2), (8, .i s22.1), (9, .i s22.2), (54, .bo j27)]) (fun j27 => [(5, .cells [.i 0, .i 0]), (4, .cells [.i 0, .i 0, .i 0, .i 0, .i 0, .i 0, .i 0])]) (fun j27 hr => ?_) (fun j27 hr => ?_)
        ·
         refine rn tk 6 rfl ?_
         refine bs 47 hr rfl (fun c28 hr => ?_) (fun c28 hr => ?_)
         ·
          refine rn tk 3 rfl ?_
          obtain ⟨v29, h30, hr⟩ := bind_some hr
          refine ug rfl rfl rfl ?_
          refine cl (dates_day_run _ _ _ _ h30) rfl rfl ?_
          refine rn tk 4 rfl ?_
          cases hr
          exact jn _ rfl rfl rfl
         ·
          refine rn tk 8 rfl ?_
          cases hr
          exact jn _ rfl rfl rfl
        ·
         refine ac 54 hr rfl (fun c31 hr => ?_) (fun c31 hr => ?_)
         ·
          refine rn tk 7 rfl ?_
          cases hr
          exact jn _ rfl rfl rfl
         ·
          refine rn tk 2 rfl ?_
          cases hr
          exact jn _ rfl rfl rfl
       ·
        refine rn tk 2 rfl ?_
        refine wq (ev_iquo rfl rfl rfl) rfl rfl rfl ?_
        refine rn tk 2 rfl ?_
        cases hr
        exact atc rfl rfl
      ·
       refine rn tk 2 rfl ?_
       cases hr
       exact ato rfl rfl rfl rfl
     ·
      refine rn tk 9 rfl ?_
      refine al1 hr (fun s32 => [(1, .i a1), (4, .ptr 4 0), (5, .ptr 5 0), (6, .i v11.1), (7, .i v11.2), (8, .i b23), (10, .i s32)]) (fun s32 => [(5, .cells [.i 0, .i 0]), (4, .cells [.i 0, .i 0, .i 0, .i 0, .i 0, .i 0, .i 0])]) (.exit 2) (fun b33 => [(1, .i a1), (4, .ptr 4 0), (5, .ptr 5 0), (6, .i v11.1), (7, .i v11.2), (8, .i b23), (10, .i b33)]) (fun b33 => [(5, .cells [.i 0, .i 0]), (4, .cells [.i 0, .i 0, .i 0, .i 0, .i 0, .i 0, .i 0])]) rfl rfl (fun s32 x34 hr => ?_) (fun b33 hr => ?_)
      ·
       unfold dates_Civil_l2 at hr
       refine rn tk 5 rfl ?_
       obtain ⟨v35, h36, hr⟩ := bind_some hr
       refine cl (dates_day_run _ _ _ _ h36) rfl rfl ?_
       refine rn tk 4 rfl ?_
       refine ac 62 hr rfl (fun c37 hr => ?_) (fun c37 hr => ?_)
       ·
        refine rn tk 9 rfl ?_
        cases hr
        exact atc rfl rfl
       ·
        refine rn tk 2 rfl ?_
        cases hr
        exact ato rfl rfl rfl rfl
      ·
       refine rn tk 9 rfl ?_
       obtain ⟨v38, h39, hr⟩ := bind_some hr
       refine cl (dates_day_run _ _ _ _ h39) rfl rfl ?_
       refine rn tk 3 rfl ?_
       refine wq (ev_iquo rfl rfl rfl) rfl rfl rfl ?_
       refine rn tk 1 rfl ?_
       refine wq (ev_iquo rfl rfl rfl) rfl rfl rfl ?_
       refine wq (ev_irem rfl rfl rfl) rfl rfl rfl ?_
       refine rn tk 1 rfl ?_
       refine wq (ev_irem rfl rfl rfl) rfl rfl rfl ?_
       refine rn tk 2 rfl ?_
       obtain ⟨v40, h41, hr⟩ := bind_some hr
       refine cl (basic_None_run _ h41) rfl rfl ?_
       refine rn tk 5 rfl ?_
       cases hr
       exact kr tk (.inr rfl) rfl rfl
end Go.Proofs.YtpbanomkkkongaaGreatDoor

/- Library functions compute what their Lean functions do: texts joined and repeated. -/
namespace Go.Proofs.YtpbanomkkkongaaGreatDoor
open Go.RowKit
set_option maxRecDepth 100000
theorem old_below {g : G} {w' : World} (h : Below g.w.heap.size g.w w') : Old (fun _ => False) g ⟨w', g.u, g.loc⟩ :=
  ⟨h.os, h.tape, h.output, ⟨h.size, fun _ _ => Nat.le_refl _, fun k i hk _ => by simp only [World.cell?]; rw [h.block k hk], fun r hr => (h.block r (blk_lt hr)).trans hr⟩, fun k hk _ => ⟨h.block k hk, rfl⟩⟩
theorem str_argJ {g : G} {s : Str} {v : Value} (h : Rel g (.s s) v) : v = .string (strB s) := rel_b h
/-- texts, where they lie -/
theorem str_cells {g : G} {l : List Str} {v : Value} (h : Rel g (.l cS l) v) : ∃ ad cap, v = .slice ad l.length cap ∧ l.length ≤ cap ∧ (l ≠ [] → ∃ b off, ad = some ⟨b, off, none⟩ ∧ b < g.w.heap.size ∧ ∀ (i : Nat) s, l[i]? = some s → g.w.cell? ⟨b, off + i, none⟩ = some (.string (strB s))) := by
  cases h with
  | pv h =>
    generalize hE : l.map cS = elems at h
    have hEl : elems.length = l.length := by rw [← hE]; simp
    unfold pL at h
    rw [hE] at h
    cases h with
    | @sl _ _ a cap size b off val hn h0 hc hz ha hu hcell h =>
      refine ⟨a, cap, by rw [hEl], by omega, fun hne => ?_⟩
      have hne' : elems ≠ [] := by rw [← hE]; simpa using hne
      refine ⟨b, off, ha hne', (hu hne').2, fun i s hi => ?_⟩
      have hget : elems[i]? = some (cS s) := by rw [← hE]; simp [hi]
      have hs1 : size = 1 := by
        have := hz _ (List.mem_of_getElem? hget)
        simpa [cS] using this.symm
      subst hs1
      have hlt : i < elems.length := (List.getElem?_eq_some_iff.1 hget).1
      rw [hcell i (by omega)]
      have := h i 0 _ (.b (.string (strB s))) hget rfl
      simp only [Nat.mul_one, Nat.add_zero] at this
      have e := rel_b (g := g) (.pv this)
      rw [e]
theorem strings_Join_run (l : List Str) (s : Str) (r : Str) (hr : strings_Join l s = some r) : Run Tryz.prog 50 [.l cS l, .s s] (.s r) := by
  unfold strings_Join at hr
  split at hr
  case isFalse => cases hr
  rename_i hlen
  cases hr
  refine ⟨⟨_, _, ⟨Tryz.func50, rfl, by kernel_rfl⟩⟩, fun g vs hw hg ha => ?_⟩
  obtain ⟨hsz, hrel⟩ := ha
  obtain ⟨vl⟩ := vs
  match vl, hsz with
  | [x, y], _ =>
    have h0 : Rel g (.l cS l) x := hrel 0 _ rfl
    obtain rfl := str_argJ (hrel 1 _ rfl)
    obtain ⟨ad, cap, rfl, hcap, hcell⟩ := str_cells h0
    refine callsIn_wide.2 ?_
    suffices hs : Calls Tryz.prog 50 #[.slice ad l.length cap, .string (strB s)] g.w fun e w' => e = .returned (.string (strB (Lib.join l s))) ∧ Below g.w.heap.size g.w w' by
      refine hs.mono ?_
      rintro e w' ⟨rfl, hb⟩
      exact ⟨⟨w', g.u, g.loc⟩, _, rfl, rfl, old_below hb, fun k hk => hw k (Nat.le_trans hb.size hk), rfl, .pv (.b rfl)⟩
    cases l with
    | nil => exact (Tryz.strings_Join_none ad cap (strB s) g.w).mono fun e w' ⟨he, hw⟩ => ⟨he, hw ▸ Below.refl _ _⟩
    | cons a l =>
      obtain ⟨b, off, rfl, hb, hc⟩ := hcell (by simp)
      have e1 : ((a :: l).map strB).map (·.data.toList) = a :: l := by
        rw [List.map_map]
        conv => rhs; rw [← List.map_id (a :: l)]
        exact List.map_congr_left fun x _ => rfl
      have := Tryz.strings_Join b off cap ((a :: l).map strB) (strB s) g.w (fun j x hx => by
        simp only [List.getElem?_map, Option.map_eq_some_iff] at hx
        obtain ⟨y, hy, rfl⟩ := hx
        exact hc j y hy) hb (by rw [List.length_map]; exact hlen.1) (by rw [List.length_map]; exact hcap) (by rw [e1]; exact hlen.2)
      rw [e1, List.length_map] at this
      exact this
theorem strings_Repeat_run (s : Str) (n : Int) (r : Str) (hr : strings_Repeat s n = some r) : Run Tryz.prog 70 [.s s, .i n] (.s r) := by
  unfold strings_Repeat at hr
  split at hr
  case isFalse => cases hr
  rename_i hlen
  cases hr
  refine ⟨⟨_, _, ⟨Tryz.func70, rfl, by kernel_rfl⟩⟩, fun g vs hw hg ha => ?_⟩
  obtain ⟨hsz, hrel⟩ := ha
  obtain ⟨vl⟩ := vs
  match vl, hsz with
  | [x, y], _ =>
    obtain rfl := str_argJ (hrel 0 _ rfl)
    have e2 : y = .int .i64 n := rel_b (hrel 1 _ rfl)
    subst e2
    have e3 : ((n.toNat : Nat) : Int) = n := by omega
    have h := Tryz.strings_Repeat (strB s) n.toNat g.w (by omega) (by rw [strB_size]; exact hlen.2.2)
    rw [e3] at h
    refine callsIn_wide.2 (h.mono ?_)
    rintro e w' ⟨rfl, hb⟩
    exact ⟨⟨w', g.u, g.loc⟩, _, rfl, rfl, old_below hb, fun k hk => hw k (Nat.le_trans hb.size hk), rfl, .pv (.b rfl)⟩
end Go.Proofs.YtpbanomkkkongaaGreatDoor

namespace Go.Proofs.YtpbanomkkkongaaGreatDoor
open Go.RowKit
set_option maxRecDepth 100000
set_option maxHeartbeats 40000000
set_option linter.unusedVariables false
theorem dates_Validate_run (a0 : TDate) (r : TFault) (hr : dates_Validate a0 = some r) : Run Tryz.prog 68 [.agg [.i a0.Year, .i a0.Month, .i a0.Day, .i a0.Hour, .i a0.Minute, .i a0.Second, .i a0.Zone]] (.agg [.i r.Code, .i r.Index]) := by
 unfold dates_Validate at hr
 refine rf (fn := Tryz.f68) ⟨Tryz.func68, rfl, by kernel_rfl⟩ rfl (fun _ => rfl) fun g0 hg => ?_
 refine rn tk 6 rfl ?_
 refine jb hr (fun j1 => [(2, .ptr 2 0), (3, .bo j1)]) (fun j1 => [(2, .cells [.i 0, .i 0])]) (fun j1 hr => ?_) (fun j1 hr => ?_)
 ·
  obtain ⟨v2, h3, hr⟩ := bind_some hr
  refine bool_split v2 (fun c4 => ?_) (fun c4 => ?_)
  ·
   replace hr := cond_t c4 hr
   obtain ⟨v5, h6, hr⟩ := bind_some hr
   refine bool_split v5 (fun c7 => ?_) (fun c7 => ?_)
   ·
    replace hr := cond_t c7 hr
    obtain ⟨v8, h9, hr⟩ := bind_some hr
    refine dr 18 [(21, .i v8), (20, .i ((min ((max a0.Month 1)) 12))), (19, .i ((max a0.Month 1))), (18, .i a0.Month), (17, .ptr 1 1), (16, .i a0.Year), (15, .ptr 1 0), (14, .i a0.Day), (13, .ptr 1 2), (12, .bo v5), (11, .bo v5), (10, .bo v5), (9, .i a0.Month), (8, .ptr 1 1), (7, .bo v2), (6, .bo v2), (5, .i a0.Year), (4, .ptr 1 0)] mixed (by kernel_rfl) rfl rfl (pq tk rfl (.plain rfl) (pq tk rfl (.plain rfl) (.run (.plain rfl) (opG_call (dates_within_run a0.Year 1 4000 v2 h3) rfl) (pq tk rfl (.plain rfl) (pq tk rfl (.yes (d := 7) rfl rfl rfl c4) (pq tk rfl (.yes (d := 7) rfl rfl rfl c4) (.run (.yes (d := 7) rfl rfl rfl c4) (opG_call (dates_within_run a0.Month 1 12 v5 h6) rfl) (.run (.plain rfl) (opG_q (ev_pick_t rfl c4)) (pq tk rfl (.plain rfl) (pq tk rfl (.yes (d := 12) rfl rfl rfl c7) (pq tk rfl (.yes (d := 12) rfl rfl rfl c7) (pq tk rfl (.yes (d := 12) rfl rfl rfl c7) (pq tk rfl (.yes (d := 12) rfl rfl rfl c7) (pq tk rfl (.yes (d := 12) rfl rfl rfl c7) (pq tk rfl (.yes (d := 12) rfl rfl rfl c7) (.run (.yes (d := 12) rfl rfl rfl c7) (opG_q (ev_max rfl rfl)) (.run (.yes (d := 12) rfl rfl rfl c7) (opG_q (ev_min rfl rfl)) (.run (.yes (d := 12) rfl rfl rfl c7) (opG_call (dates_length_run a0.Year ((min ((max a0.Month 1)) 12)) v8 h9) rfl) .nil)))))))))))))))))) rfl ?_
    refine kn 12 c7 rfl ?_
    obtain ⟨v10, h11, hr⟩ := bind_some hr
    refine ug rfl rfl rfl ?_
    refine cl (dates_within_run _ _ _ _ h11) rfl rfl ?_
    refine rn tk 2 rfl ?_
    refine bs 24 hr rfl (fun c12 hr => ?_) (fun c12 hr => ?_)
    ·
     refine rn tk 2 rfl ?_
     obtain ⟨v13, h14, hr⟩ := bind_some hr
     refine ug rfl rfl rfl ?_
     refine cl (dates_within_run _ _ _ _ h14) rfl rfl ?_
     refine rn tk 2 rfl ?_
     refine bs 29 hr rfl (fun c15 hr => ?_) (fun c15 hr => ?_)
     ·
      refine rn tk 2 rfl ?_
      obtain ⟨v16, h17, hr⟩ := bind_some hr
      refine ug rfl rfl rfl ?_
      refine cl (dates_within_run _ _ _ _ h17) rfl rfl ?_
      refine rn tk 2 rfl ?_
      refine bs 34 hr rfl (fun c18 hr => ?_) (fun c18 hr => ?_)
      ·
       refine rn tk 2 rfl ?_
       obtain ⟨v19, h20, hr⟩ := bind_some hr
       refine ug rfl rfl rfl ?_
       refine cl (dates_within_run _ _ _ _ h20) rfl rfl ?_
       refine rn tk 2 rfl ?_
       refine bs 39 hr rfl (fun c21 hr => ?_) (fun c21 hr => ?_)
       ·
        refine rn tk 2 rfl ?_
        obtain ⟨v22, h23, hr⟩ := bind_some hr
        refine ug rfl rfl rfl ?_
        refine cl (dates_within_run _ _ _ _ h23) rfl rfl ?_
        refine rn tk 3 rfl ?_
        cases hr
        exact jn _ rfl rfl rfl
       ·
        refine rn tk 6 rfl ?_
        cases hr
        exact jn _ rfl rfl rfl
      ·
       refine rn tk 11 rfl ?_
       cases hr
       exact jn _ rfl rfl rfl
     ·
      refine rn tk 16 rfl ?_
      cases hr
      exact jn _ rfl rfl rfl
    ·
     refine rn tk 21 rfl ?_
     cases hr
     exact jn _ rfl rfl rfl
   ·
    replace hr := cond_f c7 hr
    refine dr 18 [(21, .tup []), (20, .tup []), (19, .tup []), (18, .tup []), (17, .tup []), (16, .tup []), (15, .tup []), (14, .tup []), (13, .tup []), (12, .bo v5), (11, .bo v5), (10, .bo v5), (9, .i a0.Month), (8, .ptr 1 1), (7, .bo v2), (6, .bo v2), (5, .i a0.Year), (4, .ptr 1 0)] mixed (by kernel_rfl) rfl rfl (pq tk rfl (.plain rfl) (pq tk rfl (.plain rfl) (.run (.plain rfl) (opG_call (dates_within_run a0.Year 1 4000 v2 h3) rfl) (pq tk rfl (.plain rfl) (pq tk rfl (.yes (d := 7) rfl rfl rfl c4) (pq tk rfl (.yes (d := 7) rfl rfl rfl c4) (.run (.yes (d := 7) rfl rfl rfl c4) (opG_call (dates_within_run a0.Month 1 12 v5 h6) rfl) (.run (.plain rfl) (opG_q (ev_pick_t rfl c4)) (pq tk rfl (.plain rfl) (.skip (.no (d := 12) rfl rfl rfl c7) (.skip (.no (d := 12) rfl rfl rfl c7) (.skip (.no (d := 12) rfl rfl rfl c7) (.skip (.no (d := 12) rfl rfl rfl c7) (.skip (.no (d := 12) rfl rfl rfl c7) (.skip (.no (d := 12) rfl rfl rfl c7) (.skip (.no (d := 12) rfl rfl rfl c7) (.skip (.no (d := 12) rfl rfl rfl c7) (.skip (.no (d := 12) rfl rfl rfl c7) .nil)))))))))))))))))) rfl ?_
    refine kn 12 c7 rfl ?_
    refine rn tk 24 rfl ?_
    cases hr
    exact jn _ rfl rfl rfl
  ·
   replace hr := cond_f c4 hr
   refine dr 18 [(21, .tup []), (20, .tup []), (19, .tup []), (18, .tup []), (17, .tup []), (16, .tup []), (15, .tup []), (14, .tup []), (13, .tup []), (12, .bo false), (11, .bo false), (10, .tup []), (9, .tup []), (8, .tup []), (7, .bo v2), (6, .bo v2), (5, .i a0.Year), (4, .ptr 1 0)] mixed (by kernel_rfl) rfl rfl (pq tk rfl (.plain rfl) (pq tk rfl (.plain rfl) (.run (.plain rfl) (opG_call (dates_within_run a0.Year 1 4000 v2 h3) rfl) (pq tk rfl (.plain rfl) (.skip (.no (d := 7) rfl rfl rfl c4) (.skip (.no (d := 7) rfl rfl rfl c4) (.skip (.no (d := 7) rfl rfl rfl c4) (.run (.plain rfl) (opG_q (ev_pick_f rfl c4)) (pq tk rfl (.plain rfl) (.skip (.no (d := 12) rfl rfl rfl rfl) (.skip (.no (d := 12) rfl rfl rfl rfl) (.skip (.no (d := 12) rfl rfl rfl rfl) (.skip (.no (d := 12) rfl rfl rfl rfl) (.skip (.no (d := 12) rfl rfl rfl rfl) (.skip (.no (d := 12) rfl rfl rfl rfl) (.skip (.no (d := 12) rfl rfl rfl rfl) (.skip (.no (d := 12) rfl rfl rfl rfl) (.skip (.no (d := 12) rfl rfl rfl rfl) .nil)))))))))))))))))) rfl ?_
   refine rn tk 24 rfl ?_
   cases hr
   exact jn _ rfl rfl rfl
 ·
  refine rn tk 7 rfl ?_
  refine ac 45 hr rfl (fun c24 hr => ?_) (fun c24 hr => ?_)
  ·
   refine rn tk 2 rfl ?_
   obtain ⟨v25, h26, hr⟩ := bind_some hr
   refine cl (basic_Fault_run _ _ _ h26) rfl rfl ?_
   refine rn tk 5 rfl ?_
   cases hr
   exact kr tk (.inr rfl) rfl rfl
  ·
   refine rn tk 4 rfl ?_
   obtain ⟨v27, h28, hr⟩ := bind_some hr
   refine cl (basic_None_run _ h28) rfl rfl ?_
   refine rn tk 4 rfl ?_
   cases hr
   exact kr tk (.inr rfl) rfl rfl
theorem dates_Weekday_run (a0 : TDate) (r : Int × TFault) (hr : dates_Weekday a0 = some r) : Run Tryz.prog 48 [.agg [.i a0.Year, .i a0.Month, .i a0.Day, .i a0.Hour, .i a0.Minute, .i a0.Second, .i a0.Zone]] (.tup [.i r.1, .agg [.i r.2.Code, .i r.2.Index]]) := by
 unfold dates_Weekday at hr
 refine rf (fn := Tryz.f48) ⟨Tryz.func48, rfl, by kernel_rfl⟩ rfl (fun _ => rfl) fun g0 hg => ?_
 refine rn tk 11 rfl ?_
 obtain ⟨v1, h2, hr⟩ := bind_some hr
 refine cl (dates_Validate_run _ _ h2) rfl rfl ?_
 refine rn tk 7 rfl ?_
 obtain ⟨v3, h4, hr⟩ := bind_some hr
 refine cl (basic_Failed_run _ _ h4) rfl rfl ?_
 refine rn tk 2 rfl ?_
 refine ac 10 hr rfl (fun c5 hr => ?_) (fun c5 hr => ?_)
 ·
  refine rn tk 1 rfl ?_
  refine dr 2 [(2, .i 0), (11, .agg [.i v1.Code, .i v1.Index])] mixed (by kernel_rfl) rfl rfl (pq tk rfl (.plain rfl) (pq tk rfl (.plain rfl) .nil)) rfl ?_
  refine rn tk 5 rfl ?_
  cases hr
  exact kr tk (.inr rfl) rfl rfl
 ·
  refine rn tk 10 rfl ?_
  obtain ⟨v6, h7, hr⟩ := bind_some hr
  refine cl (dates_day_run _ _ _ _ h7) rfl rfl ?_
  refine rn tk 1 rfl ?_
  obtain ⟨v8, h9, hr⟩ := bind_some hr
  refine cl (dates_split_run _ _ _ h9) rfl rfl ?_
  refine rn tk 10 rfl ?_
  obtain ⟨v10, h11, hr⟩ := bind_some hr
  refine cl (basic_None_run _ h11) rfl rfl ?_
  refine rn tk 5 rfl ?_
  cases hr
  exact kr tk (.inr rfl) rfl rfl
theorem dates_months_run  (r : Str × Str × Str × Str × Str × Str × Str × Str × Str × Str × Str × Str) (hr : dates_months = some r) : Run Tryz.prog 52 [] (.agg [.s r.1, .s r.2.1, .s r.2.2.1, .s r.2.2.2.1, .s r.2.2.2.2.1, .s r.2.2.2.2.2.1, .s r.2.2.2.2.2.2.1, .s r.2.2.2.2.2.2.2.1, .s r.2.2.2.2.2.2.2.2.1, .s r.2.2.2.2.2.2.2.2.2.1, .s r.2.2.2.2.2.2.2.2.2.2.1, .s r.2.2.2.2.2.2.2.2.2.2.2]) := by
 unfold dates_months at hr
 refine rf (fn := Tryz.f52) ⟨Tryz.func52, rfl, by kernel_rfl⟩ rfl (fun _ => rfl) fun g0 hg => ?_
 refine rn tk 7 rfl ?_
 refine wq (ev_buildA (cs := [.s (([74, 97, 110] : Str)), .s (([70, 101, 98] : Str)), .s (([77, 97, 114] : Str)), .s (([65, 112, 114] : Str)), .s (([77, 97, 121] : Str)), .s (([74, 117, 110] : Str)), .s (([74, 117, 108] : Str)), .s (([65, 117, 103] : Str)), .s (([83, 101, 112] : Str)), .s (([79, 99, 116] : Str)), .s (([78, 111, 118] : Str)), .s (([68, 101, 99] : Str))]) ty__12_string ty_string (.inr ⟨rfl, rfl⟩) (by kernel_rfl)) rfl rfl rfl ?_
 refine rn tk 4 rfl ?_
 cases hr
 exact kr tk (.inr rfl) rfl rfl
end Go.Proofs.YtpbanomkkkongaaGreatDoor

/- Numerals of the library: the functions compute what their Lean functions do. -/
namespace Go.Proofs.YtpbanomkkkongaaGreatDoor
open Go.RowKit
set_option maxRecDepth 100000
theorem pow_tab {g : G} (hg : Gl g) : Lib.TabIs Tryz.prog g.w "internal/strconv.uint64pow10" .u64 Lib.pow10Tab := by
  obtain ⟨t, fz, h⟩ := hg.2 (1, (Lib.pow10Tab.map fun z => Value.int .u64 z).toArray) (by simp [globK])
  have hn : Tryz.prog.globalNamed "internal/strconv.uint64pow10" = some 1 := by kernel_rfl
  unfold Lib.TabIs World.var?
  rw [hn]
  simp only [Option.bind_some]
  simp only at h
  rw [h]
theorem old_more (g : G) (q : Nat) (os : Array Obj) : Old (fun _ => False) g ⟨Go.Sort.grow (g.w.drewN q) os, g.u, g.loc⟩ := by
  have hb : ∀ k, k < g.w.heap.size → (Go.Sort.grow (g.w.drewN q) os).heap[k]? = g.w.heap[k]? := by
    intro k hk
    show (g.w.heap ++ os)[k]? = _
    rw [Array.getElem?_append_left hk]
  refine ⟨rfl, rfl, rfl, ⟨?_, fun _ _ => Nat.le_refl _, fun k i hk hi => ?_, fun r hr => (hb r (blk_lt hr)).trans hr⟩, fun k hk _ => ⟨hb k hk, rfl⟩⟩
  · show g.w.heap.size ≤ (g.w.heap ++ os).size
    simp
  · simp only [World.cell?]; rw [hb k hk]
end Go.Proofs.YtpbanomkkkongaaGreatDoor

/- Numerals of the library: Itoa computes what its Lean function does. -/
namespace Go.Proofs.YtpbanomkkkongaaGreatDoor
open Go.RowKit
set_option maxRecDepth 100000
theorem strconv_Itoa_run (n : Int) (r : Str) (hr : strconv_Itoa n = some r) : Run Tryz.prog 69 [.i n] (.s r) := by
  unfold strconv_Itoa at hr
  split at hr
  case isFalse => cases hr
  rename_i hlen
  cases hr
  refine ⟨⟨_, _, ⟨Tryz.func69, rfl, by kernel_rfl⟩⟩, fun g vs hw hg ha => ?_⟩
  obtain ⟨hsz, hrel⟩ := ha
  obtain ⟨l⟩ := vs
  match l, hsz with
  | [x], _ =>
    have e2 : x = .int .i64 n := rel_b (hrel 0 _ rfl)
    subst e2
    refine callsIn_wide.2 ((Tryz.strconv_Itoa n hlen.1 hlen.2 g.w (pow_tab hg)).mono ?_)
    rintro e w' ⟨rfl, q, os, rfl⟩
    exact ⟨⟨Go.Sort.grow (g.w.drewN q) os, g.u, g.loc⟩, _, rfl, rfl, old_more g q os, fun k hk => hw k (Nat.le_trans (old_more g q os).ext.size hk), rfl, .pv (.b rfl)⟩
end Go.Proofs.YtpbanomkkkongaaGreatDoor

namespace Go.Proofs.YtpbanomkkkongaaGreatDoor
open Go.RowKit
set_option maxRecDepth 100000
set_option maxHeartbeats 40000000
set_option linter.unusedVariables false
theorem dates_pad_run (a0 : Int) (a1 : Int) (r : Str) (hr : dates_pad a0 a1 = some r) : Run Tryz.prog 49 [.i a0, .i a1] (.s r) := by
 unfold dates_pad at hr
 refine rf (fn := Tryz.f49) ⟨Tryz.func49, rfl, by kernel_rfl⟩ rfl (fun _ => rfl) fun g0 hg => ?_
 refine rn tk 8 rfl ?_
 obtain ⟨v1, h2, hr⟩ := bind_some hr
 refine cl (strconv_Itoa_run _ _ h2) rfl rfl ?_
 refine rn tk 9 rfl ?_
 refine wq (ev_max rfl rfl) rfl rfl rfl ?_
 obtain ⟨v3, h4, hr⟩ := bind_some hr
 refine cl (strings_Repeat_run _ _ _ h4) rfl rfl ?_
 refine rn tk 1 rfl ?_
 obtain ⟨v5, h6, hr⟩ := bind_some hr
 refine wc h6 rfl rfl rfl ?_
 refine rn tk 4 rfl ?_
 cases hr
 exact kr tk (.inr rfl) rfl rfl
theorem dates_weekdays_run  (r : Str × Str × Str × Str × Str × Str × Str) (hr : dates_weekdays = some r) : Run Tryz.prog 51 [] (.agg [.s r.1, .s r.2.1, .s r.2.2.1, .s r.2.2.2.1, .s r.2.2.2.2.1, .s r.2.2.2.2.2.1, .s r.2.2.2.2.2.2]) := by
 unfold dates_weekdays at hr
 refine rf (fn := Tryz.f51) ⟨Tryz.func51, rfl, by kernel_rfl⟩ rfl (fun _ => rfl) fun g0 hg => ?_
 refine rn tk 7 rfl ?_
 refine wq (ev_buildA (cs := [.s (([83, 117, 110] : Str)), .s (([77, 111, 110] : Str)), .s (([84, 117, 101] : Str)), .s (([87, 101, 100] : Str)), .s (([84, 104, 117] : Str)), .s (([70, 114, 105] : Str)), .s (([83, 97, 116] : Str))]) ty__7_string ty_string (.inr ⟨rfl, rfl⟩) (by kernel_rfl)) rfl rfl rfl ?_
 refine rn tk 4 rfl ?_
 cases hr
 exact kr tk (.inr rfl) rfl rfl
theorem dates_Print_run (a0 : TDate) (r : Str × TFault) (hr : dates_Print a0 = some r) : Run Tryz.prog 22 [.agg [.i a0.Year, .i a0.Month, .i a0.Day, .i a0.Hour, .i a0.Minute, .i a0.Second, .i a0.Zone]] (.tup [.s r.1, .agg [.i r.2.Code, .i r.2.Index]]) := by
 unfold dates_Print at hr
 refine rf (fn := Tryz.f22) ⟨Tryz.func22, rfl, by kernel_rfl⟩ rfl (fun _ => rfl) fun g0 hg => ?_
 refine rn tk 10 rfl ?_
 obtain ⟨v1, h2, hr⟩ := bind_some hr
 refine cl (dates_Weekday_run _ _ h2) rfl rfl ?_
 refine rn tk 12 rfl ?_
 obtain ⟨v3, h4, hr⟩ := bind_some hr
 refine cl (basic_Failed_run _ _ h4) rfl rfl ?_
 refine rn tk 2 rfl ?_
 refine ac 15 hr rfl (fun c5 hr => ?_) (fun c5 hr => ?_)
 ·
  refine rn tk 1 rfl ?_
  refine dr 2 [(2, .s (([] : Str))), (16, .agg [.i v1.2.Code, .i v1.2.Index])] mixed (by kernel_rfl) rfl rfl (pq tk rfl (.plain rfl) (pq tk rfl (.plain rfl) .nil)) rfl ?_
  refine rn tk 5 rfl ?_
  cases hr
  exact kr tk (.inr rfl) rfl rfl
 ·
  refine rn tk 3 rfl ?_
  refine dr 3 [(6, .s (([43] : Str))), (18, .i a0.Zone), (17, .ptr 1 6)] mixed (by kernel_rfl) rfl rfl (pq tk rfl (.plain rfl) (pq tk rfl (.plain rfl) (pq tk rfl (.plain rfl) .nil))) rfl ?_
  refine rn tk 3 rfl ?_
  refine jb hr (fun j6 => [(1, .ptr 1 0), (3, .ptr 3 0), (4, .i v1.1), (6, .s j6.1), (7, .i j6.2)]) (fun j6 => [(3, .cells [.i 0, .i 0]), (1, .cells [.i a0.Year, .i a0.Month, .i a0.Day, .i a0.Hour, .i a0.Minute, .i a0.Second, .i a0.Zone])]) (fun j6 hr => ?_) (fun j6 hr => ?_)
  ·
   refine rn tk 7 rfl ?_
   refine ac 21 hr rfl (fun c7 hr => ?_) (fun c7 hr => ?_)
   ·
    refine dr 4 [(6, .s (([45] : Str))), (24, .i ((w64 (0 - a0.Zone)))), (23, .i a0.Zone), (22, .ptr 1 6)] mixed (by kernel_rfl) rfl rfl (pq tk rfl (.plain rfl) (pq tk rfl (.plain rfl) (.run (.plain rfl) (opG_q (ev_ineg rfl)) (pq tk rfl (.plain rfl) .nil)))) rfl ?_
    refine rn tk 2 rfl ?_
    cases hr
    exact jn _ rfl rfl rfl
   ·
    refine rn tk 1 rfl ?_
    cases hr
    exact jn _ rfl rfl rfl
  ·
   refine rn tk 4 rfl ?_
   refine wq (ev_iquo rfl rfl rfl) rfl rfl rfl ?_
   obtain ⟨v8, h9, hr⟩ := bind_some hr
   refine cl (dates_pad_run _ _ _ h9) rfl rfl ?_
   refine rn tk 1 rfl ?_
   refine wq (ev_irem rfl rfl rfl) rfl rfl rfl ?_
   obtain ⟨v10, h11, hr⟩ := bind_some hr
   refine cl (dates_pad_run _ _ _ h11) rfl rfl ?_
   obtain ⟨v12, h13, hr⟩ := bind_some hr
   refine wc h13 rfl rfl rfl ?_
   obtain ⟨v14, h15, hr⟩ := bind_some hr
   refine wc h15 rfl rfl rfl ?_
   refine rn tk 4 rfl ?_
   obtain ⟨v16, h17, hr⟩ := bind_some hr
   obtain ⟨v18, h19, hr⟩ := bind_some hr
   obtain ⟨v20, h21, hr⟩ := bind_some hr
   obtain ⟨v22, h23, hr⟩ := bind_some hr
   obtain ⟨v24, h25, hr⟩ := bind_some hr
   obtain ⟨v26, h27, hr⟩ := bind_some hr
   refine dr 12 [(45, .s v26), (44, .i a0.Second), (43, .ptr 1 5), (42, .s v24), (41, .s v22), (40, .s v20), (39, .i a0.Minute), (38, .ptr 1 4), (37, .s v18), (36, .s v16), (35, .i a0.Hour), (34, .ptr 1 3)] mixed (by kernel_rfl) rfl rfl (pq tk rfl (.plain rfl) (pq tk rfl (.plain rfl) (.run (.plain rfl) (opG_call (dates_pad_run a0.Hour 2 v16 h17) rfl) (.run (.plain rfl) (opG_q (ev_cat rfl rfl h19)) (pq tk rfl (.plain rfl) (pq tk rfl (.plain rfl) (.run (.plain rfl) (opG_call (dates_pad_run a0.Minute 2 v20 h21) rfl) (.run (.plain rfl) (opG_q (ev_cat rfl rfl h23)) (.run (.plain rfl) (opG_q (ev_cat rfl rfl h25)) (pq tk rfl (.plain rfl) (pq tk rfl (.plain rfl) (.run (.plain rfl) (opG_call (dates_pad_run a0.Second 2 v26 h27) rfl) .nil)))))))))))) rfl ?_
   obtain ⟨v28, h29, hr⟩ := bind_some hr
   refine wc h29 rfl rfl rfl ?_
   refine rn tk 4 rfl ?_
   obtain ⟨v30, h31, hr⟩ := bind_some hr
   obtain ⟨v32, h33, hr⟩ := bind_some hr
   obtain ⟨v34, h35, hr⟩ := bind_some hr
   obtain ⟨v36, h37, hr⟩ := bind_some hr
   obtain ⟨v38, h39, hr⟩ := bind_some hr
   obtain ⟨v40, h41, hr⟩ := bind_some hr
   obtain ⟨v42, h43, hr⟩ := bind_some hr
   refine dr 17 [(63, .s v14), (62, .s v28), (61, .s v42), (60, .i a0.Year), (59, .ptr 1 0), (58, .s v40), (57, .i ((w64 (a0.Month - 1)))), (56, .i a0.Month), (55, .ptr 1 1), (54, .agg [.s v38.1, .s v38.2.1, .s v38.2.2.1, .s v38.2.2.2.1, .s v38.2.2.2.2.1, .s v38.2.2.2.2.2.1, .s v38.2.2.2.2.2.2.1, .s v38.2.2.2.2.2.2.2.1, .s v38.2.2.2.2.2.2.2.2.1, .s v38.2.2.2.2.2.2.2.2.2.1, .s v38.2.2.2.2.2.2.2.2.2.2.1, .s v38.2.2.2.2.2.2.2.2.2.2.2]), (53, .s v36), (52, .i a0.Day), (51, .ptr 1 2), (50, .s v34), (49, .s v32), (48, .i v1.1), (47, .agg [.s v30.1, .s v30.2.1, .s v30.2.2.1, .s v30.2.2.2.1, .s v30.2.2.2.2.1, .s v30.2.2.2.2.2.1, .s v30.2.2.2.2.2.2])] mixed (by kernel_rfl) rfl rfl (.run (.plain rfl) (opG_call (dates_weekdays_run  v30 h31) rfl) (pq tk rfl (.plain rfl) (.run (.plain rfl) (opG_q (ev_aidx (f := cS) (L := ([v30.1, v30.2.1, v30.2.2.1, v30.2.2.2.1, v30.2.2.2.2.1, v30.2.2.2.2.2.1, v30.2.2.2.2.2.2] : List Str)) rfl rfl ty__7_string ty_string rfl rfl (fun _ => rfl) h33 rfl)) (.run (.plain rfl) (opG_q (ev_cat rfl rfl h35)) (pq tk rfl (.plain rfl) (pq tk rfl (.plain rfl) (.run (.plain rfl) (opG_call (dates_pad_run a0.Day 2 v36 h37) rfl) (.run (.plain rfl) (opG_call (dates_months_run  v38 h39) rfl) (pq tk rfl (.plain rfl) (pq tk rfl (.plain rfl) (pq tk rfl (.plain rfl) (.run (.plain rfl) (opG_q (ev_aidx (f := cS) (L := ([v38.1, v38.2.1, v38.2.2.1, v38.2.2.2.1, v38.2.2.2.2.1, v38.2.2.2.2.2.1, v38.2.2.2.2.2.2.1, v38.2.2.2.2.2.2.2.1, v38.2.2.2.2.2.2.2.2.1, v38.2.2.2.2.2.2.2.2.2.1, v38.2.2.2.2.2.2.2.2.2.2.1, v38.2.2.2.2.2.2.2.2.2.2.2] : List Str)) rfl rfl ty__12_string ty_string rfl rfl (fun _ => rfl) h41 rfl)) (pq tk rfl (.plain rfl) (pq tk rfl (.plain rfl) (.run (.plain rfl) (opG_call (dates_pad_run a0.Year 4 v42 h43) rfl) (pq tk rfl (.plain rfl) (pq tk rfl (.plain rfl) .nil))))))))))))))))) rfl ?_
   refine wz cS ([v34, v36, v40, v42, v28, v14] : List Str) tk rfl rfl (fun _ => rfl) rfl rfl rfl ?_
   obtain ⟨v44, h45, hr⟩ := bind_some hr
   refine cl (strings_Join_run _ _ _ h45) rfl rfl ?_
   obtain ⟨v46, h47, hr⟩ := bind_some hr
   refine cl (basic_None_run _ h47) rfl rfl ?_
   refine rn tk 5 rfl ?_
   cases hr
   exact kr tk (.inr rfl) rfl rfl
theorem slices_Concat_api_Field_api_Field_run (a0 : List (List TField)) (r : List TField) (hr : slices_Concat_api_Field_api_Field a0 = some r) : Run Tryz.prog 53 [.l (cL TField.pc) a0] (.l TField.pc r) := by
 unfold slices_Concat_api_Field_api_Field at hr
 refine rf (fn := Tryz.f53) ⟨Tryz.func53, rfl, by kernel_rfl⟩ rfl (fun _ => rfl) fun g0 hg => ?_
 refine rn tk 14 rfl ?_
 refine wn tk rfl rfl rfl ?_
 refine rn tk 4 rfl ?_
 refine al1 hr (fun s1 => [(0, .l (cL TField.pc) a0), (3, .i s1.1), (9, .l (cL TField.pc) a0), (10, .i ((a0.length : Int))), (11, .i s1.2)]) (fun s1 => []) (.exit 0) (fun b2 => [(0, .l (cL TField.pc) a0), (3, .i b2)]) (fun b2 => []) rfl rfl (fun s1 x3 hr => ?_) (fun b2 hr => ?_)
 ·
  unfold slices_Concat_api_Field_api_Field_l1 at hr
  refine rn tk 6 rfl ?_
  refine ac 12 hr rfl (fun c4 hr => ?_) (fun c4 hr => ?_)
  ·
   refine rn tk 6 rfl ?_
   obtain ⟨v5, h6, hr⟩ := bind_some hr
   refine wi tk h6 rfl rfl rfl rfl rfl ?_
   refine rn tk 8 rfl ?_
   refine wn tk rfl rfl rfl ?_
   refine rn tk 10 rfl ?_
   refine ac 20 hr rfl (fun c7 hr => ?_) (fun c7 hr => ?_)
   ·
    refine rn tk 1 rfl ?_
    cases hr
   ·
    refine rn tk 7 rfl ?_
    cases hr
    exact atc rfl rfl
  ·
   refine rn tk 2 rfl ?_
   cases hr
   exact ato rfl rfl rfl rfl
 ·
  refine rn tk 5 rfl ?_
  refine il (fn := Tryz.f74) (args := [.pv (.sl (some true) []), .i b2]) 100000 199999 [(0, .l (cL TField.pc) a0)] rfl ⟨Tryz.func74, rfl, by kernel_rfl⟩ rfl rfl rfl fun T1 ds1 => ?_
  refine rn tk 12 rfl ?_
  refine ac 6 hr rfl (fun c8 hr => ?_) (fun c8 hr => ?_)
  ·
   refine rn tk 1 rfl ?_
   cases hr
  ·
   refine rn tk 7 rfl ?_
   refine wq (ev_capnil rfl ty_s_api_Field.u) rfl rfl rfl ?_
   refine rn tk 1 rfl ?_
   refine wq (ev_lennil rfl ty_s_api_Field.u) rfl rfl rfl ?_
   refine rn tk 11 rfl ?_
   refine ac 16 hr rfl (fun c9 hr => ?_) (fun c9 hr => ?_)
   ·
    refine rn tk 3 rfl ?_
    refine wq (ev_capnil rfl ty_s_api_Field.u) rfl rfl rfl ?_
    refine wq (ev_slnil rfl rfl ty_s_api_Field ty_api_Field) rfl rfl rfl ?_
    refine rn tk 1 rfl ?_
    obtain ⟨v10, h11, hr⟩ := bind_some hr
    refine wo (opTo_appendn (k := 22) (F := TField.pc) (z := ((TField.mk (([] : Str)) (([] : Str))) : TField)) (lim := 4398046511104) 1022 rfl rfl rfl rfl rfl ty_s_api_Field ty_int ty_api_Field rfl rfl rfl h11) rfl ?_
    refine rn tk 1 rfl ?_
    refine wq (ev_lennil rfl ty_s_api_Field.u) rfl rfl rfl ?_
    obtain ⟨v12, h13, hr⟩ := bind_some hr
    refine wo (opTo_hcutH (k := 25) (F := TField.pc) (l := v10) rfl rfl rfl rfl ty_s_api_Field ty_api_Field h13) rfl ?_
    refine rn tk 10 rfl ?_
    refine ie tk [.hs 1022 0] [(0, .l (cL TField.pc) a0)] [(1022, .row 57 true 2 (List.map TField.pc v12))] (.inr rfl) rfl rfl rfl rfl (hO ?_)
    refine rn tk 7 rfl ?_
    refine wn tk rfl rfl rfl ?_
    refine rn tk 4 rfl ?_
    refine al1 hr (fun s14 => [(6, .hs 1022 0), (25, .l (cL TField.pc) a0), (26, .i ((a0.length : Int))), (27, .i s14.1)]) (fun s14 => [(1022, .row 57 true 2 (List.map TField.pc s14.2))]) (.exit 2) (fun b15 => [(6, .hs 1022 0)]) (fun b15 => [(1022, .row 57 true 2 (List.map TField.pc b15))]) rfl rfl (fun s14 x16 hr => ?_) (fun b15 hr => ?_)
    ·
     unfold slices_Concat_api_Field_api_Field_l2 at hr
     refine rn tk 6 rfl ?_
     refine ac 28 hr rfl (fun c17 hr => ?_) (fun c17 hr => ?_)
     ·
      refine rn tk 6 rfl ?_
      obtain ⟨v18, h19, hr⟩ := bind_some hr
      refine wi tk h19 rfl rfl rfl rfl rfl ?_
      refine rn tk 7 rfl ?_
      obtain ⟨v20, h21, hr⟩ := bind_some hr
      refine wa tk h21 rfl rfl rfl rfl (fun _ => rfl) rfl rfl ?_
      refine rn tk 8 rfl ?_
      cases hr
      exact atc rfl rfl
     ·
      refine rn tk 2 rfl ?_
      cases hr
      exact ato rfl rfl rfl rfl
    ·
     refine rn tk 8 rfl ?_
     refine awp_unmu 1022 rfl (hC ?_)
     refine awp_pub (d := 2) (F := TField.pc) (l := b15) rfl rfl (hC ?_)
     refine rn tk 1 rfl ?_
     cases hr
     exact kr tk (.inr rfl) rfl rfl
   ·
    refine rn tk 5 rfl ?_
    refine awpl_adopt 1026 (d := 26) 57 2 rfl rfl rfl (hO ?_)
    refine rn tk 4 rfl ?_
    refine ie tk [.hs 1026 0] [(0, .l (cL TField.pc) a0)] [(1026, .row 57 false 2 (List.map TField.pc (([] : List TField))))] (.inr rfl) rfl rfl rfl rfl (hO ?_)
    refine rn tk 7 rfl ?_
    refine wn tk rfl rfl rfl ?_
    refine rn tk 4 rfl ?_
    refine al1 hr (fun s22 => [(6, .hs 1026 0), (25, .l (cL TField.pc) a0), (26, .i ((a0.length : Int))), (27, .i s22.1)]) (fun s22 => [(1026, .row 57 false 2 (List.map TField.pc s22.2))]) (.exit 2) (fun b23 => [(6, .hs 1026 0)]) (fun b23 => [(1026, .row 57 false 2 (List.map TField.pc b23))]) rfl rfl (fun s22 x24 hr => ?_) (fun b23 hr => ?_)
    ·
     unfold slices_Concat_api_Field_api_Field_l3 at hr
     refine rn tk 6 rfl ?_
     refine ac 28 hr rfl (fun c25 hr => ?_) (fun c25 hr => ?_)
     ·
      refine rn tk 6 rfl ?_
      obtain ⟨v26, h27, hr⟩ := bind_some hr
      refine wi tk h27 rfl rfl rfl rfl rfl ?_
      refine rn tk 7 rfl ?_
      obtain ⟨v28, h29, hr⟩ := bind_some hr
      refine wa tk h29 rfl rfl rfl rfl (fun _ => rfl) rfl rfl ?_
      refine rn tk 8 rfl ?_
      cases hr
      exact atc rfl rfl
     ·
      refine rn tk 2 rfl ?_
      cases hr
      exact ato rfl rfl rfl rfl
    ·
     refine rn tk 8 rfl ?_
     refine awp_pub (d := 2) (F := TField.pc) (l := b23) rfl rfl (hC ?_)
     refine rn tk 1 rfl ?_
     cases hr
     exact kr tk (.inr rfl) rfl rfl
theorem trace_Front_run (a0 : TMessage) (a1 : Str) (a2 : Str) (r : TMessage) (hr : trace_Front a0 a1 a2 = some r) : Run Tryz.prog 23 [.agg [.l TField.pc a0.Fields, .l cU a0.Body], .s a1, .s a2] (.agg [.l TField.pc r.Fields, .l cU r.Body]) := by
 unfold trace_Front at hr
 refine rf (fn := Tryz.f23) ⟨Tryz.func23, rfl, by kernel_rfl⟩ rfl (fun _ => rfl) fun g0 hg => ?_
 refine rn tk 7 rfl ?_
 obtain ⟨v1, h2, hr⟩ := bind_some hr
 refine dr 10 [(16, .l cU a0.Body), (15, .ptr 3 1), (14, .l TField.pc v1), (13, .l (cL TField.pc) (([([(TField.mk a1 a2)] : List TField), a0.Fields] : List (List TField)))), (12, .l TField.pc a0.Fields), (11, .ptr 3 0), (10, .l TField.pc (([(TField.mk a1 a2)] : List TField))), (9, .agg [.s a1, .s a2]), (8, .s a2), (7, .s a1)] mixed (by kernel_rfl) rfl rfl (pq tk rfl (.plain rfl) (pq tk rfl (.plain rfl) (pq tk rfl (.plain rfl) (.run (.plain rfl) (opG_lit (F := TField.pc) (l := ([(TField.mk a1 a2)] : List TField)) ty_s_api_Field ty_api_Field rfl (fun _ => rfl) rfl rfl) (pq tk rfl (.plain rfl) (pq tk rfl (.plain rfl) (.run (.plain rfl) (opG_lit (F := (cL TField.pc)) (l := ([([(TField.mk a1 a2)] : List TField), a0.Fields] : List (List TField))) ty_s_s_api_Field ty_s_api_Field rfl (fun _ => rfl) rfl rfl) (.run (.plain rfl) (opG_call (slices_Concat_api_Field_api_Field_run (([([(TField.mk a1 a2)] : List TField), a0.Fields] : List (List TField))) v1 h2) rfl) (pq tk rfl (.plain rfl) (pq tk rfl (.plain rfl) .nil)))))))))) rfl ?_
 refine ct hr (fun j3 => [(6, .ptr 6 0), (14, .l TField.pc v1), (17, .l cU j3)]) (fun j3 => [(6, .cells [.l TField.pc ([]), .l cU ([])])]) (fun j3 hr jump1 => ?_) (fun j3 hr => ?_)
 ·
  refine il (fn := Tryz.f54) (args := [.l cU a0.Body]) 100000 199999 [(6, .ptr 6 0), (14, .l TField.pc v1)] rfl ⟨Tryz.func54, rfl, by kernel_rfl⟩ rfl rfl rfl fun T1 ds1 => ?_
  refine rn tk 9 rfl ?_
  refine awpl_isnil (d := 3) (F := cU) (l := a0.Body) rfl rfl rfl ty_s_uint8 (fun c4 => hO ?_) (hO ?_)
  ·
   replace hr := nilE_nil c4 hr
   refine rn tk 10 rfl ?_
   refine ie tk [.pv (.sl (some true) [])] [(6, .ptr 6 0), (14, .l TField.pc v1)] [(6, .cells [.pv (.sl (some true) []), .pv (.sl (some true) [])]), (3, .cells [.l TField.pc a0.Fields, .l cU a0.Body])] (.inr rfl) rfl rfl rfl rfl ?_
   cases hr
   exact jump1 _ _ rfl rfl
  ·
   replace hr := nilE_not hr
   refine rn tk 7 rfl ?_
   refine wo (opTo_litz (k := 5) rfl ty_s_uint8 ty_uint8) rfl ?_
   refine rn tk 1 rfl ?_
   obtain ⟨v5, h6, hr⟩ := bind_some hr
   refine wo (opTo_appendz (k := 7) (F := cU) (xs := a0.Body) (lim := 140737488355328) 1002 rfl rfl rfl ty_s_uint8 ty_uint8 rfl rfl (fun _ => rfl) rfl rfl rfl h6) rfl ?_
   refine rn tk 3 rfl ?_
   refine awp_unmu 1002 rfl (hC ?_)
   refine awp_pub (d := 2) (F := cU) (l := v5) rfl rfl (hC ?_)
   refine rn tk 1 rfl ?_
   refine ie tk [.l cU v5] [(6, .ptr 6 0), (14, .l TField.pc v1)] [(1002, .row 5 false 1 (List.map cU v5)), (6, .cells [.pv (.sl (some true) []), .pv (.sl (some true) [])]), (3, .cells [.l TField.pc a0.Fields, .l cU a0.Body])] (.inr rfl) rfl rfl rfl rfl ?_
   cases hr
   exact jump1 _ _ rfl rfl
 ·
  refine rn tk 5 rfl ?_
  cases hr
  exact kr tk (.inr rfl) rfl rfl
theorem trace_Stamp_run (a0 : TMessage) (a1 : Str) (a2 : Str) (a3 : Int) (r : TMessage × TFault) (hr : trace_Stamp a0 a1 a2 a3 = some r) : Run Tryz.prog 6 [.agg [.l TField.pc a0.Fields, .l cU a0.Body], .s a1, .s a2, .i a3] (.tup [.agg [.l TField.pc r.1.Fields, .l cU r.1.Body], .agg [.i r.2.Code, .i r.2.Index]]) := by
 unfold trace_Stamp at hr
 refine rf (fn := Tryz.f6) ⟨Tryz.func6, rfl, by kernel_rfl⟩ rfl (fun _ => rfl) fun g0 hg => ?_
 refine rn tk 11 rfl ?_
 obtain ⟨v1, h2, hr⟩ := bind_some hr
 refine cl (message_Validate_run _ _ h2) rfl rfl ?_
 refine rn tk 7 rfl ?_
 obtain ⟨v3, h4, hr⟩ := bind_some hr
 refine cl (basic_Failed_run _ _ h4) rfl rfl ?_
 refine rn tk 2 rfl ?_
 refine ac 20 hr rfl (fun c5 hr => ?_) (fun c5 hr => ?_)
 ·
  refine rn tk 1 rfl ?_
  refine drX 2 3 3 3 [1] [(22, .agg [.i v1.Code, .i v1.Index]), (21, .agg [.pv (.sl (some true) []), .pv (.sl (some true) [])])] [(8, .ptr 8 0), (9, .ptr 9 0), (22, .agg [.i v1.Code, .i v1.Index])] [(10, .cells [.i v1.Code, .i v1.Index]), (9, .cells [.i 0, .i 0]), (8, .cells [.pv (.sl (some true) []), .pv (.sl (some true) [])]), (4, .cells [.l TField.pc a0.Fields, .l cU a0.Body])] tk mixed (by kernel_rfl) rfl rfl rfl (pqX tk rfl (.plain rfl) (pqX tk rfl (.plain rfl) .nil)) rfl rfl rfl rfl (by kernel_rfl) ?_
  refine rn tk 5 rfl ?_
  cases hr
  exact kr tk (.inr rfl) rfl rfl
 ·
  refine rn tk 7 rfl ?_
  obtain ⟨v6, h7, hr⟩ := bind_some hr
  refine cl (basic_Name_run _ _ h7) rfl rfl ?_
  refine rn tk 4 rfl ?_
  refine ac 23 hr rfl (fun c8 hr => ?_) (fun c8 hr => ?_)
  ·
   refine rn tk 3 rfl ?_
   obtain ⟨v9, h10, hr⟩ := bind_some hr
   refine cl (basic_Fault_run _ _ _ h10) rfl rfl ?_
   refine rn tk 7 rfl ?_
   cases hr
   exact kr tk (.inr rfl) rfl rfl
  ·
   refine rn tk 3 rfl ?_
   obtain ⟨v11, h12, hr⟩ := bind_some hr
   refine cl (basic_Name_run _ _ h12) rfl rfl ?_
   refine rn tk 4 rfl ?_
   refine ac 29 hr rfl (fun c13 hr => ?_) (fun c13 hr => ?_)
   ·
    refine rn tk 3 rfl ?_
    obtain ⟨v14, h15, hr⟩ := bind_some hr
    refine cl (basic_Fault_run _ _ _ h15) rfl rfl ?_
    refine rn tk 7 rfl ?_
    cases hr
    exact kr tk (.inr rfl) rfl rfl
   ·
    refine rn tk 4 rfl ?_
    refine wn tk rfl rfl rfl ?_
    refine rn tk 4 rfl ?_
    refine ac 35 hr rfl (fun c16 hr => ?_) (fun c16 hr => ?_)
    ·
     refine rn tk 3 rfl ?_
     obtain ⟨v17, h18, hr⟩ := bind_some hr
     refine cl (basic_Fault_run _ _ _ h18) rfl rfl ?_
     refine rn tk 7 rfl ?_
     cases hr
     exact kr tk (.inr rfl) rfl rfl
    ·
     refine rn tk 6 rfl ?_
     obtain ⟨v19, h20, hr⟩ := bind_some hr
     refine cl (dates_Civil_run _ _ _ h20) rfl rfl ?_
     refine rn tk 13 rfl ?_
     obtain ⟨v21, h22, hr⟩ := bind_some hr
     refine cl (basic_Failed_run _ _ h22) rfl rfl ?_
     refine rn tk 2 rfl ?_
     refine ac 48 hr rfl (fun c23 hr => ?_) (fun c23 hr => ?_)
     ·
      refine rn tk 5 rfl ?_
      obtain ⟨v24, h25, hr⟩ := bind_some hr
      refine cl (basic_Fault_run _ _ _ h25) rfl rfl ?_
      refine rn tk 6 rfl ?_
      cases hr
      exact kr tk (.inr rfl) rfl rfl
     ·
      refine rn tk 5 rfl ?_
      obtain ⟨v26, h27, hr⟩ := bind_some hr
      refine cl (dates_Print_run _ _ h27) rfl rfl ?_
      refine rn tk 12 rfl ?_
      obtain ⟨v28, h29, hr⟩ := bind_some hr
      refine wc h29 rfl rfl rfl ?_
      obtain ⟨v30, h31, hr⟩ := bind_some hr
      refine wc h31 rfl rfl rfl ?_
      refine rn tk 1 rfl ?_
      obtain ⟨v32, h33, hr⟩ := bind_some hr
      refine wc h33 rfl rfl rfl ?_
      obtain ⟨v34, h35, hr⟩ := bind_some hr
      refine wc h35 rfl rfl rfl ?_
      refine rn tk 1 rfl ?_
      obtain ⟨v36, h37, hr⟩ := bind_some hr
      refine wc h37 rfl rfl rfl ?_
      obtain ⟨v38, h39, hr⟩ := bind_some hr
      refine cl (trace_Front_run _ _ _ _ h39) rfl rfl ?_
      refine rn tk 8 rfl ?_
      obtain ⟨v40, h41, hr⟩ := bind_some hr
      refine cl (message_Validate_run _ _ h41) rfl rfl ?_
      refine rn tk 7 rfl ?_
      obtain ⟨v42, h43, hr⟩ := bind_some hr
      refine cl (basic_Failed_run _ _ h43) rfl rfl ?_
      refine rn tk 2 rfl ?_
      refine ac 71 hr rfl (fun c44 hr => ?_) (fun c44 hr => ?_)
      ·
       refine rn tk 5 rfl ?_
       obtain ⟨v45, h46, hr⟩ := bind_some hr
       refine cl (basic_Fault_run _ _ _ h46) rfl rfl ?_
       refine rn tk 6 rfl ?_
       cases hr
       exact kr tk (.inr rfl) rfl rfl
      ·
       refine rn tk 3 rfl ?_
       obtain ⟨v47, h48, hr⟩ := bind_some hr
       refine dr 2 [(77, .agg [.i v47.Code, .i v47.Index]), (76, .agg [.l TField.pc v38.Fields, .l cU v38.Body])] mixed (by kernel_rfl) rfl rfl (pq tk rfl (.plain rfl) (.run (.plain rfl) (opG_call (basic_None_run  v47 h48) rfl) .nil)) rfl ?_
       refine rn tk 5 rfl ?_
       cases hr
       exact kr tk (.inr rfl) rfl rfl
theorem L_stamps_run  (r : Bool) (hr : L_stamps = some r) : Run Tryz.prog 8 [] (.bo r) := by
 unfold L_stamps at hr
 refine rf (fn := Tryz.f8) ⟨Tryz.func8, rfl, by kernel_rfl⟩ rfl (fun _ => rfl) fun g0 hg => ?_
 refine rn tk 8 rfl ?_
 obtain ⟨v1, h2, hr⟩ := bind_some hr
 refine cl (trace_Stamp_run _ _ _ _ _ h2) rfl rfl ?_
 refine rn tk 12 rfl ?_
 obtain ⟨v3, h4, hr⟩ := bind_some hr
 refine cl (trace_Hops_run _ _ h4) rfl rfl ?_
 refine rn tk 11 rfl ?_
 obtain ⟨v5, h6, hr⟩ := bind_some hr
 refine cl (trace_Loops_run _ _ _ h6) rfl rfl ?_
 refine rn tk 8 rfl ?_
 refine jb hr (fun j7 => [(0, .bo j7)]) (fun j7 => []) (fun j7 hr => ?_) (fun j7 hr => ?_)
 ·
  refine rn tk 5 rfl ?_
  refine bs 25 hr rfl (fun c8 hr => ?_) (fun c8 hr => ?_)
  ·
   refine rn tk 5 rfl ?_
   refine bs 30 hr rfl (fun c9 hr => ?_) (fun c9 hr => ?_)
   ·
    refine rn tk 5 rfl ?_
    refine bs 35 hr rfl (fun c10 hr => ?_) (fun c10 hr => ?_)
    ·
     refine rn tk 4 rfl ?_
     refine bs 39 hr rfl (fun c11 hr => ?_) (fun c11 hr => ?_)
     ·
      refine rn tk 2 rfl ?_
      refine ug rfl rfl rfl ?_
      refine wn tk rfl rfl rfl ?_
      refine rn tk 3 rfl ?_
      refine bs 45 hr rfl (fun c12 hr => ?_) (fun c12 hr => ?_)
      ·
       refine rn tk 2 rfl ?_
       obtain ⟨v13, h14, hr⟩ := bind_some hr
       refine ug rfl rfl rfl ?_
       refine wi tk h14 rfl rfl rfl rfl rfl ?_
       refine rn tk 2 rfl ?_
       refine ug rfl rfl rfl ?_
       refine wq (ev_structeq rfl rfl ty_api_Field cmp_api_Field (.str rfl (by decide) ty_string (.str rfl (by decide) ty_string .nil))) rfl rfl rfl ?_
       refine rn tk 2 rfl ?_
       refine bs 53 hr rfl (fun c15 hr => ?_) (fun c15 hr => ?_)
       ·
        refine rn tk 1 rfl ?_
        refine ug rfl rfl rfl ?_
        refine wz cS ([([109, 120] : Str)] : List Str) tk rfl rfl (fun _ => rfl) rfl rfl rfl ?_
        obtain ⟨v16, h17, hr⟩ := bind_some hr
        refine ug rfl rfl rfl ?_
        refine cl (R_Strings_run _ _ _ h17) rfl rfl ?_
        refine rn tk 3 rfl ?_
        cases hr
        exact jn _ rfl rfl rfl
       ·
        refine rn tk 6 rfl ?_
        cases hr
        exact jn _ rfl rfl rfl
      ·
       refine rn tk 14 rfl ?_
       cases hr
       exact jn _ rfl rfl rfl
     ·
      refine rn tk 20 rfl ?_
      cases hr
      exact jn _ rfl rfl rfl
    ·
     refine rn tk 24 rfl ?_
     cases hr
     exact jn _ rfl rfl rfl
   ·
    refine rn tk 29 rfl ?_
    cases hr
    exact jn _ rfl rfl rfl
  ·
   refine rn tk 34 rfl ?_
   cases hr
   exact jn _ rfl rfl rfl
 ·
  refine rn tk 1 rfl ?_
  cases hr
  exact kr tk (.inr rfl) rfl rfl
theorem R_At_run (a0 : Int) (a1 : Int) (r : TFault) (hr : R_At a0 a1 = some r) : Run Tryz.prog 16 [.i a0, .i a1] (.agg [.i r.Code, .i r.Index]) := by
 unfold R_At at hr
 refine rf (fn := Tryz.f16) ⟨Tryz.func16, rfl, by kernel_rfl⟩ rfl (fun _ => rfl) fun g0 hg => ?_
 refine rn tk 14 rfl ?_
 cases hr
 exact kr tk (.inr rfl) rfl rfl
theorem R_In_run (a0 : Int) (a1 : Int) (a2 : Int) (r : Bool) (hr : R_In a0 a1 a2 = some r) : Run Tryz.prog 37 [.i a0, .i a1, .i a2] (.bo r) := by
 unfold R_In at hr
 refine rf (fn := Tryz.f37) ⟨Tryz.func37, rfl, by kernel_rfl⟩ rfl (fun _ => rfl) fun g0 hg => ?_
 refine rn tk 5 rfl ?_
 refine jb hr (fun j1 => [(6, .bo j1)]) (fun j1 => []) (fun j1 hr => ?_) (fun j1 hr => ?_)
 ·
  refine rn tk 5 rfl ?_
  refine bs 10 hr rfl (fun c2 hr => ?_) (fun c2 hr => ?_)
  ·
   refine rn tk 6 rfl ?_
   cases hr
   exact jn _ rfl rfl rfl
  ·
   refine rn tk 6 rfl ?_
   cases hr
   exact jn _ rfl rfl rfl
 ·
  refine rn tk 1 rfl ?_
  cases hr
  exact kr tk (.inr rfl) rfl rfl
theorem R_letterOrDigit_run (a0 : UInt8) (r : Bool) (hr : R_letterOrDigit a0 = some r) : Run Tryz.prog 36 [.u8 a0] (.bo r) := by
 unfold R_letterOrDigit at hr
 refine rf (fn := Tryz.f36) ⟨Tryz.func36, rfl, by kernel_rfl⟩ rfl (fun _ => rfl) fun g0 hg => ?_
 refine rn tk 8 rfl ?_
 refine wu tk rfl rfl rfl ?_
 refine rn tk 3 rfl ?_
 refine jb hr (fun j1 => [(2, .bo j1)]) (fun j1 => []) (fun j1 hr => ?_) (fun j1 hr => ?_)
 ·
  refine rn tk 2 rfl ?_
  obtain ⟨v2, h3, hr⟩ := bind_some hr
  refine cl (R_In_run _ _ _ _ h3) rfl rfl ?_
  refine rn tk 1 rfl ?_
  refine bs 8 hr rfl (fun c4 hr => ?_) (fun c4 hr => ?_)
  ·
   refine rn tk 9 rfl ?_
   cases hr
   exact jn _ rfl rfl rfl
  ·
   refine rn tk 1 rfl ?_
   obtain ⟨v5, h6, hr⟩ := bind_some hr
   refine ug rfl rfl rfl ?_
   refine cl (R_In_run _ _ _ _ h6) rfl rfl ?_
   refine rn tk 2 rfl ?_
   refine bs 12 hr rfl (fun c7 hr => ?_) (fun c7 hr => ?_)
   ·
    refine rn tk 5 rfl ?_
    cases hr
    exact jn _ rfl rfl rfl
   ·
    refine rn tk 1 rfl ?_
    obtain ⟨v8, h9, hr⟩ := bind_some hr
    refine ug rfl rfl rfl ?_
    refine cl (R_In_run _ _ _ _ h9) rfl rfl ?_
    refine rn tk 3 rfl ?_
    cases hr
    exact jn _ rfl rfl rfl
 ·
  refine rn tk 1 rfl ?_
  cases hr
  exact kr tk (.inr rfl) rfl rfl
theorem R_NameOk_run (a0 : Str) (r : Bool) (hr : R_NameOk a0 = some r) : Run Tryz.prog 14 [.s a0] (.bo r) := by
 unfold R_NameOk at hr
 refine rf (fn := Tryz.f14) ⟨Tryz.func14, rfl, by kernel_rfl⟩ rfl (fun _ => rfl) fun g0 hg => ?_
 refine rn tk 12 rfl ?_
 refine al2 hr (fun s1 => [(0, .s a0), (3, .i s1)]) (fun s1 => []) (.exit 0) (fun b2 => [(0, .s a0)]) (fun b2 => []) .ret (fun b3 => [(2, .bo b3)]) (fun b3 => []) rfl rfl (fun s1 x5 hr => ?_) (fun b2 hr => ?_) (fun b3 hr => ?_)
 ·
  unfold R_NameOk_l1 at hr
  refine rn tk 9 rfl ?_
  refine ac 7 hr rfl (fun c6 hr => ?_) (fun c6 hr => ?_)
  ·
   refine rn tk 4 rfl ?_
   refine jb hr (fun j7 => [(0, .s a0), (3, .i s1), (32, .bo j7)]) (fun j7 => []) (fun j7 hr => ?_) (fun j7 hr => ?_)
   ·
    refine rn tk 3 rfl ?_
    obtain ⟨v8, h9, hr⟩ := bind_some hr
    refine ws tk h9 rfl rfl rfl rfl ?_
    obtain ⟨v10, h11, hr⟩ := bind_some hr
    refine cl (R_letterOrDigit_run _ _ h11) rfl rfl ?_
    refine rn tk 2 rfl ?_
    refine bs 15 hr rfl (fun c12 hr => ?_) (fun c12 hr => ?_)
    ·
     refine rn tk 2 rfl ?_
     obtain ⟨v13, h14, hr⟩ := bind_some hr
     refine ug rfl rfl rfl ?_
     refine ws tk h14 rfl rfl rfl rfl ?_
     refine rn tk 3 rfl ?_
     refine bs 21 hr rfl (fun c15 hr => ?_) (fun c15 hr => ?_)
     ·
      refine rn tk 2 rfl ?_
      obtain ⟨v16, h17, hr⟩ := bind_some hr
      refine ug rfl rfl rfl ?_
      refine ws tk h17 rfl rfl rfl rfl ?_
      refine rn tk 3 rfl ?_
      refine bs 27 hr rfl (fun c18 hr => ?_) (fun c18 hr => ?_)
      ·
       refine rn tk 2 rfl ?_
       obtain ⟨v19, h20, hr⟩ := bind_some hr
       refine ug rfl rfl rfl ?_
       refine ws tk h20 rfl rfl rfl rfl ?_
       refine rn tk 3 rfl ?_
       cases hr
       exact jn _ rfl rfl rfl
      ·
       refine rn tk 6 rfl ?_
       cases hr
       exact jn _ rfl rfl rfl
     ·
      refine rn tk 12 rfl ?_
      cases hr
      exact jn _ rfl rfl rfl
    ·
     refine rn tk 18 rfl ?_
     cases hr
     exact jn _ rfl rfl rfl
   ·
    refine ac 32 hr rfl (fun c21 hr => ?_) (fun c21 hr => ?_)
    ·
     refine rn tk 8 rfl ?_
     cases hr
     exact ato rfl rfl rfl rfl
    ·
     refine rn tk 8 rfl ?_
     cases hr
     exact atc rfl rfl
  ·
   refine rn tk 2 rfl ?_
   cases hr
   exact ato rfl rfl rfl rfl
 ·
  refine rn tk 6 rfl ?_
  obtain ⟨v22, h23, hr⟩ := bind_some hr
  refine cl (R_In_run _ _ _ _ h23) rfl rfl ?_
  refine rn tk 4 rfl ?_
  cases hr
  exact kr tk (.inr rfl) rfl rfl
 ·
  refine rn tk 2 rfl ?_
  cases hr
  exact kr tk (.inr rfl) rfl rfl
theorem R_Pieces_run (a0 : Str) (r : List Str) (hr : R_Pieces a0 = some r) : Run Tryz.prog 35 [.s a0] (.l cS r) := by
 unfold R_Pieces at hr
 refine rf (fn := Tryz.f35) ⟨Tryz.func35, rfl, by kernel_rfl⟩ rfl (fun _ => rfl) fun g0 hg => ?_
 refine rn tk 8 rfl ?_
 refine awpl_adopt 1003 (d := 3) 9 1 rfl rfl rfl (hO ?_)
 refine rn tk 14 rfl ?_
 refine al1 hr (fun s1 => [(0, .s a0), (3, .hs 1003 0), (4, .i s1.1), (5, .i s1.2.1)]) (fun s1 => [(1003, .row 9 false 1 (List.map cS s1.2.2))]) (.exit 0) (fun b2 => [(3, .hs 1003 0)]) (fun b2 => [(1003, .row 9 false 1 (List.map cS b2))]) rfl rfl (fun s1 x3 hr => ?_) (fun b2 hr => ?_)
 ·
  unfold R_Pieces_l1 at hr
  refine rn tk 9 rfl ?_
  refine ac 9 hr rfl (fun c4 hr => ?_) (fun c4 hr => ?_)
  ·
   refine rn tk 2 rfl ?_
   refine jb hr (fun j5 => [(0, .s a0), (3, .hs 1003 0), (4, .i j5.1), (5, .i s1.2.1)]) (fun j5 => [(1003, .row 9 false 1 (List.map cS j5.2))]) (fun j5 hr => ?_) (fun j5 hr => ?_)
   ·
    refine rn tk 1 rfl ?_
    refine jb hr (fun j6 => [(0, .s a0), (3, .hs 1003 0), (4, .i s1.1), (5, .i s1.2.1), (21, .bo j6)]) (fun j6 => [(1003, .row 9 false 1 (List.map cS s1.2.2))]) (fun j6 hr => ?_) (fun j6 hr => ?_)
    ·
     refine rn tk 6 rfl ?_
     refine bs 16 hr rfl (fun c7 hr => ?_) (fun c7 hr => ?_)
     ·
      refine rn tk 6 rfl ?_
      cases hr
      exact jn _ rfl rfl rfl
     ·
      refine rn tk 2 rfl ?_
      obtain ⟨v8, h9, hr⟩ := bind_some hr
      refine ug rfl rfl rfl ?_
      refine ws tk h9 rfl rfl rfl rfl ?_
      refine rn tk 3 rfl ?_
      cases hr
      exact jn _ rfl rfl rfl
    ·
     refine ac 21 hr rfl (fun c10 hr => ?_) (fun c10 hr => ?_)
     ·
      refine rn tk 6 rfl ?_
      obtain ⟨v11, h12, hr⟩ := bind_some hr
      refine wscLH tk h12 rfl rfl rfl rfl rfl ?_
      refine wz cS ([v11] : List Str) tk rfl rfl (fun _ => rfl) rfl rfl rfl ?_
      obtain ⟨v13, h14, hr⟩ := bind_some hr
      refine wa tk h14 rfl rfl rfl rfl (fun _ => rfl) rfl rfl ?_
      refine rn tk 9 rfl ?_
      cases hr
      exact jn _ rfl rfl rfl
     ·
      refine rn tk 2 rfl ?_
      cases hr
      exact jn _ rfl rfl rfl
   ·
    refine rn tk 5 rfl ?_
    cases hr
    exact atc rfl rfl
  ·
   refine rn tk 2 rfl ?_
   cases hr
   exact ato rfl rfl rfl rfl
 ·
  refine rn tk 8 rfl ?_
  refine awp_pub (d := 2) (F := cS) (l := b2) rfl rfl (hC ?_)
  refine rn tk 1 rfl ?_
  cases hr
  exact kr tk (.inr rfl) rfl rfl
theorem R_Small_run (a0 : Str) (r : Str) (hr : R_Small a0 = some r) : Run Tryz.prog 77 [.s a0] (.s r) := by
 unfold R_Small at hr
 refine rf (fn := Tryz.f77) ⟨Tryz.func77, rfl, by kernel_rfl⟩ rfl (fun _ => rfl) fun g0 hg => ?_
 refine rn tk 8 rfl ?_
 refine awpl_adopt 1003 (d := 3) 5 1 rfl rfl rfl (hO ?_)
 refine rn tk 9 rfl ?_
 refine al1 hr (fun s1 => [(0, .s a0), (3, .hs 1003 0), (4, .i s1.1)]) (fun s1 => [(1003, .row 5 false 1 (List.map cU s1.2))]) (.exit 0) (fun b2 => [(3, .hs 1003 0)]) (fun b2 => [(1003, .row 5 false 1 (List.map cU b2))]) rfl rfl (fun s1 x3 hr => ?_) (fun b2 hr => ?_)
 ·
  unfold R_Small_l1 at hr
  refine rn tk 9 rfl ?_
  refine ac 9 hr rfl (fun c4 hr => ?_) (fun c4 hr => ?_)
  ·
   refine rn tk 8 rfl ?_
   obtain ⟨v5, h6, hr⟩ := bind_some hr
   refine ws tk h6 rfl rfl rfl rfl ?_
   refine rn tk 3 rfl ?_
   refine jb hr (fun j7 => [(0, .s a0), (3, .hs 1003 0), (4, .i s1.1), (5, .u8 j7)]) (fun j7 => [(1003, .row 5 false 1 (List.map cU s1.2))]) (fun j7 hr => ?_) (fun j7 hr => ?_)
   ·
    refine rn tk 3 rfl ?_
    refine wu tk rfl rfl rfl ?_
    obtain ⟨v8, h9, hr⟩ := bind_some hr
    refine cl (R_In_run _ _ _ _ h9) rfl rfl ?_
    refine rn tk 2 rfl ?_
    refine ac 17 hr rfl (fun c10 hr => ?_) (fun c10 hr => ?_)
    ·
     refine rn tk 2 rfl ?_
     refine wq (ev_u8add (a := v5) (b := (32 : UInt8)) rfl rfl) rfl rfl rfl ?_
     refine rn tk 2 rfl ?_
     cases hr
     exact jn _ rfl rfl rfl
    ·
     refine rn tk 1 rfl ?_
     cases hr
     exact jn _ rfl rfl rfl
   ·
    refine rn tk 3 rfl ?_
    refine wz cU ([j7] : List UInt8) tk rfl rfl (fun _ => rfl) rfl rfl rfl ?_
    obtain ⟨v11, h12, hr⟩ := bind_some hr
    refine wa tk h12 rfl rfl rfl rfl (fun _ => rfl) rfl rfl ?_
    refine rn tk 9 rfl ?_
    cases hr
    exact atc rfl rfl
  ·
   refine rn tk 2 rfl ?_
   cases hr
   exact ato rfl rfl rfl rfl
 ·
  refine rn tk 5 rfl ?_
  refine awpl_pub (d := 24) (F := cU) (l := b2) rfl rfl (hO ?_)
  refine wb tk rfl rfl rfl ?_
  refine rn tk 4 rfl ?_
  cases hr
  exact kr tk (.inr rfl) rfl rfl
theorem R_same_run (a0 : Str) (a1 : Str) (r : Bool) (hr : R_same a0 a1 = some r) : Run Tryz.prog 63 [.s a0, .s a1] (.bo r) := by
 unfold R_same at hr
 refine rf (fn := Tryz.f63) ⟨Tryz.func63, rfl, by kernel_rfl⟩ rfl (fun _ => rfl) fun g0 hg => ?_
 refine rn tk 8 rfl ?_
 obtain ⟨v1, h2, hr⟩ := bind_some hr
 refine cl (R_Small_run _ _ h2) rfl rfl ?_
 refine rn tk 1 rfl ?_
 obtain ⟨v3, h4, hr⟩ := bind_some hr
 refine cl (R_Small_run _ _ h4) rfl rfl ?_
 refine rn tk 5 rfl ?_
 cases hr
 exact kr tk (.inr rfl) rfl rfl
theorem R_Values_run (a0 : TMessage) (a1 : Str) (r : List Str) (hr : R_Values a0 a1 = some r) : Run Tryz.prog 34 [.agg [.l TField.pc a0.Fields, .l cU a0.Body], .s a1] (.l cS r) := by
 unfold R_Values at hr
 refine rf (fn := Tryz.f34) ⟨Tryz.func34, rfl, by kernel_rfl⟩ rfl (fun _ => rfl) fun g0 hg => ?_
 refine rn tk 9 rfl ?_
 refine awpl_adopt 1005 (d := 5) 9 1 rfl rfl rfl (hO ?_)
 refine rn tk 9 rfl ?_
 refine al1 hr (fun s1 => [(1, .s a1), (2, .ptr 2 0), (5, .hs 1005 0), (6, .i s1.1)]) (fun s1 => [(1005, .row 9 false 1 (List.map cS s1.2)), (2, .cells [.l TField.pc a0.Fields, .l cU a0.Body])]) (.exit 0) (fun b2 => [(5, .hs 1005 0)]) (fun b2 => [(1005, .row 9 false 1 (List.map cS b2))]) rfl rfl (fun s1 x3 hr => ?_) (fun b2 hr => ?_)
 ·
  unfold R_Values_l1 at hr
  refine rn tk 6 rfl ?_
  refine wn tk rfl rfl rfl ?_
  refine rn tk 3 rfl ?_
  refine ac 11 hr rfl (fun c4 hr => ?_) (fun c4 hr => ?_)
  ·
   refine rn tk 2 rfl ?_
   refine jb hr (fun j5 => [(1, .s a1), (2, .ptr 2 0), (5, .hs 1005 0), (6, .i s1.1)]) (fun j5 => [(1005, .row 9 false 1 (List.map cS j5)), (2, .cells [.l TField.pc a0.Fields, .l cU a0.Body])]) (fun j5 hr => ?_) (fun j5 hr => ?_)
   ·
    refine rn tk 6 rfl ?_
    obtain ⟨v6, h7, hr⟩ := bind_some hr
    refine wi tk h7 rfl rfl rfl rfl rfl ?_
    refine rn tk 3 rfl ?_
    obtain ⟨v8, h9, hr⟩ := bind_some hr
    refine cl (R_same_run _ _ _ h9) rfl rfl ?_
    refine rn tk 2 rfl ?_
    refine ac 21 hr rfl (fun c10 hr => ?_) (fun c10 hr => ?_)
    ·
     refine rn tk 5 rfl ?_
     obtain ⟨v11, h12, hr⟩ := bind_some hr
     refine wi tk h12 rfl rfl rfl rfl rfl ?_
     refine rn tk 2 rfl ?_
     refine wz cS ([v11.Value] : List Str) tk rfl rfl (fun _ => rfl) rfl rfl rfl ?_
     obtain ⟨v13, h14, hr⟩ := bind_some hr
     refine wa tk h14 rfl rfl rfl rfl (fun _ => rfl) rfl rfl ?_
     refine rn tk 3 rfl ?_
     cases hr
     exact jn _ rfl rfl rfl
    ·
     refine rn tk 2 rfl ?_
     cases hr
     exact jn _ rfl rfl rfl
   ·
    refine rn tk 5 rfl ?_
    cases hr
    exact atc rfl rfl
  ·
   refine rn tk 2 rfl ?_
   cases hr
   exact ato rfl rfl rfl rfl
 ·
  refine rn tk 8 rfl ?_
  refine awp_pub (d := 4) (F := cS) (l := b2) rfl rfl (hC ?_)
  refine rn tk 1 rfl ?_
  cases hr
  exact kr tk (.inr rfl) rfl rfl
theorem R_HostsOf_run (a0 : TMessage) (r : List Str) (hr : R_HostsOf a0 = some r) : Run Tryz.prog 13 [.agg [.l TField.pc a0.Fields, .l cU a0.Body]] (.l cS r) := by
 unfold R_HostsOf at hr
 refine rf (fn := Tryz.f13) ⟨Tryz.func13, rfl, by kernel_rfl⟩ rfl (fun _ => rfl) fun g0 hg => ?_
 refine rn tk 9 rfl ?_
 refine awpl_adopt 1003 (d := 3) 9 1 rfl rfl rfl (hO ?_)
 refine rn tk 5 rfl ?_
 obtain ⟨v1, h2, hr⟩ := bind_some hr
 refine cl (R_Values_run _ _ _ h2) rfl rfl ?_
 refine rn tk 10 rfl ?_
 refine al1 hr (fun s3 => [(3, .hs 1003 0), (4, .l cS v1), (5, .i s3.1)]) (fun s3 => [(1003, .row 9 false 1 (List.map cS s3.2))]) (.exit 0) (fun b4 => [(3, .hs 1003 0)]) (fun b4 => [(1003, .row 9 false 1 (List.map cS b4))]) rfl rfl (fun s3 x5 hr => ?_) (fun b4 hr => ?_)
 ·
  unfold R_HostsOf_l1 at hr
  refine rn tk 5 rfl ?_
  refine wn tk rfl rfl rfl ?_
  refine rn tk 3 rfl ?_
  refine ac 12 hr rfl (fun c6 hr => ?_) (fun c6 hr => ?_)
  ·
   refine rn tk 2 rfl ?_
   refine jb hr (fun j7 => [(3, .hs 1003 0), (4, .l cS v1), (5, .i s3.1)]) (fun j7 => [(1003, .row 9 false 1 (List.map cS j7))]) (fun j7 hr => ?_) (fun j7 hr => ?_)
   ·
    refine rn tk 5 rfl ?_
    obtain ⟨v8, h9, hr⟩ := bind_some hr
    refine wi tk h9 rfl rfl rfl rfl rfl ?_
    refine rn tk 1 rfl ?_
    obtain ⟨v10, h11, hr⟩ := bind_some hr
    refine cl (R_Pieces_run _ _ h11) rfl rfl ?_
    refine rn tk 3 rfl ?_
    refine jb hr (fun j12 => [(3, .hs 1003 0), (4, .l cS v1), (5, .i s3.1), (6, .l cS v10), (34, .bo j12)]) (fun j12 => [(1003, .row 9 false 1 (List.map cS s3.2))]) (fun j12 hr => ?_) (fun j12 hr => ?_)
    ·
     refine rn tk 2 rfl ?_
     refine wn tk rfl rfl rfl ?_
     refine rn tk 2 rfl ?_
     refine bs 23 hr rfl (fun c13 hr => ?_) (fun c13 hr => ?_)
     ·
      refine rn tk 1 rfl ?_
      obtain ⟨v14, h15, hr⟩ := bind_some hr
      refine ug rfl rfl rfl ?_
      refine wi tk h15 rfl rfl rfl rfl rfl ?_
      refine rn tk 4 rfl ?_
      refine bs 29 hr rfl (fun c16 hr => ?_) (fun c16 hr => ?_)
      ·
       refine rn tk 1 rfl ?_
       obtain ⟨v17, h18, hr⟩ := bind_some hr
       refine ug rfl rfl rfl ?_
       refine wi tk h18 rfl rfl rfl rfl rfl ?_
       refine rn tk 1 rfl ?_
       obtain ⟨v19, h20, hr⟩ := bind_some hr
       refine ug rfl rfl rfl ?_
       refine cl (R_NameOk_run _ _ h20) rfl rfl ?_
       refine rn tk 2 rfl ?_
       cases hr
       exact jn _ rfl rfl rfl
      ·
       refine rn tk 6 rfl ?_
       cases hr
       exact jn _ rfl rfl rfl
     ·
      refine rn tk 12 rfl ?_
      cases hr
      exact jn _ rfl rfl rfl
    ·
     refine ac 34 hr rfl (fun c21 hr => ?_) (fun c21 hr => ?_)
     ·
      refine rn tk 3 rfl ?_
      obtain ⟨v22, h23, hr⟩ := bind_some hr
      refine wi tk h23 rfl rfl rfl rfl rfl ?_
      refine rn tk 1 rfl ?_
      refine wz cS ([v22] : List Str) tk rfl rfl (fun _ => rfl) rfl rfl rfl ?_
      obtain ⟨v24, h25, hr⟩ := bind_some hr
      refine wa tk h25 rfl rfl rfl rfl (fun _ => rfl) rfl rfl ?_
      refine rn tk 3 rfl ?_
      cases hr
      exact jn _ rfl rfl rfl
     ·
      refine rn tk 2 rfl ?_
      refine wz cS ([([] : Str)] : List Str) tk rfl rfl (fun _ => rfl) rfl rfl rfl ?_
      obtain ⟨v26, h27, hr⟩ := bind_some hr
      refine wa tk h27 rfl rfl rfl rfl (fun _ => rfl) rfl rfl ?_
      refine rn tk 3 rfl ?_
      cases hr
      exact jn _ rfl rfl rfl
   ·
    refine rn tk 5 rfl ?_
    cases hr
    exact atc rfl rfl
  ·
   refine rn tk 2 rfl ?_
   cases hr
   exact ato rfl rfl rfl rfl
 ·
  refine rn tk 8 rfl ?_
  refine awp_pub (d := 2) (F := cS) (l := b4) rfl rfl (hC ?_)
  refine rn tk 1 rfl ?_
  cases hr
  exact kr tk (.inr rfl) rfl rfl
theorem R_blank_run (a0 : UInt8) (r : Bool) (hr : R_blank a0 = some r) : Run Tryz.prog 58 [.u8 a0] (.bo r) := by
 unfold R_blank at hr
 refine rf (fn := Tryz.f58) ⟨Tryz.func58, rfl, by kernel_rfl⟩ rfl (fun _ => rfl) fun g0 hg => ?_
 refine rn tk 5 rfl ?_
 refine jb hr (fun j1 => [(2, .bo j1)]) (fun j1 => []) (fun j1 hr => ?_) (fun j1 hr => ?_)
 ·
  refine rn tk 4 rfl ?_
  refine bs 5 hr rfl (fun c2 hr => ?_) (fun c2 hr => ?_)
  ·
   refine rn tk 5 rfl ?_
   cases hr
   exact jn _ rfl rfl rfl
  ·
   refine rn tk 5 rfl ?_
   cases hr
   exact jn _ rfl rfl rfl
 ·
  refine rn tk 1 rfl ?_
  cases hr
  exact kr tk (.inr rfl) rfl rfl
theorem R_FieldLines_run (a0 : Str) (a1 : Str) (r : List Str) (hr : R_FieldLines a0 a1 = some r) : Run Tryz.prog 59 [.s a0, .s a1] (.l cS r) := by
 unfold R_FieldLines at hr
 refine rf (fn := Tryz.f59) ⟨Tryz.func59, rfl, by kernel_rfl⟩ rfl (fun _ => rfl) fun g0 hg => ?_
 refine rn tk 8 rfl ?_
 obtain ⟨v1, h2, hr⟩ := bind_some hr
 refine wc h2 rfl rfl rfl ?_
 refine rn tk 1 rfl ?_
 obtain ⟨v3, h4, hr⟩ := bind_some hr
 refine wc h4 rfl rfl rfl ?_
 refine rn tk 14 rfl ?_
 refine awpl_adopt 1007 (d := 7) 9 1 rfl rfl rfl (hO ?_)
 refine rn tk 4 rfl ?_
 refine al1 hr (fun s5 => [(5, .s s5.1), (6, .i s5.2.1), (7, .hs 1007 0)]) (fun s5 => [(1007, .row 9 false 1 (List.map cS s5.2.2))]) (.exit 0) (fun b6 => [(5, .s b6.1), (7, .hs 1007 0)]) (fun b6 => [(1007, .row 9 false 1 (List.map cS b6.2))]) rfl rfl (fun s5 x7 hr => ?_) (fun b6 hr => ?_)
 ·
  unfold R_FieldLines_l1 at hr
  refine rn tk 8 rfl ?_
  refine ac 20 hr rfl (fun c8 hr => ?_) (fun c8 hr => ?_)
  ·
   refine rn tk 15 rfl ?_
   refine al1 hr (fun s9 => [(5, .s s5.1), (6, .i s5.2.1), (7, .hs 1007 0), (8, .i s9.1), (9, .i s9.2)]) (fun s9 => [(1007, .row 9 false 1 (List.map cS s5.2.2))]) (.exit 2) (fun b10 => [(5, .s s5.1), (6, .i s5.2.1), (7, .hs 1007 0), (8, .i b10)]) (fun b10 => [(1007, .row 9 false 1 (List.map cS s5.2.2))]) rfl rfl (fun s9 x11 hr => ?_) (fun b10 hr => ?_)
   ·
    unfold R_FieldLines_l2 at hr
    refine rn tk 1 rfl ?_
    refine jb hr (fun j12 => [(5, .s s5.1), (6, .i s5.2.1), (7, .hs 1007 0), (8, .i s9.1), (9, .i s9.2), (26, .bo j12)]) (fun j12 => [(1007, .row 9 false 1 (List.map cS s5.2.2))]) (fun j12 hr => ?_) (fun j12 hr => ?_)
    ·
     refine rn tk 4 rfl ?_
     refine bs 23 hr rfl (fun c13 hr => ?_) (fun c13 hr => ?_)
     ·
      refine rn tk 4 rfl ?_
      cases hr
      exact jn _ rfl rfl rfl
     ·
      refine rn tk 4 rfl ?_
      cases hr
      exact jn _ rfl rfl rfl
    ·
     refine ac 26 hr rfl (fun c14 hr => ?_) (fun c14 hr => ?_)
     ·
      refine rn tk 2 rfl ?_
      refine jb hr (fun j15 => [(5, .s s5.1), (6, .i s5.2.1), (7, .hs 1007 0), (8, .i j15), (9, .i s9.2)]) (fun j15 => [(1007, .row 9 false 1 (List.map cS s5.2.2))]) (fun j15 hr => ?_) (fun j15 hr => ?_)
      ·
       refine rn tk 1 rfl ?_
       refine jb hr (fun j16 => [(5, .s s5.1), (6, .i s5.2.1), (7, .hs 1007 0), (8, .i s9.1), (9, .i s9.2), (45, .bo j16)]) (fun j16 => [(1007, .row 9 false 1 (List.map cS s5.2.2))]) (fun j16 hr => ?_) (fun j16 hr => ?_)
       ·
        refine rn tk 5 rfl ?_
        refine bs 32 hr rfl (fun c17 hr => ?_) (fun c17 hr => ?_)
        ·
         refine rn tk 2 rfl ?_
         obtain ⟨v18, h19, hr⟩ := bind_some hr
         refine ug rfl rfl rfl ?_
         refine ws tk h19 rfl rfl rfl rfl ?_
         obtain ⟨v20, h21, hr⟩ := bind_some hr
         refine ug rfl rfl rfl ?_
         refine cl (R_blank_run _ _ h21) rfl rfl ?_
         refine rn tk 2 rfl ?_
         refine bs 38 hr rfl (fun c22 hr => ?_) (fun c22 hr => ?_)
         ·
          refine rn tk 3 rfl ?_
          obtain ⟨v23, h24, hr⟩ := bind_some hr
          refine ug rfl rfl rfl ?_
          refine ws tk h24 rfl rfl rfl rfl ?_
          obtain ⟨v25, h26, hr⟩ := bind_some hr
          refine ug rfl rfl rfl ?_
          refine cl (R_blank_run _ _ h26) rfl rfl ?_
          refine rn tk 3 rfl ?_
          cases hr
          exact jn _ rfl rfl rfl
         ·
          refine rn tk 8 rfl ?_
          cases hr
          exact jn _ rfl rfl rfl
        ·
         refine rn tk 14 rfl ?_
         cases hr
         exact jn _ rfl rfl rfl
       ·
        refine ac 45 hr rfl (fun c27 hr => ?_) (fun c27 hr => ?_)
        ·
         refine rn tk 5 rfl ?_
         cases hr
         exact jn _ rfl rfl rfl
        ·
         refine rn tk 2 rfl ?_
         cases hr
         exact jn _ rfl rfl rfl
      ·
       refine rn tk 5 rfl ?_
       cases hr
       exact atc rfl rfl
     ·
      refine rn tk 2 rfl ?_
      cases hr
      exact ato rfl rfl rfl rfl
   ·
    refine rn tk 9 rfl ?_
    refine al1 hr (fun s28 => [(5, .s s5.1), (6, .i s5.2.1), (7, .hs 1007 0), (8, .i s28.1), (10, .i s28.2)]) (fun s28 => [(1007, .row 9 false 1 (List.map cS s5.2.2))]) (.exit 4) (fun b29 => [(5, .s s5.1), (7, .hs 1007 0), (8, .i b29)]) (fun b29 => [(1007, .row 9 false 1 (List.map cS s5.2.2))]) rfl rfl (fun s28 x30 hr => ?_) (fun b29 hr => ?_)
    ·
     unfold R_FieldLines_l3 at hr
     refine rn tk 1 rfl ?_
     refine jb hr (fun j31 => [(5, .s s5.1), (6, .i s5.2.1), (7, .hs 1007 0), (8, .i s28.1), (10, .i s28.2), (54, .bo j31)]) (fun j31 => [(1007, .row 9 false 1 (List.map cS s5.2.2))]) (fun j31 hr => ?_) (fun j31 hr => ?_)
     ·
      refine rn tk 6 rfl ?_
      refine bs 51 hr rfl (fun c32 hr => ?_) (fun c32 hr => ?_)
      ·
       refine rn tk 4 rfl ?_
       cases hr
       exact jn _ rfl rfl rfl
      ·
       refine rn tk 4 rfl ?_
       cases hr
       exact jn _ rfl rfl rfl
     ·
      refine ac 54 hr rfl (fun c33 hr => ?_) (fun c33 hr => ?_)
      ·
       refine rn tk 2 rfl ?_
       refine jb hr (fun j34 => [(5, .s s5.1), (6, .i s5.2.1), (7, .hs 1007 0), (8, .i j34), (10, .i s28.2)]) (fun j34 => [(1007, .row 9 false 1 (List.map cS s5.2.2))]) (fun j34 hr => ?_) (fun j34 hr => ?_)
       ·
        refine rn tk 1 rfl ?_
        refine jb hr (fun j35 => [(5, .s s5.1), (6, .i s5.2.1), (7, .hs 1007 0), (8, .i s28.1), (10, .i s28.2), (73, .bo j35)]) (fun j35 => [(1007, .row 9 false 1 (List.map cS s5.2.2))]) (fun j35 hr => ?_) (fun j35 hr => ?_)
        ·
         refine rn tk 5 rfl ?_
         refine bs 60 hr rfl (fun c36 hr => ?_) (fun c36 hr => ?_)
         ·
          refine rn tk 2 rfl ?_
          obtain ⟨v37, h38, hr⟩ := bind_some hr
          refine ug rfl rfl rfl ?_
          refine ws tk h38 rfl rfl rfl rfl ?_
          obtain ⟨v39, h40, hr⟩ := bind_some hr
          refine ug rfl rfl rfl ?_
          refine cl (R_blank_run _ _ h40) rfl rfl ?_
          refine rn tk 2 rfl ?_
          refine bs 66 hr rfl (fun c41 hr => ?_) (fun c41 hr => ?_)
          ·
           refine rn tk 3 rfl ?_
           obtain ⟨v42, h43, hr⟩ := bind_some hr
           refine ug rfl rfl rfl ?_
           refine ws tk h43 rfl rfl rfl rfl ?_
           obtain ⟨v44, h45, hr⟩ := bind_some hr
           refine ug rfl rfl rfl ?_
           refine cl (R_blank_run _ _ h45) rfl rfl ?_
           refine rn tk 3 rfl ?_
           cases hr
           exact jn _ rfl rfl rfl
          ·
           refine rn tk 8 rfl ?_
           cases hr
           exact jn _ rfl rfl rfl
         ·
          refine rn tk 14 rfl ?_
          cases hr
          exact jn _ rfl rfl rfl
        ·
         refine ac 73 hr rfl (fun c46 hr => ?_) (fun c46 hr => ?_)
         ·
          refine rn tk 5 rfl ?_
          cases hr
          exact jn _ rfl rfl rfl
         ·
          refine rn tk 2 rfl ?_
          cases hr
          exact jn _ rfl rfl rfl
       ·
        refine rn tk 5 rfl ?_
        cases hr
        exact atc rfl rfl
      ·
       refine rn tk 2 rfl ?_
       cases hr
       exact ato rfl rfl rfl rfl
    ·
     refine rn tk 9 rfl ?_
     refine ac 76 hr rfl (fun c47 hr => ?_) (fun c47 hr => ?_)
     ·
      refine rn tk 3 rfl ?_
      cases hr
      exact ato rfl rfl rfl rfl
     ·
      refine rn tk 7 rfl ?_
      obtain ⟨v48, h49, hr⟩ := bind_some hr
      refine wscH tk h49 rfl rfl rfl rfl ?_
      refine wz cS ([v48] : List Str) tk rfl rfl (fun _ => rfl) rfl rfl rfl ?_
      obtain ⟨v50, h51, hr⟩ := bind_some hr
      refine wa tk h51 rfl rfl rfl rfl (fun _ => rfl) rfl rfl ?_
      refine rn tk 7 rfl ?_
      obtain ⟨v52, h53, hr⟩ := bind_some hr
      refine wscL tk h53 rfl rfl rfl rfl ?_
      refine rn tk 7 rfl ?_
      cases hr
      exact atc rfl rfl
  ·
   refine rn tk 2 rfl ?_
   cases hr
   exact ato rfl rfl rfl rfl
 ·
  refine rn tk 6 rfl ?_
  refine wz cS ([b6.1] : List Str) tk rfl rfl (fun _ => rfl) rfl rfl rfl ?_
  obtain ⟨v54, h55, hr⟩ := bind_some hr
  refine wa tk h55 rfl rfl rfl rfl (fun _ => rfl) rfl rfl ?_
  refine rn tk 3 rfl ?_
  refine awp_pub (d := 4) (F := cS) (l := v54) rfl rfl (hC ?_)
  refine rn tk 1 rfl ?_
  cases hr
  exact kr tk (.inr rfl) rfl rfl
theorem R_FieldCode_run (a0 : TField) (r : Int) (hr : R_FieldCode a0 = some r) : Run Tryz.prog 27 [.agg [.s a0.Name, .s a0.Value]] (.i r) := by
 unfold R_FieldCode at hr
 refine rf (fn := Tryz.f27) ⟨Tryz.func27, rfl, by kernel_rfl⟩ rfl (fun _ => rfl) fun g0 hg => ?_
 refine rn tk 13 rfl ?_
 refine al2 hr (fun s1 => [(1, .ptr 1 0), (3, .i s1)]) (fun s1 => [(1, .cells [.s a0.Name, .s a0.Value])]) (.exit 0) (fun b2 => [(1, .ptr 1 0)]) (fun b2 => [(1, .cells [.s a0.Name, .s a0.Value])]) .ret (fun b3 => [(2, .i b3)]) (fun b3 => []) rfl rfl (fun s1 x5 hr => ?_) (fun b2 hr => ?_) (fun b3 hr => ?_)
 ·
  unfold R_FieldCode_l1 at hr
  refine rn tk 10 rfl ?_
  refine ac 12 hr rfl (fun c6 hr => ?_) (fun c6 hr => ?_)
  ·
   refine rn tk 4 rfl ?_
   refine jb hr (fun j7 => [(1, .ptr 1 0), (3, .i s1), (28, .bo j7)]) (fun j7 => [(1, .cells [.s a0.Name, .s a0.Value])]) (fun j7 hr => ?_) (fun j7 hr => ?_)
   ·
    refine rn tk 4 rfl ?_
    obtain ⟨v8, h9, hr⟩ := bind_some hr
    refine ws tk h9 rfl rfl rfl rfl ?_
    refine wu tk rfl rfl rfl ?_
    obtain ⟨v10, h11, hr⟩ := bind_some hr
    refine cl (R_In_run _ _ _ _ h11) rfl rfl ?_
    refine rn tk 2 rfl ?_
    refine bs 22 hr rfl (fun c12 hr => ?_) (fun c12 hr => ?_)
    ·
     refine rn tk 7 rfl ?_
     cases hr
     exact jn _ rfl rfl rfl
    ·
     refine rn tk 3 rfl ?_
     obtain ⟨v13, h14, hr⟩ := bind_some hr
     refine ug rfl rfl rfl ?_
     refine ws tk h14 rfl rfl rfl rfl ?_
     refine rn tk 3 rfl ?_
     cases hr
     exact jn _ rfl rfl rfl
   ·
    refine ac 28 hr rfl (fun c15 hr => ?_) (fun c15 hr => ?_)
    ·
     refine rn tk 8 rfl ?_
     cases hr
     exact ato rfl rfl rfl rfl
    ·
     refine rn tk 8 rfl ?_
     cases hr
     exact atc rfl rfl
  ·
   refine rn tk 2 rfl ?_
   cases hr
   exact ato rfl rfl rfl rfl
 ·
  refine rn tk 8 rfl ?_
  obtain ⟨v16, h17, hr⟩ := bind_some hr
  refine cl (R_In_run _ _ _ _ h17) rfl rfl ?_
  refine rn tk 3 rfl ?_
  refine ac 33 hr rfl (fun c18 hr => ?_) (fun c18 hr => ?_)
  ·
   refine rn tk 7 rfl ?_
   cases hr
   exact kr tk (.inr rfl) rfl rfl
  ·
   refine rn tk 11 rfl ?_
   refine ac 37 hr rfl (fun c19 hr => ?_) (fun c19 hr => ?_)
   ·
    refine rn tk 7 rfl ?_
    cases hr
    exact kr tk (.inr rfl) rfl rfl
   ·
    refine rn tk 17 rfl ?_
    refine al2 hr (fun s20 => [(1, .ptr 1 0), (4, .i ((a0.Value.length : Int))), (5, .i s20)]) (fun s20 => [(1, .cells [.s a0.Name, .s a0.Value])]) (.exit 2) (fun b21 => [(1, .ptr 1 0), (4, .i ((a0.Value.length : Int)))]) (fun b21 => [(1, .cells [.s a0.Name, .s a0.Value])]) .ret (fun b22 => [(2, .i b22)]) (fun b22 => []) rfl rfl (fun s20 x24 hr => ?_) (fun b21 hr => ?_) (fun b22 hr => ?_)
    ·
     unfold R_FieldCode_l2 at hr
     refine rn tk 8 rfl ?_
     refine ac 43 hr rfl (fun c25 hr => ?_) (fun c25 hr => ?_)
     ·
      refine rn tk 4 rfl ?_
      refine jb hr (fun j26 => [(1, .ptr 1 0), (4, .i ((a0.Value.length : Int))), (5, .i s20), (64, .bo j26)]) (fun j26 => [(1, .cells [.s a0.Name, .s a0.Value])]) (fun j26 hr => ?_) (fun j26 hr => ?_)
      ·
       refine rn tk 4 rfl ?_
       obtain ⟨v27, h28, hr⟩ := bind_some hr
       refine ws tk h28 rfl rfl rfl rfl ?_
       refine rn tk 2 rfl ?_
       refine bs 51 hr rfl (fun c29 hr => ?_) (fun c29 hr => ?_)
       ·
        refine rn tk 14 rfl ?_
        cases hr
        exact jn _ rfl rfl rfl
       ·
        refine rn tk 3 rfl ?_
        obtain ⟨v30, h31, hr⟩ := bind_some hr
        refine ug rfl rfl rfl ?_
        refine ws tk h31 rfl rfl rfl rfl ?_
        refine rn tk 3 rfl ?_
        refine bs 58 hr rfl (fun c32 hr => ?_) (fun c32 hr => ?_)
        ·
         refine rn tk 7 rfl ?_
         cases hr
         exact jn _ rfl rfl rfl
        ·
         refine rn tk 3 rfl ?_
         obtain ⟨v33, h34, hr⟩ := bind_some hr
         refine ug rfl rfl rfl ?_
         refine ws tk h34 rfl rfl rfl rfl ?_
         refine rn tk 3 rfl ?_
         cases hr
         exact jn _ rfl rfl rfl
      ·
       refine ac 64 hr rfl (fun c35 hr => ?_) (fun c35 hr => ?_)
       ·
        refine rn tk 8 rfl ?_
        cases hr
        exact ato rfl rfl rfl rfl
       ·
        refine rn tk 8 rfl ?_
        cases hr
        exact atc rfl rfl
     ·
      refine rn tk 2 rfl ?_
      cases hr
      exact ato rfl rfl rfl rfl
    ·
     refine rn tk 3 rfl ?_
     refine jb hr (fun j36 => [(1, .ptr 1 0), (80, .bo j36)]) (fun j36 => [(1, .cells [.s a0.Name, .s a0.Value])]) (fun j36 hr => ?_) (fun j36 hr => ?_)
     ·
      refine rn tk 4 rfl ?_
      refine bs 67 hr rfl (fun c37 hr => ?_) (fun c37 hr => ?_)
      ·
       refine rn tk 2 rfl ?_
       obtain ⟨v38, h39, hr⟩ := bind_some hr
       refine ug rfl rfl rfl ?_
       refine ws tk h39 rfl rfl rfl rfl ?_
       obtain ⟨v40, h41, hr⟩ := bind_some hr
       refine ug rfl rfl rfl ?_
       refine cl (R_blank_run _ _ h41) rfl rfl ?_
       refine rn tk 1 rfl ?_
       refine bs 72 hr rfl (fun c42 hr => ?_) (fun c42 hr => ?_)
       ·
        refine rn tk 9 rfl ?_
        cases hr
        exact jn _ rfl rfl rfl
       ·
        refine rn tk 4 rfl ?_
        obtain ⟨v43, h44, hr⟩ := bind_some hr
        refine ug rfl rfl rfl ?_
        refine ws tk h44 rfl rfl rfl rfl ?_
        obtain ⟨v45, h46, hr⟩ := bind_some hr
        refine ug rfl rfl rfl ?_
        refine cl (R_blank_run _ _ h46) rfl rfl ?_
        refine rn tk 3 rfl ?_
        cases hr
        exact jn _ rfl rfl rfl
      ·
       refine rn tk 14 rfl ?_
       cases hr
       exact jn _ rfl rfl rfl
     ·
      refine ac 80 hr rfl (fun c47 hr => ?_) (fun c47 hr => ?_)
      ·
       refine rn tk 7 rfl ?_
       cases hr
       exact kr tk (.inr rfl) rfl rfl
      ·
       refine rn tk 8 rfl ?_
       obtain ⟨v48, h49, hr⟩ := bind_some hr
       refine cl (R_FieldLines_run _ _ _ h49) rfl rfl ?_
       refine rn tk 10 rfl ?_
       refine al2 hr (fun s50 => [(6, .l cS v48), (7, .i s50)]) (fun s50 => []) (.exit 4) (fun b51 => []) (fun b51 => []) .ret (fun b52 => [(2, .i b52)]) (fun b52 => []) rfl rfl (fun s50 x54 hr => ?_) (fun b51 hr => ?_) (fun b52 hr => ?_)
       ·
        unfold R_FieldCode_l3 at hr
        refine rn tk 5 rfl ?_
        refine wn tk rfl rfl rfl ?_
        refine rn tk 3 rfl ?_
        refine ac 89 hr rfl (fun c55 hr => ?_) (fun c55 hr => ?_)
        ·
         refine rn tk 8 rfl ?_
         obtain ⟨v56, h57, hr⟩ := bind_some hr
         refine wi tk h57 rfl rfl rfl rfl rfl ?_
         refine rn tk 5 rfl ?_
         refine ac 97 hr rfl (fun c58 hr => ?_) (fun c58 hr => ?_)
         ·
          refine rn tk 8 rfl ?_
          cases hr
          exact ato rfl rfl rfl rfl
         ·
          refine rn tk 8 rfl ?_
          cases hr
          exact atc rfl rfl
        ·
         refine rn tk 2 rfl ?_
         cases hr
         exact ato rfl rfl rfl rfl
       ·
        refine rn tk 8 rfl ?_
        cases hr
        exact kr tk (.inr rfl) rfl rfl
       ·
        refine rn tk 2 rfl ?_
        cases hr
        exact kr tk (.inr rfl) rfl rfl
    ·
     refine rn tk 2 rfl ?_
     cases hr
     exact kr tk (.inr rfl) rfl rfl
 ·
  refine rn tk 2 rfl ?_
  cases hr
  exact kr tk (.inr rfl) rfl rfl
end Go.Proofs.YtpbanomkkkongaaGreatDoor

/- Part 2 of the proof of the law ForwardStepMatchesSpec: what it needs. -/
import Derived.Test.YtfhfjckjmacekaaGreatKForwardStepMatchesSpec1
import Derived.Laws.RangeAny
import Derived.Test.YtfhfjckjmacekaaGreatShelf
set_option linter.unusedVariables false
set_option linter.unusedSimpArgs false
/- Aliases: loops; the closed example; sizes. -/
namespace Go.Proofs.YtfhfjckjmacekaaGreat
open Go.RowKit
set_option linter.unusedVariables false
set_option maxHeartbeats 1000000

theorem Loops_loop {l : List TAlias} (ok : AliasOk l) (from_ : List Str) (hf : from_.length ≤ 1048576) (s6 : Int × List Str) (hs6 : s6.2.length ≤ 1048576) (v : TAlias) : ∀ (n k : Nat) (out : List Str), Inv l (univ l from_) k out → (univ l from_).length + 1 ≤ n + k →
    iter (alias_Loops_l4 s6 v (tabP l)) (out.drop k, seenOf out) = some (if ((bfs l n k out).drop k).contains v.Address then .inr (s6.2 ++ [v.Address]) else .inl ()) := by
  have hU := univ_len ok from_
  intro n
  induction n with
  | zero => intro k out h hn; have := h.len; have := h.le; omega
  | succ n ih =>
    intro k out h hn
    have hlen := h.len
    unfold bfs
    cases hs : out[k]? with
    | none =>
      have hk : out.length ≤ k := List.getElem?_eq_none_iff.1 hs
      have hd : out.drop k = [] := List.drop_eq_nil_of_le hk
      refine iter_out ?_
      unfold alias_Loops_l4
      rw [hd]; simp
    | some s =>
      have hk := lt_get hs
      have hd := drop_cons hs
      obtain ⟨m, hm1, hm2, hm3⟩ := bfs_spec l from_ n (k + 1) _ (h.step hs) (by omega)
      have hget := get_prefix ((addNew_prefix (tgt l s) out).trans hm3) hs
      have hstep := h.step hs
      simp only []
      rw [drop_cons hget, List.contains_cons]
      have hb : alias_Loops_l4 s6 v (tabP l) (out.drop k, seenOf out) = some (if s == v.Address then .out (.inr (s6.2 ++ [s])) else .cont ((addNew out (tgt l s)).drop (k + 1), seenOf (addNew out (tgt l s)))) := by
        unfold alias_Loops_l4
        rw [hd]
        have e0 : decide ((0 : Int) < (((s :: out.drop (k + 1)).length : Nat) : Int)) = true := by simp
        simp only [e0, cond_true, idx_lit, List.getElem?_cons_zero, Option.bind_some]
        rw [show ((1 : Int)) = ((1 : Nat) : Int) from rfl, cut_nl (by simp)]
        simp only [Option.bind_some, List.drop_succ_cons, List.drop_zero]
        rw [app_ok (by simp; omega)]
        have htl : (tgt l s).length ≤ 60 := by
          unfold tgt
          cases ht : tgtO l s with
          | none => simp
          | some t => exact (tgtO_ne ok ht).2
        have h5 : iter (alias_Loops_l5 (tabP l) s) (0, out.drop (k + 1), seenOf out) = some ((addNew out (tgt l s)).drop (k + 1), seenOf (addNew out (tgt l s))) := by
          have hxs : (mget (tabP l) s).getD [] = tgt l s := by rw [tab_eq ok s]; rfl
          refine findloop (tgt l s) (by omega) (fun p => ?_) (fun i x p hx hp => ?_) out (k + 1) (by omega) (by omega)
          · unfold alias_Loops_l5; rw [hxs, dec_len]; rfl
          · have hi := lt_get hx
            unfold alias_Loops_l5
            rw [hxs, dec_lt hx, idx_get hx]
            simp only [cond_true, Option.bind_some, sc i (by omega)]
            rw [find_step (tgt l s) p x hp i (by omega)]; rfl
        rw [h5]
        cases s == v.Address <;> rfl
      by_cases hsv : s = v.Address
      · subst hsv
        rw [iter_out (by rw [hb]; simp; rfl)]
        simp
      · have h1 : (s == v.Address) = false := by simpa using hsv
        have h2 : (v.Address == s) = false := by simpa using fun h => hsv h.symm
        rw [h1] at hb
        rw [iter_cont hb, ih (k + 1) _ hstep (by omega), h2, Bool.false_or]
def loopsP (l : List TAlias) : List Str := (l.filter fun a => (reached l a.To).contains a.Address).map (·.Address)
theorem loops_fold (l m : List TAlias) : ∀ o : List Str, m.foldl (fun o a => if (reached l a.To).contains a.Address then o ++ [a.Address] else o) o = o ++ (m.filter fun a => (reached l a.To).contains a.Address).map (·.Address) := by
  induction m with
  | nil => intro o; simp
  | cons a m ih => intro o; rw [List.foldl_cons, ih, List.filter_cons]; cases (reached l a.To).contains a.Address <;> simp
theorem alias_Loops_eq (l : List TAlias) (hl : smallA l) : alias_Loops l = some (if (aliasF l).Code != 0 then ([], aliasF l) else (loopsP l, ⟨0, 0⟩)) := by
  unfold alias_Loops
  rw [alias_Validate_eq l hl]
  simp only [Option.bind_some, basic_Failed, basic_None]
  by_cases hc : (aliasF l).Code = 0
  · obtain ⟨ok, _⟩ := aliasF_ok hc
    have h1 : ((aliasF l).Code != 0) = false := by simp [hc]
    rw [h1]
    simp only [cond_false, Bool.false_eq_true, if_false]
    have hn := ok.n
    have hloop : iter (alias_Loops_l1 l) (0, ([] : List Str)) = some (l.foldl (fun o a => if (reached l a.To).contains a.Address then o ++ [a.Address] else o) []) := by
      refine (iter_fold l (fun i o => (i, o)) (fun o (a : TAlias) => if (reached l a.To).contains a.Address then o ++ [a.Address] else o) (fun o => o) (fun i o => o.length ≤ i) (body := alias_Loops_l1 l) (fun o _ => ?_) (fun i a o ha ho => ⟨?_, ?_⟩) [] (by simp)).1
      · unfold alias_Loops_l1; rw [dec_len]; rfl
      · have hi := lt_get ha
        have hto := ok.addr a (List.mem_of_getElem? ha)
        have t2 : iter (alias_Loops_l2 l) (0, ([] : List (Str × List Str))) = some (tabP l) := by
          refine tabloop l (fun m => by unfold alias_Loops_l2; rw [dec_len]; rfl) (fun i a m ha => ?_)
          have hi := lt_get ha
          unfold alias_Loops_l2
          rw [dec_lt ha, idx_get ha]
          simp only [cond_true, Option.bind_some, sc i (by omega)]
        have t3 : iter (alias_Loops_l3 a) (0, ([] : List Str), ([] : List (Str × Bool))) = some (addNew [] a.To, seenOf (addNew [] a.To)) := by
          have := findloop (body := alias_Loops_l3 a) a.To (by omega) (fun p => by unfold alias_Loops_l3; rw [dec_len]; rfl) (fun i x p hx hp => ?_) [] 0 (by simp) (by simp)
          · simpa [seenOf] using this
          · have hi := lt_get hx
            unfold alias_Loops_l3
            rw [dec_lt hx, idx_get hx]
            simp only [cond_true, Option.bind_some, sc i (by omega)]
            rw [find_step a.To p x hp i (by omega)]; rfl
        have t4 := Loops_loop ok a.To (by omega) ((i : Int), o) (by simp; omega) a ((univ l a.To).length + 1) 0 (addNew [] a.To) (Inv.start l a.To) (by omega)
        rw [List.drop_zero] at t4
        unfold alias_Loops_l1
        rw [dec_lt ha, idx_get ha]
        simp only [cond_true, Option.bind_some, t2, t3, t4, sc i (by omega), List.drop_zero]
        show (Option.bind (Sum.elim _ _ (if (reached l a.To).contains a.Address then _ else _)) _) = _
        cases (reached l a.To).contains a.Address <;> rfl
      · split <;> (try simp) <;> omega
    rw [hloop, loops_fold]
    rfl
  · have h1 : ((aliasF l).Code != 0) = true := by simpa using hc
    rw [h1]; rfl

/-! ### the closed example -/
theorem L_expands_eq : L_expands = some true := by
  have hsm : smallA [⟨[97, 64, 120], [[98, 64, 120], [99, 64, 120]]⟩, ⟨[98, 64, 120], [[97, 64, 120], [100, 64, 120]]⟩] := ⟨by simp, by simp⟩
  unfold L_expands
  rw [alias_Expand_eq _ _ hsm (by simp), alias_Loops_eq _ hsm, alias_Expand_eq _ _ hsm (by simp)]
  have e1 : aliasF [⟨[97, 64, 120], [[98, 64, 120], [99, 64, 120]]⟩, ⟨[98, 64, 120], [[97, 64, 120], [100, 64, 120]]⟩] = ⟨0, 0⟩ := (aliasF_ok (by decide +kernel)).2
  have e2 : addrP [97, 64, 120] = true := by decide +kernel
  have e3 : addrP [97] = false := by decide +kernel
  have e4 : expP [⟨[97, 64, 120], [[98, 64, 120], [99, 64, 120]]⟩, ⟨[98, 64, 120], [[97, 64, 120], [100, 64, 120]]⟩] [97, 64, 120] = [[99, 64, 120], [100, 64, 120]] := by decide +kernel
  have e5 : loopsP [⟨[97, 64, 120], [[98, 64, 120], [99, 64, 120]]⟩, ⟨[98, 64, 120], [[97, 64, 120], [100, 64, 120]]⟩] = [[97, 64, 120], [98, 64, 120]] := by decide +kernel
  rw [e1, e2, e3]
  simp [R_At, allEq, e4, e5, R_Strings_eq]
theorem expP_len {l : List TAlias} (ok : AliasOk l) (s : Str) : (expP l s).length ≤ 2401 := by
  have h1 := List.length_filter_le (isTarget l) (reached l [s])
  have h2 := reached_len l [s]
  have h3 := univ_len ok [s]
  simp at h3
  unfold expP; omega
theorem fault_eq (f : TFault) : allEq [(f.Code == f.Code), (f.Index == f.Index)] = true := by simp [allEq]
end Go.Proofs.YtfhfjckjmacekaaGreat

/- Envelopes: the plain functions, and what the typed functions compute. -/
namespace Go.Proofs.YtfhfjckjmacekaaGreat
open Go.RowKit
set_option linter.unusedVariables false
set_option maxHeartbeats 1000000

def nameC (c : UInt8) : Bool := lettC c || c == 45 || c == 95 || c == 46
def nameP (s : Str) : Bool := decide (1 ≤ s.length) && decide (s.length ≤ 60) && s.all nameC
theorem elim_unit_bool (o : Option Unit) (a b : Bool) : Sum.elim (fun _ => some a) (fun _ => some b) (o.elim (Sum.inl ()) Sum.inr : Unit ⊕ Unit) = some (bif o.isSome then b else a) := by cases o <;> rfl
theorem firstI_isSome {α R : Type} (c : α → Bool) (r : R) (l : List α) (n : Nat) : (firstI (fun _ x => if c x then some r else none) n l).isSome = l.any c := by
  rw [firstI_any]; cases l.any c <;> rfl
theorem not_all {α : Type} (l : List α) (p : α → Bool) : l.any (fun x => !p x) = !l.all p := by simp [List.not_all_eq_any_not]
theorem R_NameOk_eq (s : Str) (hs : s.length ≤ 1048576) : R_NameOk s = some (nameP s) := by
  unfold R_NameOk
  rw [iter_first s (fun _ c => if !nameC c then some false else none) (.inl ()) .inr, firstI_any, not_all]
  · simp only [Option.bind_some, R_In_eq]
    unfold nameP
    have e1 : decide ((1 : Int) ≤ (s.length : Int)) = decide (1 ≤ s.length) := by rw [Bool.eq_iff_iff]; simp; omega
    have e2 : decide ((s.length : Int) ≤ 60) = decide (s.length ≤ 60) := by rw [Bool.eq_iff_iff]; simp; omega
    rw [← e1, ← e2]
    cases s.all nameC <;> simp
  · unfold R_NameOk_l1; rw [dec_len]; rfl
  · intro i c hc
    have hi := lt_get hc
    unfold R_NameOk_l1
    rw [dec_lt hc, idx_get hc]
    simp only [cond_true, Option.bind_some, R_letterOrDigit_eq, u8_ne c 45 (by decide), u8_ne c 95 (by decide), u8_ne c 46 (by decide), sc i (by omega)]
    unfold nameC bne
    cases lettC c <;> cases (c == 45) <;> cases (c == 95) <;> cases (c == 46) <;> rfl
theorem basic_Name_eq (s : Str) (hs : s.length ≤ 1048576) : basic_Name s = some (nameP s) := by
  have hloop : iter (basic_Name_l1 s) 0 = some ((firstI (fun _ c => if !nameC c then some () else none) 0 s).elim (.inl ()) .inr) := by
    refine iter_first s _ (Sum.inl ()) Sum.inr ?_ ?_
    · unfold basic_Name_l1; rw [dec_len]; rfl
    · intro i c hc
      have hi := lt_get hc
      unfold basic_Name_l1
      rw [dec_lt hc, idx_get hc]
      simp only [cond_true, Option.bind_some, basic_Letter_eq, u8_eq c 45 (by decide), u8_eq c 95 (by decide), u8_eq c 46 (by decide), sc i (by omega)]
      unfold nameC
      cases lettC c <;> cases (c == 45) <;> cases (c == 95) <;> cases (c == 46) <;> rfl
  unfold basic_Name nameP
  rw [hloop]
  simp only [Option.bind_some, elim_unit_bool, firstI_isSome, not_all]
  by_cases hn : s = []
  · subst hn; rfl
  · have h1 : (s != ([] : Str)) = true := by simpa using hn
    have h2 : decide (1 ≤ s.length) = true := by have := List.length_pos_iff.2 hn; simp; omega
    have e2 : decide ((s.length : Int) ≤ 60) = decide (s.length ≤ 60) := by rw [Bool.eq_iff_iff]; simp; omega
    rw [h1, h2, e2]
    cases decide (s.length ≤ 60) <;> cases s.all nameC <;> rfl

/-! ### recipients, envelopes -/
def noteP (n : Int) : Bool := decide (0 ≤ n) && decide (n ≤ 7)
def recQ (l : List TRecipient) (i : Nat) (r : TRecipient) : Option TFault :=
  if !addrP r.Address then some ⟨10, i⟩ else if !noteP r.Notify then some ⟨3, i⟩ else if (l.take i).any (fun x => x.Address == r.Address) then some ⟨7, i⟩ else none
def recF (l : List TRecipient) : TFault := (firstI (recQ l) 0 l).getD ⟨0, 0⟩
def fromB (s : Str) : Bool := s != ([] : Str) && !addrP s
def envF (e : TEnvelope) : TFault := if fromB e.From then ⟨10, -10⟩ else if decide (e.To.length < 1) || decide (60 < e.To.length) then ⟨2, -11⟩ else if e.Id != ([] : Str) && !nameP e.Id then ⟨10, -12⟩ else recF e.To
def smallR (l : List TRecipient) : Prop := l.length ≤ 1048576 ∧ ∀ a ∈ l, a.Address.length ≤ 1048576
def smallE (e : TEnvelope) : Prop := e.From.length ≤ 1048576 ∧ e.Id.length ≤ 1048576 ∧ smallR e.To
theorem R_Known_eq (l : List TRecipient) (s : Str) (hl : l.length ≤ 1048576) : R_Known l s = some ((firstI (fun i x => if x.Address == s then some ((i : Nat) : Int) else none) 0 l).getD (-1)) := by
  unfold R_Known
  rw [iter_first l (fun i x => if x.Address == s then some ((i : Nat) : Int) else none) (.inl ()) .inr]
  · simp only [Option.bind_some, elim_idx]
  · unfold R_Known_l1; rw [dec_len]; rfl
  · intro i x hx
    have hi := lt_get hx
    unfold R_Known_l1
    rw [dec_lt hx, idx_get hx]
    simp only [cond_true, Option.bind_some, sc i (by omega)]
    cases x.Address == s <;> rfl
theorem R_At_eq (a b : Int) : R_At a b = some ⟨a, b⟩ := rfl
theorem basic_Fault_eq (a b : Int) : basic_Fault a b = some ⟨a, b⟩ := rfl
theorem basic_None_eq : basic_None = some ⟨0, 0⟩ := rfl
theorem basic_Failed_eq (f : TFault) : basic_Failed f = some (f.Code != 0) := rfl
theorem envelope_Notify_eq (n : Int) : envelope_Notify n = some (noteP n) := by unfold envelope_Notify noteP; cases decide (0 ≤ n) <;> rfl
theorem elim_fault (o : Option TFault) (f : TFault) : Sum.elim (fun _ => some f) (fun b => some b) (o.elim (Sum.inl ()) Sum.inr : Unit ⊕ TFault) = some (o.getD f) := by cases o <;> rfl
theorem any_take (l : List TRecipient) (i : Nat) (s : Str) (hl : l.length ≤ 1048576) : decide ((0 : Int) ≤ (firstI (fun i x => if x.Address == s then some ((i : Nat) : Int) else none) 0 (l.take i)).getD (-1)) = (l.take i).any (fun x => x.Address == s) := first_idx (fun x => x.Address == s) (l.take i) 0
theorem R_EnvelopeFault_eq (e : TEnvelope) (h : smallE e) : R_EnvelopeFault e = some (envF e) := by
  obtain ⟨h1, h2, h3, h4⟩ := h
  unfold R_EnvelopeFault envF
  rw [R_AddressOk_eq _ (by omega), R_NameOk_eq _ h2]
  have hloop : iter (R_EnvelopeFault_l1 e) 0 = some ((firstI (recQ e.To) 0 e.To).elim (.inl ()) .inr) := by
    refine iter_first e.To _ (Sum.inl ()) Sum.inr ?_ ?_
    · unfold R_EnvelopeFault_l1; rw [dec_len]; rfl
    · intro i r hr
      have hi := lt_get hr
      have ha := h4 r (List.mem_of_getElem? hr)
      unfold R_EnvelopeFault_l1 recQ
      rw [dec_lt hr, idx_get hr]
      simp only [cond_true, Option.bind_some, R_AddressOk_eq _ (show r.Address.length ≤ 9223372036854775806 by omega), R_At_eq, R_In_eq, cut_0n (Nat.le_of_lt hi), R_Known_eq _ _ (show (e.To.take i).length ≤ 1048576 by simp; omega), any_take _ _ _ h3, sc i (by omega)]
      unfold noteP
      cases addrP r.Address <;> cases (decide (0 ≤ r.Notify) && decide (r.Notify ≤ 7)) <;> cases (e.To.take i).any (fun x => x.Address == r.Address) <;> rfl
  rw [hloop]
  simp only [Option.bind_some, elim_fault, R_In_eq, R_At_eq]
  have e1 : (!(decide ((1 : Int) ≤ (e.To.length : Int)) && decide ((e.To.length : Int) ≤ 60))) = (decide (e.To.length < 1) || decide (60 < e.To.length)) := by generalize e.To.length = n; rw [Bool.eq_iff_iff]; simp; omega
  rw [e1]
  unfold fromB recF
  cases e.From != ([] : Str) <;> cases addrP e.From <;> cases (decide (e.To.length < 1) || decide (60 < e.To.length)) <;> cases e.Id != ([] : Str) <;> cases nameP e.Id <;> rfl
theorem envelope_Recipients_eq (l : List TRecipient) (h : smallR l) : envelope_Recipients l = some (recF l) := by
  obtain ⟨h3, h4⟩ := h
  unfold envelope_Recipients recF
  rw [iter_first l (recQ l) (.inl ()) .inr]
  · simp only [Option.bind_some, basic_None_eq, elim_fault]
  · unfold envelope_Recipients_l1; rw [dec_len]; rfl
  · intro i r hr
    have hi := lt_get hr
    have ha := h4 r (List.mem_of_getElem? hr)
    have hl2 : iter (envelope_Recipients_l2 r (l.take i)) 0 = some ((firstI (fun i x => if x.Address == r.Address then some ((i : Nat) : Int) else none) 0 (l.take i)).elim (.inl ()) .inr) := by
      refine iter_first (l.take i) _ (Sum.inl ()) Sum.inr ?_ ?_
      · unfold envelope_Recipients_l2; rw [dec_len]; rfl
      · intro k x hx
        have hk := lt_get hx
        simp at hk
        unfold envelope_Recipients_l2
        rw [dec_lt hx, idx_get hx]
        simp only [cond_true, Option.bind_some, sc k (by omega)]
        cases x.Address == r.Address <;> rfl
    unfold envelope_Recipients_l1 recQ
    rw [dec_lt hr, idx_get hr]
    simp only [cond_true, Option.bind_some, envelope_Address_eq _ (show r.Address.length < 4294967281 by omega), basic_Fault_eq, envelope_Notify_eq, cut_0n (Nat.le_of_lt hi), hl2, elim_idx, any_take _ _ _ h3, sc i (by omega)]
    cases addrP r.Address <;> cases noteP r.Notify <;> cases (l.take i).any (fun x => x.Address == r.Address) <;> rfl
theorem envelope_Validate_eq (e : TEnvelope) (h : smallE e) : envelope_Validate e = some (envF e) := by
  obtain ⟨h1, h2, h3⟩ := h
  unfold envelope_Validate envF
  rw [envelope_Address_eq _ (by omega), basic_Name_eq _ h2, envelope_Recipients_eq _ h3]
  have e1 : decide ((e.To.length : Int) < 1) = decide (e.To.length < 1) := by generalize e.To.length = n; rw [Bool.eq_iff_iff]; simp; omega
  have e2 : decide ((60 : Int) < (e.To.length : Int)) = decide (60 < e.To.length) := by rw [Bool.eq_iff_iff]; simp; omega
  simp only [Option.bind_some, basic_Fault_eq, e1, e2]
  unfold fromB
  cases e.From != ([] : Str) <;> cases addrP e.From <;> cases decide (e.To.length < 1) <;> cases decide (60 < e.To.length) <;> cases e.Id != ([] : Str) <;> cases nameP e.Id <;> rfl
theorem smallE_of {e : TEnvelope} (h : TEnvelope.bk e ≤ 1048576) : smallE e := by
  unfold TEnvelope.bk at h
  dsimp only at h
  refine ⟨by omega, by omega, ?_, fun a ha => ?_⟩
  · have := bkL_len (bk := TRecipient.bk) (fun x => by unfold TRecipient.bk; omega) e.To; omega
  · have h5 := bkL_mem (bk := TRecipient.bk) ha; have h6 : TRecipient.bk a = a.Address.length + 1 + 1 + 1 := rfl; omega
theorem smallR_of {l : List TRecipient} (h : bkL TRecipient.bk l ≤ 1048576) : smallR l := by
  refine ⟨?_, fun a ha => ?_⟩
  · have := bkL_len (bk := TRecipient.bk) (fun x => by unfold TRecipient.bk; omega) l; omega
  · have h5 := bkL_mem (bk := TRecipient.bk) ha; have h6 : TRecipient.bk a = a.Address.length + 1 + 1 + 1 := rfl; omega
end Go.Proofs.YtfhfjckjmacekaaGreat

/- strings.IndexAny on a short text: plain. -/
namespace Go.Proofs.YtfhfjckjmacekaaGreat
open Go.RowKit
set_option linter.unusedVariables false
theorem strB_get (s : Str) (i : Nat) (h : i < s.length) : (strB s)[i]'(by rw [strB_size]; exact h) = s[i] := rfl
theorem strB_get! (s : Str) (i : Nat) (h : i < s.length) : (strB s).get! i = s[i] := by
  have := get_at (strB s) i (by rw [strB_size]; exact h)
  rw [Nat.add_zero] at this
  rw [this]; rfl
theorem rune_ascii {s : Str} {i : Nat} {c : UInt8} (h : s[i]? = some c) (hc : c.toNat < 128) : runeAt s i = (c.toNat : Int) ∧ wideAt s i = 1 := by
  have hi := lt_get h
  have e : s[i] = c := by rw [List.getElem?_eq_getElem hi] at h; exact Option.some.inj h
  have hd := decode_ascii (strB s) i (by rw [strB_size]; exact hi) (by rw [strB_get s i hi, e]; exact hc)
  unfold runeAt wideAt
  rw [hd, strB_get s i hi, e]
  exact ⟨rfl, rfl⟩
theorem rune_high {s : Str} {i : Nat} {c : UInt8} (h : s[i]? = some c) (hc : 128 ≤ c.toNat) : 128 ≤ runeAt s i ∧ runeAt s i ≤ 2147483647 ∧ 1 ≤ wideAt s i := by
  have hi := lt_get h
  have e : s[i] = c := by rw [List.getElem?_eq_getElem hi] at h; exact Option.some.inj h
  have hd := decode_high (strB s) i (by rw [strB_size]; exact hi) (by rw [strB_get s i hi, e]; exact hc)
  have hl := decode_le (strB s) i
  unfold runeAt wideAt
  exact ⟨by omega, by omega, hd.2⟩
theorem decode_cont (s : ByteArray) (pos : Nat) : ∀ k, 1 ≤ k → k < (Utf8.decode s pos).2 → (s.get! (pos + k)).toNat / 64 = 2 := by
  intro k h1 h2
  simp only [Utf8.decode] at h2
  repeat' split at h2
  all_goals first
    | (exfalso; simp at h2; omega)
    | (rename_i hq _
       simp only [Bool.and_eq_true, decide_eq_true_eq, beq_iff_eq] at hq
       have h2 : k < 2 := h2
       obtain rfl : k = 1 := by omega
       exact hq.2.2)
    | (rename_i hq _
       simp only [Bool.and_eq_true, decide_eq_true_eq, beq_iff_eq] at hq
       have h2 : k < 3 := h2
       have : k = 1 ∨ k = 2 := by omega
       rcases this with rfl | rfl
       · exact hq.1.2.2
       · exact hq.2.2)
    | (rename_i hq _
       simp only [Bool.and_eq_true, decide_eq_true_eq, beq_iff_eq] at hq
       have h2 : k < 4 := h2
       have : k = 1 ∨ k = 2 ∨ k = 3 := by omega
       rcases this with rfl | rfl | rfl
       · exact hq.1.1.2.2
       · exact hq.1.2.2
       · exact hq.2.2)
theorem rune_cont {s : Str} {i j : Nat} {c d : UInt8} (h : s[i]? = some c) (hc : 128 ≤ c.toNat) (h1 : i ≤ j) (h2 : j < i + wideAt s i) (hj : s[j]? = some d) : 128 ≤ d.toNat := by
  by_cases e : j = i
  · subst e; rw [h] at hj; cases hj; exact hc
  · have hjl := lt_get hj
    have e2 : s[j] = d := by rw [List.getElem?_eq_getElem hjl] at hj; exact Option.some.inj hj
    have := decode_cont (strB s) i (j - i) (by omega) (by unfold wideAt at h2; omega)
    rw [show i + (j - i) = j by omega, strB_get! s j hjl, e2] at this
    omega
theorem toU8_nat (c : UInt8) : toU8 (c.toNat : Int) = c := by
  unfold toU8
  have := c.toNat_lt
  rw [show ((c.toNat : Int) % 256).toNat = c.toNat by omega]
  simp
theorem asciiL_mem {t : Str} (h : asciiL t = true) {c : UInt8} (hc : c ∈ t) : c.toNat < 128 := by
  unfold asciiL at h
  rw [List.all_eq_true] at h
  simpa using h c hc
/-- a rune beyond ASCII ends with a byte beyond ASCII, and is of two bytes at least -/
theorem runeS_last {r : Int} (h : 128 ≤ r) : ∃ m x, 1 ≤ m ∧ m ≤ 3 ∧ (runeS r).length = m + 1 ∧ (runeS r)[m]? = some x ∧ 128 ≤ x.toNat := by
  unfold runeS
  simp only [Utf8.encode]
  have hc : 128 ≤ (if Utf8.valid r = true then r.toNat else Utf8.runeError) := by
    split
    · omega
    · decide
  generalize (if Utf8.valid r = true then r.toNat else Utf8.runeError) = c at hc
  have hb : ∀ n : Nat, 128 ≤ (UInt8.ofNat (128 + n % 64)).toNat := by
    intro n
    rw [UInt8.toNat_ofNat']
    have : (128 + n % 64) % 2 ^ 8 = 128 + n % 64 := Nat.mod_eq_of_lt (by omega)
    rw [this]; omega
  rw [if_neg (by omega)]
  split
  · exact ⟨1, _, by omega, by omega, rfl, rfl, hb c⟩
  · split
    · exact ⟨2, _, by omega, by omega, rfl, rfl, hb c⟩
    · exact ⟨3, _, by omega, by omega, rfl, rfl, hb c⟩
theorem indexByte_high {t : Str} (h : ∀ c ∈ t, c.toNat < 128) {x : UInt8} (hx : 128 ≤ x.toNat) : Lib.indexByte t x = -1 := by
  have hc := Lib.contains_iff_indexByte t x
  have hn : t.contains x = false := by
    rw [Bool.eq_false_iff]
    intro hm
    have := h x (by simpa using hm)
    omega
  rw [hn] at hc
  have hge := Lib.indexByte_ge t x
  have := of_decide_eq_false hc.symm
  omega
theorem IndexRune_ascii (t : Str) (c : UInt8) (hc : c.toNat < 128) : strings_IndexRune t (c.toNat : Int) = some (Lib.indexByte t c) := by
  unfold strings_IndexRune
  have h1 : decide ((0 : Int) ≤ (c.toNat : Int)) = true := by simp
  have h2 : decide ((c.toNat : Int) < 128) = true := by simp; omega
  rw [h1, h2]
  simp only [cond_true, Option.bind_some, toU8_nat]
  rfl
theorem IndexRune_high (t : Str) (r : Int) (hr : 128 ≤ r) (ht : ∀ c ∈ t, c.toNat < 128) (hl : t.length ≤ 4294967281) : strings_IndexRune t r = some (-1) := by
  unfold strings_IndexRune
  have h1 : decide ((0 : Int) ≤ r) = true := by simp; omega
  have h2 : decide (r < 128) = false := by simp; omega
  rw [h1, h2]
  simp only [cond_true, cond_false, Option.bind_some]
  cases hq : r == 65533 with
  | true =>
    simp only [cond_true]
    obtain ⟨o, ho, rfl⟩ := iter_rec (body := strings_IndexRune_l1 t) (fun i => i ≤ t.length) (fun i => t.length - i) (fun _ o => o = .inl ()) (fun i hi => by
      unfold strings_IndexRune_l1
      by_cases hlt : i < t.length
      · right
        have hg : t[i]? = some t[i] := List.getElem?_eq_getElem hlt
        have hc := ht t[i] (List.getElem_mem hlt)
        obtain ⟨e1, e2⟩ := rune_ascii hg hc
        rw [e1, e2, decide_eq_true hlt]
        have hne : ((t[i].toNat : Int) == 65533) = false := by rw [beq_eq_false_iff_ne]; omega
        rw [hne]
        exact ⟨i + 1, rfl, by omega, by omega, fun _ h => h⟩
      · left
        rw [decide_eq_false hlt]
        exact ⟨.inl (), rfl, rfl⟩) 0 (Nat.zero_le _)
    rw [ho]; rfl
  | false =>
    simp only [cond_false]
    have hv : ∃ b, unicode_utf8_ValidRune r = some b := by
      unfold unicode_utf8_ValidRune
      cases decide (0 ≤ r) <;> cases decide (r < 55296) <;> cases decide (57343 < r) <;> cases decide (r ≤ 1114111) <;> exact ⟨_, rfl⟩
    obtain ⟨b, hb⟩ := hv
    rw [hb]
    simp only [Option.bind_some]
    cases b with
    | false => rfl
    | true =>
      simp only [Bool.not_true, cond_false]
      obtain ⟨m, x, hm1, hm3, hlen, hx, hx128⟩ := runeS_last hr
      have hst : w64 (((runeS r).length : Int) - 1) = (m : Int) := by rw [hlen, w64_id (by omega) (by omega)]; omega
      rw [hst]
      have hbody : ∃ o, strings_IndexRune_l2 t r (m : Int) = some (.out o) ∧ (o = .inl () ∨ o = .inr (-1)) := by
        unfold strings_IndexRune_l2
        by_cases hlt : m < t.length
        · have hd : decide ((m : Int) < (t.length : Int)) = true := by simp; omega
          have hc := ht t[m] (List.getElem_mem hlt)
          rw [hd, hst, idx_lt hlt, idx_get hx]
          have hne : ((t[m].toNat : Int) != (x.toNat : Int)) = true := by simp; omega
          simp only [cond_true, Option.bind_some, hne]
          rw [show (m : Int) + 1 = ((m + 1 : Nat) : Int) by omega, w64_n _ (by omega), cut_nl (by omega)]
          simp only [Option.bind_some]
          have hib : strings_IndexByte (t.drop (m + 1)) x = some (-1) := by
            show some (Lib.indexByte (t.drop (m + 1)) x) = _
            rw [indexByte_high (fun c hc => ht c (List.mem_of_mem_drop hc)) hx128]
          rw [hib]
          exact ⟨.inr (-1), rfl, .inr rfl⟩
        · have hd : decide ((m : Int) < (t.length : Int)) = false := by simp; omega
          rw [hd]
          exact ⟨.inl (), rfl, .inl rfl⟩
      obtain ⟨o, ho, ho2⟩ := hbody
      rw [iter_out ho]
      rcases ho2 with rfl | rfl <;> rfl
theorem IndexAnyP_eq (s t : Str) (h8 : s.length ≤ 8) (h2 : 2 ≤ t.length) (hl : t.length < 4294967281) (ht : asciiL t = true) : strings_IndexAnyP s t = some (Lib.indexAny s t) := by
  have htc : ∀ c ∈ t, c.toNat < 128 := fun c hc => asciiL_mem ht hc
  unfold strings_IndexAnyP
  have e1 : (t == ([] : Str)) = false := by rw [beq_eq_false_iff_ne]; rintro rfl; simp at h2
  have e2 : ((t.length : Int) == 1) = false := by rw [beq_eq_false_iff_ne]; omega
  have e3 : strings_shouldUseASCIISet (s.length : Int) = some false := by unfold strings_shouldUseASCIISet; simp; omega
  rw [e1, e2, e3]
  simp only [cond_false, Option.bind_some]
  obtain ⟨o, ho, ho2⟩ := iter_rec (body := strings_IndexAnyP_l1 s t) (fun i => Lib.NoAny s t i) (fun i => s.length - i) (fun _ o => Sum.elim (fun _ => some (-1)) (fun b => some b) o = some (Lib.indexAny s t)) (fun i hi => by
    unfold strings_IndexAnyP_l1
    by_cases hlt : i < s.length
    · have hg : s[i]? = some s[i] := List.getElem?_eq_getElem hlt
      rw [decide_eq_true hlt]
      simp only [cond_true]
      by_cases hc : s[i].toNat < 128
      · obtain ⟨q1, q2⟩ := rune_ascii hg hc
        rw [q1, q2, IndexRune_ascii t _ hc]
        simp only [Option.bind_some]
        have hcon := Lib.contains_iff_indexByte t s[i]
        rw [← hcon]
        cases hin : t.contains s[i] with
        | true =>
          left
          exact ⟨.inr (i : Int), rfl, by rw [Lib.indexAny_hit hi hg hin]; rfl⟩
        | false =>
          right
          exact ⟨i + 1, rfl, hi.succ hg hin, by omega, fun _ h => h⟩
      · have hc : 128 ≤ s[i].toNat := by omega
        obtain ⟨q1, q2, q3⟩ := rune_high hg hc
        rw [IndexRune_high t _ q1 htc (by omega)]
        right
        refine ⟨i + wideAt s i, rfl, fun j b hj hb => ?_, by omega, fun _ h => h⟩
        by_cases hji : j < i
        · exact hi j b hji hb
        · have := rune_cont hg hc (by omega) hj hb
          rw [Bool.eq_false_iff]
          intro hm
          have := htc b (by simpa using hm)
          omega
    · left
      rw [decide_eq_false hlt]
      refine ⟨.inl (), rfl, ?_⟩
      have hn : Lib.NoAny s t s.length := fun j b hj hb => hi j b (by omega) hb
      rw [Lib.indexAny_none hn]; rfl) 0 (Lib.NoAny.zero s t)
  rw [ho]; exact ho2
end Go.Proofs.YtfhfjckjmacekaaGreat

/- Header fields in lines: the plain functions, and what the typed functions compute. -/
namespace Go.Proofs.YtfhfjckjmacekaaGreat
open Go.RowKit
set_option linter.unusedVariables false
set_option maxHeartbeats 1000000

def blankC (c : UInt8) : Bool := c == 32 || c == 9
theorem R_blank_eq (c : UInt8) : R_blank c = some (blankC c) := by
  unfold R_blank blankC
  rw [u8_eq c 32 (by decide), u8_eq c 9 (by decide)]
  cases c == 32 <;> rfl
theorem basic_Blank_eq (c : UInt8) : basic_Blank c = some (blankC c) := by
  unfold basic_Blank blankC
  rw [u8_eq c 32 (by decide), u8_eq c 9 (by decide)]
  cases c == 32 <;> rfl
def fnC (c : UInt8) : Bool := decide (33 ≤ c) && decide (c ≤ 126) && c != 58
def fnP (s : Str) : Bool := s != ([] : Str) && decide (s.length ≤ 60) && s.all fnC
theorem dec60 (s : Str) : decide ((s.length : Int) ≤ 60) = decide (s.length ≤ 60) := by generalize s.length = n; rw [Bool.eq_iff_iff]; simp; omega
theorem fold_name_eq (s : Str) (hs : s.length ≤ 1048576) : fold_name s = some (fnP s) := by
  have hloop : iter (fold_name_l1 s) 0 = some ((firstI (fun _ c => if !fnC c then some () else none) 0 s).elim (.inl ()) .inr) := by
    refine iter_first s _ (Sum.inl ()) Sum.inr ?_ ?_
    · unfold fold_name_l1; rw [dec_len]; rfl
    · intro i c hc
      have hi := lt_get hc
      unfold fold_name_l1
      rw [dec_lt hc, idx_get hc]
      simp only [cond_true, Option.bind_some, u8_ne c 58 (by decide), u8_le1 33 c (by decide), u8_le2 126 c (by decide), sc i (by omega)]
      unfold fnC
      cases decide ((33 : UInt8) ≤ c) <;> cases decide (c ≤ 126) <;> cases c != 58 <;> rfl
  unfold fold_name fnP
  rw [hloop]
  simp only [Option.bind_some, elim_unit_bool, firstI_isSome, not_all, dec60]
  cases s != ([] : Str) <;> cases decide (s.length ≤ 60) <;> cases s.all fnC <;> rfl
def endC (c : UInt8) : Bool := c == 13 || c == 10 || c == 0
theorem indexAny_any (t : Str) : ∀ s : Str, decide (0 ≤ Lib.indexAny s t) = s.any fun c => t.contains c := by
  intro s
  induction s with
  | nil => rfl
  | cons c s ih =>
    have hge := Lib.indexAny_ge t s
    rw [List.any_cons, ← ih, Lib.indexAny]
    cases t.contains c with
    | true => simp
    | false =>
      simp only [Bool.false_eq_true, if_false, Bool.false_or]
      by_cases h : Lib.indexAny s t = -1
      · simp [h]
      · have : (Lib.indexAny s t == -1) = false := by simpa using h
        rw [this]
        simp only [Bool.false_eq_true, if_false]
        rw [Bool.eq_iff_iff]; simp; omega
theorem strings_ContainsAny_eq (s t : Str) (hs : s.length ≤ 1048576) (h2 : 2 ≤ t.length) (hl : t.length ≤ 1048576) (ht : asciiL t = true) : strings_ContainsAny s t = some (s.any fun c => t.contains c) := by
  unfold strings_ContainsAny strings_IndexAny
  rw [if_pos ⟨by omega, by omega, h2, ht⟩]
  simp only [Option.bind_some, indexAny_any]
theorem fold_ends_eq (s : Str) (hs : s.length ≤ 1048576) : fold_ends s = some (s.any endC) := by
  unfold fold_ends
  rw [strings_ContainsAny_eq s _ hs (by decide) (by decide) (by decide)]
  simp only [Option.bind_some, Option.some.injEq]
  congr 1
  funext c
  rw [Bool.eq_iff_iff]
  simp [endC, or_assoc]
def edgeP (s : Str) : Bool := match s.head?, s.getLast? with | some a, some b => blankC a || blankC b | _, _ => false
def valP (s : Str) : Bool := !(s.any endC) && !(edgeP s)
theorem idx_last (s : Str) (h : s ≠ []) (hs : s.length ≤ 1048576) : ∃ a b, idx s 0 = some a ∧ idx s (w64 ((s.length : Int) - 1)) = some b ∧ s.head? = some a ∧ s.getLast? = some b := by
  have hpos := List.length_pos_iff.2 h
  obtain ⟨a, r, rfl⟩ := List.exists_cons_of_ne_nil h
  have e : w64 (((a :: r).length : Int) - 1) = ((r.length : Nat) : Int) := by
    have hl : (a :: r).length = r.length + 1 := rfl
    rw [w64_id (by omega) (by omega)]; omega
  refine ⟨a, (a :: r).getLast h, rfl, ?_, rfl, List.getLast?_eq_some_getLast h⟩
  rw [e, idx_nat, List.getLast_eq_getElem h, List.getElem?_eq_getElem (by simp)]
  congr 2
theorem fold_value_eq (s : Str) (hs : s.length ≤ 1048576) : fold_value s = some (valP s) := by
  unfold fold_value valP
  rw [fold_ends_eq s hs]
  simp only [Option.bind_some]
  by_cases hn : s = []
  · subst hn; rfl
  · obtain ⟨a, b, h1, h2, h3, h4⟩ := idx_last s hn hs
    have e : (s == ([] : Str)) = false := by simpa using hn
    unfold edgeP
    rw [h1, h2, h3, h4, e]
    simp only [Option.bind_some, basic_Blank_eq, cond_false]
    cases s.any endC <;> cases blankC a <;> cases blankC b <;> rfl

/-! ### where a line is cut -/
/-- may a line be cut here? -/
def br (t : Str) (f i : Nat) : Bool := decide (1 ≤ i) && decide (f ≤ i) && (match t[i]?, t[i - 1]? with | some a, some b => blankC a && !blankC b | _, _ => false)
def cutDn (t : Str) (f : Nat) : Nat → Nat
  | 0 => 0
  | i + 1 => if br t f (i + 1) then i + 1 else cutDn t f i
def cutUp (t : Str) (f : Nat) : Nat → Nat → Nat
  | 0, _ => 0
  | n + 1, i => if br t f i then i else cutUp t f n (i + 1)
def cutP (t : Str) (f : Nat) : Nat := if cutDn t f 78 = 0 then cutUp t f (t.length - 79) 79 else cutDn t f 78
/-- what the cut is -/
def CutIs (t : Str) (f c : Nat) : Prop := (c = 0 ∧ ∀ j, br t f j = false) ∨ (br t f c = true ∧ ((c ≤ 78 ∧ ∀ j, c < j → j ≤ 78 → br t f j = false) ∨ (78 < c ∧ ∀ j, j < c → br t f j = false)))
theorem br_zero (t : Str) (f : Nat) : br t f 0 = false := rfl
theorem br_lt {t : Str} {f i : Nat} (h : br t f i = true) : i < t.length ∧ 1 ≤ i ∧ f ≤ i := by
  unfold br at h
  simp only [Bool.and_eq_true, decide_eq_true_eq] at h
  obtain ⟨⟨h1, h2⟩, h3⟩ := h
  refine ⟨?_, h1, h2⟩
  cases hi : t[i]? with
  | none => rw [hi] at h3; simp at h3
  | some a => exact lt_get hi
theorem cutIs_unique {t : Str} {f c d : Nat} (h : CutIs t f c) (k : CutIs t f d) : c = d := by
  rcases h with ⟨rfl, h⟩ | ⟨hc, h⟩ <;> rcases k with ⟨rfl, k⟩ | ⟨hd, k⟩
  · rfl
  · rw [h] at hd; cases hd
  · rw [k] at hc; cases hc
  · rcases Nat.lt_trichotomy c d with hlt | heq | hgt
    · exfalso
      rcases h with ⟨h1, h2⟩ | ⟨h1, h2⟩ <;> rcases k with ⟨k1, k2⟩ | ⟨k1, k2⟩
      · rw [h2 d hlt k1] at hd; cases hd
      · rw [k2 c hlt] at hc; cases hc
      · omega
      · rw [k2 c hlt] at hc; cases hc
    · exact heq
    · exfalso
      rcases h with ⟨h1, h2⟩ | ⟨h1, h2⟩ <;> rcases k with ⟨k1, k2⟩ | ⟨k1, k2⟩
      · rw [k2 c hgt h1] at hc; cases hc
      · omega
      · rw [h2 d hgt] at hd; cases hd
      · rw [h2 d hgt] at hd; cases hd
theorem cutDn_spec (t : Str) (f : Nat) : ∀ n, (cutDn t f n = 0 ∧ ∀ j, j ≤ n → br t f j = false) ∨ (br t f (cutDn t f n) = true ∧ cutDn t f n ≤ n ∧ ∀ j, cutDn t f n < j → j ≤ n → br t f j = false) := by
  intro n
  induction n with
  | zero => left; exact ⟨rfl, fun j hj => by obtain rfl : j = 0 := by omega
                                             exact br_zero t f⟩
  | succ n ih =>
    unfold cutDn
    by_cases h : br t f (n + 1) = true
    · rw [if_pos h]; right; exact ⟨h, Nat.le_refl _, fun j h1 h2 => by omega⟩
    · rw [if_neg h]
      rcases ih with ⟨h1, h2⟩ | ⟨h1, h2, h3⟩
      · left
        refine ⟨h1, fun j hj => ?_⟩
        by_cases e : j = n + 1
        · subst e; simpa using h
        · exact h2 j (by omega)
      · right
        refine ⟨h1, by omega, fun j hj hjn => ?_⟩
        by_cases e : j = n + 1
        · subst e; simpa using h
        · exact h3 j hj (by omega)
theorem cutUp_spec (t : Str) (f : Nat) : ∀ n i, (cutUp t f n i = 0 ∧ ∀ j, i ≤ j → j < i + n → br t f j = false) ∨ (br t f (cutUp t f n i) = true ∧ i ≤ cutUp t f n i ∧ ∀ j, i ≤ j → j < cutUp t f n i → br t f j = false) := by
  intro n
  induction n with
  | zero => intro i; left; exact ⟨rfl, fun j h1 h2 => by omega⟩
  | succ n ih =>
    intro i
    unfold cutUp
    by_cases h : br t f i = true
    · rw [if_pos h]; right; exact ⟨h, Nat.le_refl _, fun j h1 h2 => by omega⟩
    · rw [if_neg h]
      have hb : br t f i = false := by simpa using h
      rcases ih (i + 1) with ⟨h1, h2⟩ | ⟨h1, h2, h3⟩
      · left
        refine ⟨h1, fun j hj hjn => ?_⟩
        by_cases e : j = i
        · subst e; exact hb
        · exact h2 j (by omega) (by omega)
      · right
        refine ⟨h1, by omega, fun j hj hjn => ?_⟩
        by_cases e : j = i
        · subst e; exact hb
        · exact h3 j (by omega) hjn
theorem cutP_is (t : Str) (f : Nat) : CutIs t f (cutP t f) := by
  unfold cutP
  rcases cutDn_spec t f 78 with ⟨h1, h2⟩ | ⟨h1, h2, h3⟩
  · rw [if_pos h1]
    rcases cutUp_spec t f (t.length - 79) 79 with ⟨k1, k2⟩ | ⟨k1, k2, k3⟩
    · left
      refine ⟨k1, fun j => ?_⟩
      by_cases hj : j ≤ 78
      · exact h2 j hj
      · cases hb : br t f j with
        | false => rfl
        | true => have := (br_lt hb).1; rw [k2 j (by omega) (by omega)] at hb; cases hb
    · right
      refine ⟨k1, .inr ⟨by omega, fun j hj => ?_⟩⟩
      by_cases hj2 : j ≤ 78
      · exact h2 j hj2
      · exact k3 j (by omega) hj
  · have hne : cutDn t f 78 ≠ 0 := by intro h; rw [h, br_zero] at h1; cases h1
    rw [if_neg hne]
    exact .inr ⟨h1, .inl ⟨h2, h3⟩⟩
theorem cutP_pos {t : Str} {f : Nat} (h : cutP t f ≠ 0) : 1 ≤ cutP t f ∧ cutP t f < t.length := by
  rcases cutP_is t f with ⟨h1, _⟩ | ⟨h1, _⟩
  · exact absurd h1 h
  · exact ⟨(br_lt h1).2.1, (br_lt h1).1⟩
/-- the typed test at a place inside -/
theorem br_at {t : Str} {f i : Nat} (h1 : 1 ≤ i) (hi : i < t.length) : br t f i = (decide (f ≤ i) && (blankC t[i] && !blankC (t[i - 1]'(by omega)))) := by
  unfold br
  rw [List.getElem?_eq_getElem hi, List.getElem?_eq_getElem (show i - 1 < t.length by omega)]
  simp [h1]
def PInv (t : Str) (f b i : Nat) : Prop := f ≤ i ∧ 1 ≤ i ∧ ((b = 0 ∧ ∀ j, j < i → br t f j = false) ∨ (br t f b = true ∧ b < i ∧ ((b ≤ 78 ∧ ∀ j, b < j → j < i → br t f j = false) ∨ (78 < b ∧ ∀ j, j < b → br t f j = false))))
theorem PInv.done {t : Str} {f b i : Nat} (h : PInv t f b i) (hi : 0 < b ∧ 78 < i ∨ t.length ≤ i) : CutIs t f b := by
  obtain ⟨hf, h1, h2⟩ := h
  rcases h2 with ⟨rfl, h3⟩ | ⟨h3, h4, h5⟩
  · left
    refine ⟨rfl, fun j => ?_⟩
    cases hb : br t f j with
    | false => rfl
    | true =>
      have := (br_lt hb).1
      rw [h3 j (by omega)] at hb; cases hb
  · right
    refine ⟨h3, ?_⟩
    rcases h5 with ⟨h6, h7⟩ | h6
    · left
      refine ⟨h6, fun j hj hj2 => ?_⟩
      cases hb : br t f j with
      | false => rfl
      | true =>
        have := (br_lt hb).1
        rw [h7 j hj (by omega)] at hb; cases hb
    · exact .inr h6
theorem fold_point_eq (t : Str) (f : Nat) (ht : t.length ≤ 4194304) (hf : f ≤ 4194304) : fold_point t (f : Int) = some ((cutP t (max f 1) : Nat) : Int) := by
  unfold fold_point
  have hstart : max (f : Int) 1 = ((max f 1 : Nat) : Int) := by omega
  rw [hstart]
  obtain ⟨r, h1, b, rfl, h2⟩ := iter_rec (body := fold_point_l1 t) (fun s => ∃ b i : Nat, s = ((b : Int), (i : Int)) ∧ PInv t (max f 1) b i ∧ i ≤ 4194305) (fun s => (4194306 - s.2).toNat) (fun _ r => ∃ c : Nat, r = (c : Int) ∧ CutIs t (max f 1) c) (by
    rintro _ ⟨b, i, rfl, hI, hil⟩
    have hi1 := hI.2.1
    unfold fold_point_l1
    dsimp only
    by_cases hlt : i < t.length
    · have hd : decide ((i : Int) < (t.length : Int)) = true := by simp; omega
      have hpre : w64 ((i : Int) - 1) = ((i - 1 : Nat) : Int) := by rw [w64_id (by omega) (by omega)]; omega
      rw [hd, idx_lt hlt, hpre, idx_lt (show i - 1 < t.length by omega)]
      have hb := br_at (f := max f 1) hi1 hlt
      have hfi : decide (max f 1 ≤ i) = true := by simp only [decide_eq_true_eq]; exact hI.1
      rw [hfi, Bool.true_and] at hb
      simp only [cond_true, Option.bind_some, basic_Blank_eq]
      have next : ∀ b' : Nat, PInv t (max f 1) b' (i + 1) → fold_point_k2 ((b : Int), (i : Int)) (b' : Int) = some (.cont ((b' : Int), ((i + 1 : Nat) : Int))) := by
        intro b' _
        unfold fold_point_k2
        dsimp only
        rw [sc i (by omega)]
      have hno : br t (max f 1) i = false → PInv t (max f 1) b (i + 1) := by
        intro hnb
        refine ⟨by have := hI.1; omega, by omega, ?_⟩
        rcases hI.2.2 with ⟨q1, q2⟩ | ⟨q1, q2, q3⟩
        · left
          refine ⟨q1, fun j hj => ?_⟩
          by_cases e : j = i
          · subst e; exact hnb
          · exact q2 j (by omega)
        · right
          refine ⟨q1, by omega, ?_⟩
          rcases q3 with ⟨q4, q5⟩ | q4
          · left
            refine ⟨q4, fun j hj hj2 => ?_⟩
            by_cases e : j = i
            · subst e; exact hnb
            · exact q5 j hj (by omega)
          · exact .inr q4
      have goNo : br t (max f 1) i = false → (∃ s', fold_point_k2 ((b : Int), (i : Int)) (b : Int) = some (.cont s') ∧ (∃ b i : Nat, s' = ((b : Int), (i : Int)) ∧ PInv t (max f 1) b i ∧ i ≤ 4194305) ∧ (4194306 - s'.2).toNat < (4194306 - ((i : Int))).toNat ∧ ∀ r : Int, (∃ c : Nat, r = (c : Int) ∧ CutIs t (max f 1) c) → ∃ c : Nat, r = (c : Int) ∧ CutIs t (max f 1) c) := by
        intro hnb
        exact ⟨_, next b (hno hnb), ⟨b, i + 1, rfl, hno hnb, by omega⟩, by dsimp only; omega, fun _ h => h⟩
      cases ha : blankC t[i] with
      | false =>
        rw [ha] at hb
        simp only [Bool.not_false, cond_true, Option.bind_some]
        exact .inr (goNo hb)
      | true =>
        rw [ha] at hb
        simp only [Bool.not_true, cond_false, Option.bind_some]
        cases hp : blankC t[i - 1] with
        | true =>
          rw [hp] at hb
          simp only [cond_true]
          exact .inr (goNo hb)
        | false =>
          rw [hp] at hb
          have hb : br t (max f 1) i = true := hb
          simp only [cond_false]
          by_cases hb0 : 0 < b ∧ 78 < i
          · left
            have e1 : decide ((0 : Int) < (b : Int)) = true := by simp; omega
            have e2 : decide ((78 : Int) < (i : Int)) = true := by simp; omega
            rw [e1, e2]
            exact ⟨(b : Int), rfl, b, rfl, hI.done (.inl hb0)⟩
          · right
            have e : (bif decide ((0 : Int) < (b : Int)) then some (decide ((78 : Int) < (i : Int))) else some false) = some false := by
              by_cases h0 : 0 < b
              · have e1 : decide ((0 : Int) < (b : Int)) = true := by simp; omega
                have e2 : decide ((78 : Int) < (i : Int)) = false := by simp; omega
                rw [e1, e2]; rfl
              · have e1 : decide ((0 : Int) < (b : Int)) = false := by simp; omega
                rw [e1]; rfl
            rw [e]
            simp only [Option.bind_some, cond_false]
            have hnew : PInv t (max f 1) i (i + 1) := by
              refine ⟨by have := hI.1; omega, by omega, .inr ⟨hb, by omega, ?_⟩⟩
              by_cases h78 : i ≤ 78
              · exact .inl ⟨h78, fun j h1 h2 => by omega⟩
              · right
                refine ⟨by omega, ?_⟩
                rcases hI.2.2 with ⟨q1, q2⟩ | ⟨q1, q2, q3⟩
                · exact q2
                · exfalso
                  have := (br_lt q1).2.1
                  omega
            exact ⟨_, next i hnew, ⟨i, i + 1, rfl, hnew, by omega⟩, by dsimp only; omega, fun _ h => h⟩
    · left
      have hd : decide ((i : Int) < (t.length : Int)) = false := by simp; omega
      rw [hd]
      exact ⟨(b : Int), rfl, b, rfl, hI.done (.inr (by omega))⟩) ((0 : Int), ((max f 1 : Nat) : Int)) ⟨0, max f 1, rfl, ⟨Nat.le_refl _, by omega, .inl ⟨rfl, fun j hj => by
      cases hb : br t (max f 1) j with
      | false => rfl
      | true => have := (br_lt hb).2.2; omega⟩⟩, by omega⟩
  rw [h1]
  simp only [Option.bind_some]
  rw [cutIs_unique h2 (cutP_is t (max f 1))]
/-- the reference's search -/
theorem R_cut_eq (t : Str) (f : Nat) (out : List Str) (ht : t.length ≤ 4194304) (h78 : 78 < t.length) (hf : f ≤ 4194304) (h1f : 1 ≤ f) : ((iter (R_FieldLines_l2 (t, (f : Int), out)) (0, 78)).bind fun b10 => iter (R_FieldLines_l3 (t, (f : Int), out)) (b10, 79)) = some ((cutP t f : Nat) : Int) := by
  have test : ∀ i : Nat, 1 ≤ i → i < t.length → ((bif decide ((f : Int) ≤ (i : Int)) then (idx t (i : Int)).bind fun v18 => (R_blank v18).bind fun v20 => (bif v20 then (idx t ((w64 ((i : Int) - 1)))).bind fun v23 => (R_blank v23).bind fun v25 => some ((!v25)) else some false) else some false) : Option Bool) = some (br t f i) := by
    intro i h1 h2
    have hpre : w64 ((i : Int) - 1) = ((i - 1 : Nat) : Int) := by rw [w64_id (by omega) (by omega)]; omega
    rw [br_at h1 h2, idx_lt h2, hpre, idx_lt (show i - 1 < t.length by omega)]
    have e : decide ((f : Int) ≤ (i : Int)) = decide (f ≤ i) := by rw [Bool.eq_iff_iff]; simp
    rw [e]
    simp only [Option.bind_some, R_blank_eq]
    cases decide (f ≤ i) <;> cases blankC t[i] <;> rfl
  have hdn : ∀ i : Nat, i ≤ 78 → iter (R_FieldLines_l2 (t, (f : Int), out)) (0, (i : Int)) = some ((cutDn t f i : Nat) : Int) := by
    intro i
    induction i with
    | zero => intro _; exact iter_out (by unfold R_FieldLines_l2; rfl)
    | succ i ih =>
      intro hi
      have hb : R_FieldLines_l2 (t, (f : Int), out) (0, ((i + 1 : Nat) : Int)) = some (.cont ((bif br t f (i + 1) then ((i + 1 : Nat) : Int) else 0), (i : Int))) := by
        unfold R_FieldLines_l2
        dsimp only
        have e1 : decide ((0 : Int) < ((i + 1 : Nat) : Int)) = true := by rw [decide_eq_true_eq]; omega
        have e2 : w64 (((i + 1 : Nat) : Int) - 1) = (i : Int) := by rw [w64_id (by omega) (by omega)]; omega
        rw [test (i + 1) (by omega) (by omega), e1, e2]
        simp only [beq_self_eq_true, cond_true, Option.bind_some]
        cases br t f (i + 1) <;> rfl
      rw [iter_cont hb]
      unfold cutDn
      cases hq : br t f (i + 1) with
      | false => simpa using ih (by omega)
      | true =>
        simp only [cond_true, if_true]
        refine iter_out ?_
        unfold R_FieldLines_l2
        dsimp only
        have e3 : ((((i + 1 : Nat) : Int)) == 0) = false := by rw [beq_eq_false_iff_ne]; omega
        rw [e3]
        cases decide ((0 : Int) < (i : Int)) <;> rfl
  have h1 := hdn 78 (by omega)
  have e78 : ((78 : Nat) : Int) = 78 := rfl
  rw [e78] at h1
  rw [h1]
  simp only [Option.bind_some]
  have hout : ∀ (c i : Nat), c ≠ 0 → iter (R_FieldLines_l3 (t, (f : Int), out)) ((c : Int), (i : Int)) = some ((c : Nat) : Int) := by
    intro c i hc
    refine iter_out ?_
    unfold R_FieldLines_l3
    dsimp only
    have e3 : ((c : Int) == 0) = false := by rw [beq_eq_false_iff_ne]; omega
    rw [e3]
    cases decide ((i : Int) < (t.length : Int)) <;> rfl
  have hup : ∀ n i : Nat, i + n = t.length → 1 ≤ i → iter (R_FieldLines_l3 (t, (f : Int), out)) (0, (i : Int)) = some ((cutUp t f n i : Nat) : Int) := by
    intro n
    induction n with
    | zero =>
      intro i hi _
      refine iter_out ?_
      unfold R_FieldLines_l3
      dsimp only
      have : decide ((i : Int) < (t.length : Int)) = false := by rw [decide_eq_false_iff_not]; omega
      rw [this]; rfl
    | succ n ih =>
      intro i hi h1i
      have hb : R_FieldLines_l3 (t, (f : Int), out) (0, (i : Int)) = some (.cont ((bif br t f i then (i : Int) else 0), ((i + 1 : Nat) : Int))) := by
        unfold R_FieldLines_l3
        dsimp only
        have e1 : decide ((i : Int) < (t.length : Int)) = true := by simp; omega
        rw [test i h1i (by omega), e1, sc i (by omega)]
        simp only [beq_self_eq_true, cond_true, Option.bind_some]
        cases br t f i <;> rfl
      rw [iter_cont hb]
      unfold cutUp
      cases hq : br t f i with
      | false => simpa using ih (i + 1) (by omega) (by omega)
      | true =>
        simp only [cond_true, if_true]
        exact hout i (i + 1) (by omega)
  unfold cutP
  have e79 : ((79 : Nat) : Int) = 79 := rfl
  by_cases h0 : cutDn t f 78 = 0
  · rw [if_pos h0, h0]
    have := hup (t.length - 79) 79 (by omega) (by omega)
    rw [e79] at this
    exact this
  · rw [if_neg h0]
    have := hout (cutDn t f 78) 79 h0
    rw [e79] at this
    exact this
end Go.Proofs.YtfhfjckjmacekaaGreat

/- Fields and messages: the plain functions, and what the typed functions compute. -/
namespace Go.Proofs.YtfhfjckjmacekaaGreat
open Go.RowKit
set_option linter.unusedVariables false
set_option maxHeartbeats 1000000

/-- the lines of a text -/
def linesP : Nat → Str → Nat → List Str
  | 0, t, _ => [t]
  | n + 1, t, f => if 78 < t.length then (if cutP t f = 0 then [t] else t.take (cutP t f) :: linesP n (t.drop (cutP t f)) 1) else [t]
theorem linesP_enough : ∀ (n m : Nat) (t : Str) (f : Nat), t.length ≤ n → t.length ≤ m → linesP n t f = linesP m t f := by
  intro n
  induction n with
  | zero =>
    intro m t f h1 h2
    cases m with
    | zero => rfl
    | succ m => unfold linesP; rw [if_neg (by omega)]
  | succ n ih =>
    intro m t f h1 h2
    cases m with
    | zero => unfold linesP; rw [if_neg (by omega)]
    | succ m =>
      unfold linesP
      split
      · split
        · rfl
        · rename_i hc
          have := cutP_pos hc
          rw [ih m _ 1 (by simp; omega) (by simp; omega)]
      · rfl
def linesOf (t : Str) (f : Nat) : List Str := linesP t.length t f
theorem linesOf_long {t : Str} {f : Nat} (h : 78 < t.length) (hc : cutP t f ≠ 0) : linesOf t f = t.take (cutP t f) :: linesOf (t.drop (cutP t f)) 1 := by
  unfold linesOf
  obtain ⟨n, hn⟩ : ∃ n, t.length = n + 1 := ⟨t.length - 1, by omega⟩
  have hp := cutP_pos hc
  rw [hn, linesP, if_pos h, if_neg hc]
  rw [linesP_enough n (t.drop (cutP t f)).length _ 1 (by simp; omega) (Nat.le_refl _)]
theorem linesOf_end {t : Str} {f : Nat} (h : ¬ 78 < t.length ∨ cutP t f = 0) : linesOf t f = [t] := by
  unfold linesOf
  cases hn : t.length with
  | zero => rfl
  | succ n =>
    rw [linesP]
    rcases h with h | h
    · rw [if_neg h]
    · split
      · rfl
      · rfl
theorem linesOf_join : ∀ (n : Nat) (t : Str) (f : Nat), t.length ≤ n → (linesOf t f).flatten = t ∧ (linesOf t f).length ≤ t.length + 1 := by
  intro n
  induction n with
  | zero => intro t f h; rw [linesOf_end (.inl (by omega))]; simp
  | succ n ih =>
    intro t f h
    by_cases h78 : 78 < t.length
    · by_cases hc : cutP t f = 0
      · rw [linesOf_end (.inr hc)]; simp
      · have hp := cutP_pos hc
        rw [linesOf_long h78 hc]
        obtain ⟨h1, h2⟩ := ih (t.drop (cutP t f)) 1 (by simp; omega)
        rw [List.flatten_cons, h1]
        refine ⟨by simp, ?_⟩
        simp only [List.length_cons, List.length_drop] at h2 ⊢
        omega
    · rw [linesOf_end (.inl h78)]; simp
/-- both ways of making lines: they end with the rest, behind the lines before -/
theorem lines_loop {body : Str × Int × List Str → Option (Step (Str × Int × List Str) (Str × List Str))} (enc : Nat → Int) (g : Nat)
    (h : ∀ (t : Str) (f : Nat) (out : List Str), t.length ≤ 4194304 → out.length ≤ 4194305 → f ≤ 4194304 → body (t, enc f, out) = some (if 78 < t.length then (if cutP t (max f 1) = 0 then .out (t, out) else .cont (t.drop (cutP t (max f 1)), enc g, out ++ [t.take (cutP t (max f 1))])) else .out (t, out))) (h0 : max g 1 = 1) :
    ∀ (n : Nat) (t : Str) (f : Nat) (out : List Str), t.length ≤ n → t.length ≤ 4194304 → out.length + t.length ≤ 4194305 → f ≤ 4194304 → ∃ last init, iter body (t, enc f, out) = some (last, init) ∧ init ++ [last] = out ++ linesOf t (max f 1) := by
  intro n
  induction n with
  | zero =>
    intro t f out h1 h2 h3 h4
    have hb := h t f out h2 (by omega) h4
    rw [if_neg (by omega)] at hb
    exact ⟨t, out, iter_out hb, by rw [linesOf_end (.inl (by omega))]⟩
  | succ n ih =>
    intro t f out h1 h2 h3 h4
    have hb := h t f out h2 (by omega) h4
    by_cases h78 : 78 < t.length
    · rw [if_pos h78] at hb
      by_cases hc : cutP t (max f 1) = 0
      · rw [if_pos hc] at hb
        exact ⟨t, out, iter_out hb, by rw [linesOf_end (.inr hc)]⟩
      · rw [if_neg hc] at hb
        have hp := cutP_pos hc
        obtain ⟨last, init, q1, q2⟩ := ih (t.drop (cutP t (max f 1))) g (out ++ [t.take (cutP t (max f 1))]) (by simp; omega) (by simp; omega) (by simp; omega) (by omega)
        refine ⟨last, init, (iter_cont hb).trans q1, ?_⟩
        rw [q2, h0, linesOf_long h78 hc]; simp
    · rw [if_neg h78] at hb
      exact ⟨t, out, iter_out hb, by rw [linesOf_end (.inl h78)]⟩
def txt (n v : Str) : Str := n ++ [58, 32] ++ v
def flP (n v : Str) : List Str := linesOf (txt n v) (n.length + 2)
theorem fold_loop (t : Str) (f : Nat) (ht : t.length ≤ 4194304) (hf : f ≤ 4194304) : ∃ last init, iter fold_Fold_l1 (t, (f : Int), ([] : List Str)) = some (last, init) ∧ init ++ [last] = linesOf t (max f 1) := by
  have := lines_loop (body := fold_Fold_l1) (fun n => (n : Int)) 0 (fun t f out h1 h2 h3 => by
    unfold fold_Fold_l1
    dsimp only
    by_cases h78 : 78 < t.length
    · have hd : decide ((78 : Int) < (t.length : Int)) = true := by rw [decide_eq_true_eq]; omega
      rw [hd, if_pos h78, fold_point_eq t f h1 h3]
      simp only [cond_true, Option.bind_some]
      by_cases hc : cutP t (max f 1) = 0
      · rw [if_pos hc, hc]; rfl
      · have hp := cutP_pos hc
        have e : (((cutP t (max f 1) : Nat) : Int) == 0) = false := by rw [beq_eq_false_iff_ne]; omega
        rw [if_neg hc, e, cut_0n (by omega), cut_nl (by omega)]
        simp only [cond_false, Option.bind_some]
        rw [app_ok (by simp; omega)]; rfl
    · have hd : decide ((78 : Int) < (t.length : Int)) = false := by rw [decide_eq_false_iff_not]; omega
      rw [hd, if_neg h78]; rfl) (by decide) t.length t f [] (Nat.le_refl _) ht (by simp; omega) hf
  simpa using this
theorem ref_loop (t : Str) (f : Nat) (ht : t.length ≤ 4194304) (hf : f ≤ 4194304) (h1f : 1 ≤ f) : ∃ last init, iter R_FieldLines_l1 (t, (f : Int), ([] : List Str)) = some (last, init) ∧ init ++ [last] = linesOf t f := by
  have := lines_loop (body := R_FieldLines_l1) (fun n => ((max n 1 : Nat) : Int)) 1 (fun t f out h1 h2 h3 => by
    unfold R_FieldLines_l1
    dsimp only
    by_cases h78 : 78 < t.length
    · have hd : decide ((78 : Int) < (t.length : Int)) = true := by rw [decide_eq_true_eq]; omega
      have hc0 := R_cut_eq t (max f 1) out h1 h78 (by omega) (by omega)
      obtain ⟨b10, hb10, hc1⟩ := Option.bind_eq_some_iff.1 hc0
      rw [hd, if_pos h78, hb10]
      simp only [cond_true, Option.bind_some]
      rw [hc1]
      simp only [Option.bind_some]
      by_cases hc : cutP t (max f 1) = 0
      · rw [if_pos hc, hc]; rfl
      · have hp := cutP_pos hc
        have e : (((cutP t (max f 1) : Nat) : Int) == 0) = false := by rw [beq_eq_false_iff_ne]; omega
        rw [if_neg hc, e, cut_0n (by omega), cut_nl (by omega)]
        simp only [cond_false, Option.bind_some]
        rw [app_ok (by simp; omega)]; rfl
    · have hd : decide ((78 : Int) < (t.length : Int)) = false := by rw [decide_eq_false_iff_not]; omega
      rw [hd, if_neg h78]; rfl) (by decide) t.length t f [] (Nat.le_refl _) ht (by simp; omega) hf
  have e : max f 1 = f := by omega
  rw [e] at this
  simpa using this
theorem txt_cat (n v : Str) (hn : n.length ≤ 1048576) (hv : v.length ≤ 1048576) : cat n [58, 32] = some (n ++ [58, 32]) ∧ cat (n ++ [58, 32]) v = some (txt n v) ∧ w64 ((n.length : Int) + 2) = ((n.length + 2 : Nat) : Int) := by
  refine ⟨cat_ok (by simp; omega), cat_ok (by simp; omega), ?_⟩
  rw [w64_id (by omega) (by omega)]; omega
theorem txt_len (n v : Str) : (txt n v).length = n.length + 2 + v.length := by unfold txt; simp; omega
theorem R_FieldLines_eq (n v : Str) (hn : n.length ≤ 1048576) (hv : v.length ≤ 1048576) : R_FieldLines n v = some (flP n v) := by
  obtain ⟨h1, h2, h3⟩ := txt_cat n v hn hv
  have hl := txt_len n v
  obtain ⟨last, init, q1, q2⟩ := ref_loop (txt n v) (n.length + 2) (by omega) (by omega) (by omega)
  unfold R_FieldLines flP
  rw [h1]
  simp only [Option.bind_some]
  rw [h2]
  simp only [Option.bind_some]
  rw [h3, q1]
  simp only [Option.bind_some]
  have hj := (linesOf_join (txt n v).length (txt n v) (n.length + 2) (Nat.le_refl _)).2
  rw [← q2] at hj
  simp at hj
  rw [app_ok (by simp; omega), q2]; rfl
def longI (i : Nat) (l : Str) : Option Int := if 998 < l.length then some (i : Int) else none
def foldE (n v : Str) : List Str × TFault :=
  if !fnP n then ([], ⟨10, -1⟩) else if 4000 < v.length then ([], ⟨1, -1⟩) else if !valP v then ([], ⟨11, -1⟩) else match firstI longI 0 (flP n v) with | some i => ([], ⟨1, i⟩) | none => (flP n v, ⟨0, 0⟩)
theorem fl_len (n v : Str) : (flP n v).length ≤ n.length + v.length + 3 := by
  have := (linesOf_join (txt n v).length (txt n v) (n.length + 2) (Nat.le_refl _)).2
  have hl := txt_len n v
  unfold flP; omega
theorem dec998 (l : Str) : decide ((998 : Int) < (l.length : Int)) = decide (998 < l.length) := by generalize l.length = n; rw [Bool.eq_iff_iff]; simp; omega
theorem fold_Fold_eq (n v : Str) (hn : n.length ≤ 1048576) (hv : v.length ≤ 1048576) : fold_Fold n v = some (foldE n v) := by
  obtain ⟨h1, h2, h3⟩ := txt_cat n v hn hv
  have hl := txt_len n v
  obtain ⟨last, init, q1, q2⟩ := fold_loop (txt n v) (n.length + 2) (by omega) (by omega)
  rw [show max (n.length + 2) 1 = n.length + 2 by omega] at q2
  unfold fold_Fold foldE
  rw [fold_name_eq n hn, fold_value_eq v hv]
  simp only [Option.bind_some, basic_Fault_eq, basic_None_eq]
  cases fnP n with
  | false => rfl
  | true =>
    simp only [Bool.not_true, cond_false, Bool.false_eq_true, if_false]
    by_cases h4 : 4000 < v.length
    · have hd : decide ((4000 : Int) < (v.length : Int)) = true := by rw [decide_eq_true_eq]; omega
      rw [hd, if_pos h4]; rfl
    · have hd : decide ((4000 : Int) < (v.length : Int)) = false := by rw [decide_eq_false_iff_not]; omega
      rw [hd, if_neg h4]
      simp only [cond_false]
      cases valP v with
      | false => rfl
      | true =>
        simp only [Bool.not_true, cond_false, Bool.false_eq_true, if_false]
        rw [h1]
        simp only [Option.bind_some]
        rw [h2]
        simp only [Option.bind_some]
        rw [h3, q1]
        simp only [Option.bind_some]
        have hj := fl_len n v
        have hfl : flP n v = init ++ [last] := q2.symm
        have hj2 := hj
        rw [hfl] at hj2
        simp at hj2
        rw [app_ok (by simp; omega), ← hfl]
        simp only [Option.bind_some]
        rw [iter_first (flP n v) (fun i l => (longI i l).map fun k => (([] : List Str), (⟨1, k⟩ : TFault))) (.inl ()) .inr]
        · simp only [Option.bind_some]
          have hm : ∀ (l : List Str) (i : Nat), firstI (fun i l => (longI i l).map fun k => (([] : List Str), (⟨1, k⟩ : TFault))) i l = (firstI longI i l).map fun k => (([] : List Str), (⟨1, k⟩ : TFault)) := by
            intro l
            induction l with
            | nil => intro i; rfl
            | cons x l ih => intro i; unfold firstI; rw [ih]; cases longI i x <;> rfl
          rw [hm]
          cases firstI longI 0 (flP n v) <;> rfl
        · unfold fold_Fold_l2; rw [dec_len]; rfl
        · intro i l hli
          have hi := lt_get hli
          unfold fold_Fold_l2 longI
          rw [dec_lt hli, idx_get hli]
          simp only [cond_true, Option.bind_some, dec998, basic_Fault_eq, sc i (by omega)]
          by_cases h9 : 998 < l.length
          · simp [h9]
          · simp [h9]
end Go.Proofs.YtfhfjckjmacekaaGreat

/- Messages and mails: the plain functions, and what the typed functions compute. -/
namespace Go.Proofs.YtfhfjckjmacekaaGreat
open Go.RowKit
set_option linter.unusedVariables false
set_option maxHeartbeats 1000000

def codeP (f : TField) : Int := (foldE f.Name f.Value).2.Code
def longB (l : List Str) : Bool := l.any fun s => decide (998 < s.length)
theorem longI_some (l : List Str) : ∀ n, (firstI longI n l).isSome = longB l := by
  induction l with
  | nil => intro n; rfl
  | cons x l ih =>
    intro n
    unfold firstI longB longI
    by_cases h : 998 < x.length
    · simp [h]
    · simp only [h, if_false, List.any_cons, decide_false, Bool.false_or]
      exact ih (n + 1)
def codeQ (n v : Str) : Int := if !fnP n then 10 else if 4000 < v.length then 1 else if !valP v then 11 else if longB (flP n v) then 1 else 0
theorem codeP_eq (f : TField) : codeP f = codeQ f.Name f.Value := by
  unfold codeP foldE codeQ
  rw [← longI_some (flP f.Name f.Value) 0]
  split
  · rfl
  · split
    · rfl
    · split
      · rfl
      · cases firstI longI 0 (flP f.Name f.Value) <;> rfl
theorem R_In_60 (s : Str) : R_In (s.length : Int) 1 60 = some (s != ([] : Str) && decide (s.length ≤ 60)) := by
  rw [R_In_eq]
  cases s with
  | nil => rfl
  | cons c s =>
    have h : decide ((1 : Int) ≤ ((c :: s).length : Int)) = true := by rw [decide_eq_true_eq]; simp; omega
    rw [h, dec60]; rfl
theorem elim_int (c : Int) (o : Option Unit) (f : Unit → Option Int) : Sum.elim f (fun b => some b) (o.elim (Sum.inl ()) (fun _ => Sum.inr c) : Unit ⊕ Int) = bif o.isSome then some c else f () := by cases o <;> rfl
theorem R_FieldCode_eq (f : TField) (hn : f.Name.length ≤ 1048576) (hv : f.Value.length ≤ 1048576) : R_FieldCode f = some (codeP f) := by
  rw [codeP_eq]
  unfold R_FieldCode
  have hl1 : iter (R_FieldCode_l1 f) 0 = some ((firstI (fun _ c => if !fnC c then some () else none) 0 f.Name).elim (.inl ()) fun _ => .inr 10) := by
    refine iter_first f.Name _ (Sum.inl ()) (fun _ => Sum.inr 10) ?_ ?_
    · unfold R_FieldCode_l1; rw [dec_len]; rfl
    · intro i c hc
      have hi := lt_get hc
      unfold R_FieldCode_l1
      rw [dec_lt hc, idx_get hc]
      simp only [cond_true, Option.bind_some, R_In_eq, u8_eq c 58 (by decide), u8_le1 33 c (by decide), u8_le2 126 c (by decide), sc i (by omega)]
      unfold fnC bne
      cases decide ((33 : UInt8) ≤ c) <;> cases decide (c ≤ 126) <;> cases c == 58 <;> rfl
  have hl2 : iter (R_FieldCode_l2 f) 0 = some ((firstI (fun _ c => if endC c then some () else none) 0 f.Value).elim (.inl ()) fun _ => .inr 11) := by
    refine iter_first f.Value _ (Sum.inl ()) (fun _ => Sum.inr 11) ?_ ?_
    · unfold R_FieldCode_l2; rw [dec_len]; rfl
    · intro i c hc
      have hi := lt_get hc
      unfold R_FieldCode_l2
      rw [dec_lt hc, idx_get hc]
      simp only [cond_true, Option.bind_some, u8_eq c 0 (by decide), u8_eq c 10 (by decide), u8_eq c 13 (by decide), sc i (by omega)]
      unfold endC
      cases c == 0 <;> cases c == 10 <;> cases c == 13 <;> rfl
  have hl3 : ∀ l : List Str, l.length ≤ 4194304 → iter (R_FieldCode_l3 l) 0 = some ((firstI (fun _ c => if decide (998 < c.length) then some () else none) 0 l).elim (.inl ()) fun _ => .inr 1) := by
    intro l hl
    refine iter_first l _ (Sum.inl ()) (fun _ => Sum.inr 1) ?_ ?_
    · unfold R_FieldCode_l3; rw [dec_len]; rfl
    · intro i c hc
      have hi := lt_get hc
      unfold R_FieldCode_l3
      rw [dec_lt hc, idx_get hc]
      simp only [cond_true, Option.bind_some, dec998, sc i (by omega)]
      cases decide (998 < c.length) <;> rfl
  have hfl := fl_len f.Name f.Value
  rw [hl1]
  simp only [Option.bind_some, elim_int, firstI_isSome, not_all, R_In_60, hl2, R_FieldLines_eq _ _ hn hv, hl3 _ (show (flP f.Name f.Value).length ≤ 4194304 by omega)]
  have h4 : decide ((4000 : Int) < (f.Value.length : Int)) = decide (4000 < f.Value.length) := by generalize f.Value.length = n; rw [Bool.eq_iff_iff]; simp; omega
  have he : (bif decide ((0 : Int) < (f.Value.length : Int)) then (idx f.Value 0).bind fun v38 => (R_blank v38).bind fun v40 => (bif v40 then some true else (idx f.Value ((w64 ((f.Value.length : Int) - 1)))).bind fun v43 => (R_blank v43).bind fun v45 => some v45) else some false) = some (edgeP f.Value) := by
    by_cases hn0 : f.Value = []
    · rw [hn0]; rfl
    · obtain ⟨a, b, h1, h2, h3, h4⟩ := idx_last f.Value hn0 hv
      have hp := List.length_pos_iff.2 hn0
      have hd : decide ((0 : Int) < (f.Value.length : Int)) = true := by rw [decide_eq_true_eq]; omega
      unfold edgeP
      rw [h1, h2, h3, h4, hd]
      simp only [Option.bind_some, R_blank_eq, cond_true]
      cases blankC a <;> rfl
  rw [he, h4]
  simp only [Option.bind_some]
  unfold codeQ fnP valP longB
  cases f.Name.all fnC <;> cases (f.Name != ([] : Str)) <;> cases decide (f.Name.length ≤ 60) <;> (try rfl)
  simp only [Bool.and_true, Bool.not_true, Bool.false_eq_true, if_false, cond_false]
  by_cases h4000 : 4000 < f.Value.length
  · simp [h4000]
  · simp only [h4000, decide_false, cond_false, if_false]
    cases f.Value.any endC <;> cases edgeP f.Value <;> (try rfl)
    simp only [Bool.not_false, Bool.and_true, Bool.not_true, Bool.false_eq_true, if_false, cond_false]
    cases (flP f.Name f.Value).any fun s => decide (998 < s.length) <;> rfl

/-! ### a head -/
def smallF (l : List TField) : Prop := l.length ≤ 1048576 ∧ ∀ f ∈ l, f.Name.length ≤ 1048576 ∧ f.Value.length ≤ 1048576
def fieldQ (i : Nat) (f : TField) : Option TFault := if codeP f != 0 then some ⟨codeP f, i⟩ else none
def headF (l : List TField) : TFault := if 60 < l.length then ⟨2, -1⟩ else (firstI fieldQ 0 l).getD ⟨0, 0⟩
theorem dec60f (l : List TField) : decide ((60 : Int) < (l.length : Int)) = decide (60 < l.length) := by generalize l.length = n; rw [Bool.eq_iff_iff]; simp; omega
theorem header_Validate_eq (l : List TField) (h : smallF l) : header_Validate l = some (headF l) := by
  obtain ⟨h1, h2⟩ := h
  unfold header_Validate headF
  rw [iter_first l fieldQ (.inl ()) .inr]
  · simp only [Option.bind_some, basic_Fault_eq, basic_None_eq, elim_fault, dec60f]
    by_cases h6 : 60 < l.length <;> simp [h6]
  · unfold header_Validate_l1; rw [dec_len]; rfl
  · intro i f hf
    have hi := lt_get hf
    obtain ⟨hn, hv⟩ := h2 f (List.mem_of_getElem? hf)
    unfold header_Validate_l1 fieldQ
    rw [dec_lt hf, idx_get hf]
    simp only [cond_true, Option.bind_some, fold_Fold_eq _ _ hn hv, basic_Failed_eq, basic_Fault_eq, sc i (by omega)]
    show (bif codeP f != 0 then _ else _) = _
    cases codeP f != 0 <;> rfl
theorem headF_code (l : List TField) (h : (headF l).Code = 0) : ¬ 60 < l.length ∧ firstI fieldQ 0 l = none ∧ ∀ f ∈ l, codeP f = 0 := by
  unfold headF at h
  by_cases h6 : 60 < l.length
  · rw [if_pos h6] at h; simp at h
  · rw [if_neg h6] at h
    cases hq : firstI fieldQ 0 l with
    | some y =>
      rw [hq] at h
      obtain ⟨i, f, h1, h2⟩ := firstI_some hq
      unfold fieldQ at h2
      exfalso
      by_cases hc : codeP f = 0
      · simp [hc] at h2
      · have : (codeP f != 0) = true := by simpa using hc
        rw [this] at h2
        simp at h2
        subst h2
        exact hc h
    | none =>
      refine ⟨h6, rfl, fun f hf => ?_⟩
      obtain ⟨i, hi⟩ := List.getElem?_of_mem hf
      have := firstI_none.1 hq i f hi
      unfold fieldQ at this
      simpa using this

/-! ### the bytes of a message -/
theorem codeP_ok {f : TField} (h : codeP f = 0) : f.Name.length ≤ 60 ∧ f.Value.length ≤ 4000 ∧ foldE f.Name f.Value = (flP f.Name f.Value, ⟨0, 0⟩) ∧ ∀ l ∈ flP f.Name f.Value, l.length ≤ 998 := by
  have h0 := h
  rw [codeP_eq] at h
  unfold codeQ at h
  have h1 : fnP f.Name = true := by cases hx : fnP f.Name with
    | true => rfl
    | false => rw [hx] at h; simp at h
  rw [h1] at h
  simp only [Bool.not_true, Bool.false_eq_true, if_false] at h
  have h2 : ¬ 4000 < f.Value.length := by intro hx; rw [if_pos hx] at h; simp at h
  rw [if_neg h2] at h
  have h3 : valP f.Value = true := by cases hx : valP f.Value with
    | true => rfl
    | false => rw [hx] at h; simp at h
  rw [h3] at h
  simp only [Bool.not_true, Bool.false_eq_true, if_false] at h
  have h4 : longB (flP f.Name f.Value) = false := by cases hx : longB (flP f.Name f.Value) with
    | false => rfl
    | true => rw [hx] at h; simp at h
  refine ⟨?_, by omega, ?_, ?_⟩
  · unfold fnP at h1; simp only [Bool.and_eq_true, decide_eq_true_eq] at h1; exact h1.1.2
  · unfold foldE
    rw [h1, h3]
    simp only [Bool.not_true, Bool.false_eq_true, if_false, if_neg h2]
    have := longI_some (flP f.Name f.Value) 0
    rw [h4] at this
    cases hx : firstI longI 0 (flP f.Name f.Value) with
    | none => rfl
    | some y => rw [hx] at this; cases this
  · intro l hl
    unfold longB at h4
    rw [List.any_eq_false] at h4
    have := h4 l hl
    simp at this; omega
def addL (a : List UInt8) (l : Str) : List UInt8 := a ++ l ++ [13, 10]
def addF (a : List UInt8) (f : TField) : List UInt8 := (flP f.Name f.Value).foldl addL a
def bytesP (m : TMessage) : List UInt8 := m.Fields.foldl addF [] ++ [13, 10] ++ m.Body
theorem lines_wr (l : List Str) (acc : List UInt8) (hl : l.length ≤ 5000) (h9 : ∀ s ∈ l, s.length ≤ 998) (ha : acc.length ≤ 1000000000) {body : Int × List UInt8 → Option (Step (Int × List UInt8) (List UInt8))}
    (h0 : ∀ s, body ((l.length : Int), s) = some (.out s)) (h1 : ∀ (i : Nat) x s, l[i]? = some x → s.length ≤ 1006000000 → body ((i : Int), s) = some (.cont (((i + 1 : Nat) : Int), addL s x))) : iter body (0, acc) = some (l.foldl addL acc) ∧ (l.foldl addL acc).length ≤ acc.length + 1000 * l.length :=
  iter_fold l (fun i s => (i, s)) addL id (fun i s => s.length ≤ acc.length + 1000 * i) (body := body) (fun s _ => h0 s) (fun i x s hx hi => by
    have hlt := lt_get hx
    have h9x := h9 x (List.mem_of_getElem? hx)
    refine ⟨h1 i x s hx (by omega), ?_⟩
    unfold addL; simp; omega) acc (by simp)
theorem fields_wr (l : List TField) (hl : l.length ≤ 60) (hc : ∀ f ∈ l, codeP f = 0) {body : Int × List UInt8 → Option (Step (Int × List UInt8) (List UInt8))}
    (h0 : ∀ s, body ((l.length : Int), s) = some (.out s)) (h1 : ∀ (i : Nat) f s, l[i]? = some f → s.length ≤ 1000000000 → body ((i : Int), s) = some (.cont (((i + 1 : Nat) : Int), addF s f)) ∧ (addF s f).length ≤ s.length + 5000000) : iter body (0, ([] : List UInt8)) = some (l.foldl addF []) ∧ (l.foldl addF []).length ≤ 5000000 * l.length :=
  iter_fold l (fun i s => (i, s)) addF id (fun i s => s.length ≤ 5000000 * i) (body := body) (fun s _ => h0 s) (fun i f s hf hi => by
    have hlt := lt_get hf
    obtain ⟨q1, q2⟩ := h1 i f s hf (by omega)
    exact ⟨q1, by omega⟩) [] (by simp)
theorem message_write_eq (m : TMessage) (hb : m.Body.length ≤ 1048576) (h60 : m.Fields.length ≤ 60) (hc : ∀ f ∈ m.Fields, codeP f = 0) : message_write m = some (bytesP m) := by
  unfold message_write bytesP
  obtain ⟨h1, h2⟩ := fields_wr m.Fields h60 hc (body := message_write_l1 m) (fun s => by unfold message_write_l1; rw [dec_len]; rfl) (fun i f s hf hs => by
    have hi := lt_get hf
    obtain ⟨c1, c2, c3, c4⟩ := codeP_ok (hc f (List.mem_of_getElem? hf))
    have hfl := fl_len f.Name f.Value
    obtain ⟨q1, q2⟩ := lines_wr (flP f.Name f.Value) s (by omega) c4 hs (body := message_write_l2 (foldE f.Name f.Value)) (fun s => by unfold message_write_l2; rw [c3, dec_len]; rfl) (fun k x s hx hs => by
      have hk := lt_get hx
      have := c4 x (List.mem_of_getElem? hx)
      unfold message_write_l2
      rw [c3, dec_lt hx, idx_get hx]
      simp only [cond_true, Option.bind_some, sc k (by omega)]
      rw [app_ok (by omega)]
      simp only [Option.bind_some]
      rw [app_ok (by simp; omega)]; rfl)
    unfold addF
    refine ⟨?_, by omega⟩
    unfold message_write_l1
    rw [dec_lt hf, idx_get hf]
    simp only [cond_true, Option.bind_some, fold_Fold_eq f.Name f.Value (by omega) (by omega), q1, sc i (by omega)])
  rw [h1]
  simp only [Option.bind_some]
  rw [app_ok (by simp; omega)]
  simp only [Option.bind_some]
  rw [app_ok (by simp; omega)]; rfl
theorem R_MessageBytes_eq (m : TMessage) (hb : m.Body.length ≤ 1048576) (h60 : m.Fields.length ≤ 60) (hc : ∀ f ∈ m.Fields, codeP f = 0) : R_MessageBytes m = some (bytesP m) := by
  unfold R_MessageBytes bytesP
  obtain ⟨h1, h2⟩ := fields_wr m.Fields h60 hc (body := R_MessageBytes_l1 m) (fun s => by unfold R_MessageBytes_l1; rw [dec_len]; rfl) (fun i f s hf hs => by
    have hi := lt_get hf
    obtain ⟨c1, c2, c3, c4⟩ := codeP_ok (hc f (List.mem_of_getElem? hf))
    have hfl := fl_len f.Name f.Value
    obtain ⟨q1, q2⟩ := lines_wr (flP f.Name f.Value) s (by omega) c4 hs (body := R_MessageBytes_l2 (flP f.Name f.Value)) (fun s => by unfold R_MessageBytes_l2; rw [dec_len]; rfl) (fun k x s hx hs => by
      have hk := lt_get hx
      have := c4 x (List.mem_of_getElem? hx)
      unfold R_MessageBytes_l2
      rw [dec_lt hx, idx_get hx]
      simp only [cond_true, Option.bind_some, sc k (by omega)]
      rw [app_ok (by omega)]
      simp only [Option.bind_some]
      rw [app_ok (by simp; omega)]; rfl)
    unfold addF
    refine ⟨?_, by omega⟩
    unfold R_MessageBytes_l1
    rw [dec_lt hf, idx_get hf]
    simp only [cond_true, Option.bind_some, R_FieldLines_eq f.Name f.Value (by omega) (by omega), q1, sc i (by omega)])
  rw [h1]
  simp only [Option.bind_some]
  rw [app_ok (by simp; omega)]
  simp only [Option.bind_some]
  rw [app_ok (by simp; omega)]; rfl
end Go.Proofs.YtfhfjckjmacekaaGreat

/- Bodies, messages and mails: the plain functions, and what the typed functions compute. -/
namespace Go.Proofs.YtfhfjckjmacekaaGreat
open Go.RowKit
set_option linter.unusedVariables false
set_option maxHeartbeats 1000000

/-- what is wrong with a body: true, a byte that ends no line; false, a long line -/
def bodyP : Nat → List UInt8 → Option Bool
  | _, [] => none
  | c, [x] => if x == 13 || x == 10 then some true else if 998 < c + 1 then some false else none
  | c, x :: y :: r => if x == 13 && y == 10 then bodyP 0 r else if x == 13 || x == 10 then some true else if 998 < c + 1 then some false else bodyP (c + 1) (y :: r)
def bodyStep {O : Type} (e : Bool → O) (c i : Nat) (x : UInt8) (r : List UInt8) : Step (Int × Int) (Unit ⊕ O) :=
  if x == 13 && r.head? == some 10 then .cont (0, ((i + 2 : Nat) : Int)) else if x == 13 || x == 10 then .out (.inr (e true)) else if 998 < c + 1 then .out (.inr (e false)) else .cont (((c + 1 : Nat) : Int), ((i + 1 : Nat) : Int))
theorem body_loop {O : Type} (e : Bool → O) (l : List UInt8) {body : Int × Int → Option (Step (Int × Int) (Unit ⊕ O))}
    (h0 : ∀ c, body (c, (l.length : Int)) = some (.out (.inl ())))
    (hs : ∀ (c : Nat) (p : List UInt8) x r, l = p ++ x :: r → c ≤ 998 → body ((c : Int), (p.length : Int)) = some (bodyStep e c p.length x r)) :
    ∀ (n : Nat) (r p : List UInt8) (c : Nat), r.length ≤ n → l = p ++ r → c ≤ 998 → iter body ((c : Int), (p.length : Int)) = some ((bodyP c r).elim (.inl ()) fun b => .inr (e b)) := by
  intro n
  induction n with
  | zero =>
    intro r p c hr hl hc
    obtain rfl : r = [] := List.length_eq_zero_iff.1 (by omega)
    have : p = l := by simp [hl]
    subst this
    exact iter_out (h0 _)
  | succ n ih =>
    intro r p c hr hl hc
    match r, hr, hl with
    | [], _, hl =>
      have : p = l := by simp [hl]
      subst this
      exact iter_out (h0 _)
    | [x], hr, hl =>
      have hb := hs c p x [] hl hc
      unfold bodyStep at hb
      have e1 : (x == 13 && ([] : List UInt8).head? == some 10) = false := by simp
      rw [e1] at hb
      simp only [Bool.false_eq_true, if_false] at hb
      unfold bodyP
      cases hx : (x == 13 || x == 10) with
      | true => rw [hx] at hb; exact iter_out hb
      | false =>
        rw [hx] at hb
        simp only [Bool.false_eq_true, if_false] at hb ⊢
        by_cases h9 : 998 < c + 1
        · rw [if_pos h9] at hb ⊢; exact iter_out hb
        · rw [if_neg h9] at hb ⊢
          rw [iter_cont hb]
          have := ih [] (p ++ [x]) (c + 1) (by simp) (by simp [hl]) (by omega)
          rw [List.length_append] at this
          exact this
    | x :: y :: r, hr, hl =>
      have hb := hs c p x (y :: r) hl hc
      unfold bodyStep at hb
      have e1 : ((y :: r).head? == some (10 : UInt8)) = (y == 10) := by simp
      rw [e1] at hb
      unfold bodyP
      cases hxy : (x == 13 && y == 10) with
      | true =>
        rw [hxy] at hb
        simp only [if_true] at hb ⊢
        rw [iter_cont hb]
        have := ih r (p ++ [x, y]) 0 (by simp at hr; omega) (by simp [hl]) (by omega)
        rw [List.length_append] at this
        exact this
      | false =>
        rw [hxy] at hb
        simp only [Bool.false_eq_true, if_false] at hb ⊢
        cases hx : (x == 13 || x == 10) with
        | true => rw [hx] at hb; exact iter_out hb
        | false =>
          rw [hx] at hb
          simp only [Bool.false_eq_true, if_false] at hb ⊢
          by_cases h9 : 998 < c + 1
          · rw [if_pos h9] at hb ⊢; exact iter_out hb
          · rw [if_neg h9] at hb ⊢
            rw [iter_cont hb]
            have := ih (y :: r) (p ++ [x]) (c + 1) (by simp at hr ⊢; omega) (by simp [hl]) (by omega)
            rw [List.length_append] at this
            exact this
theorem next_is {l p r : List UInt8} {x : UInt8} (h : l = p ++ x :: r) (hl : l.length ≤ 1048576) : (bif decide (((p.length + 1 : Nat) : Int) < (l.length : Int)) then (idx l ((p.length + 1 : Nat) : Int)).bind fun v13 => some (((v13.toNat : Int) == 10)) else some false) = some (r.head? == some 10) := by
  subst h
  simp at hl
  cases r with
  | nil =>
    have : decide (((p.length + 1 : Nat) : Int) < ((p ++ [x]).length : Int)) = false := by simp
    rw [this]; rfl
  | cons y r =>
    have : decide (((p.length + 1 : Nat) : Int) < ((p ++ x :: y :: r).length : Int)) = true := by simp; omega
    rw [this, idx_nat]
    have : (p ++ x :: y :: r)[p.length + 1]? = some y := by simp [List.getElem?_append_right]
    rw [this]
    simp only [cond_true, Option.bind_some, u8_eq y 10 (by decide)]
    simp
theorem basic_Body_eq (l : List UInt8) (hl : l.length ≤ 1048576) : basic_Body l = some ((bodyP 0 l).elim 0 fun b => bif b then 11 else 1) := by
  unfold basic_Body
  have := body_loop (fun b : Bool => bif b then (11 : Int) else 1) l (body := basic_Body_l1 l) (fun c => by unfold basic_Body_l1; rw [dec_len]; rfl) (fun c p x r h hc => by
    have hx : l[p.length]? = some x := by simp [h]
    have hi := lt_get hx
    unfold basic_Body_l1 basic_Body_k2 bodyStep
    dsimp only
    rw [dec_lt hx, idx_get hx]
    simp only [cond_true, Option.bind_some, u8_eq x 13 (by decide), u8_eq x 10 (by decide), sc p.length (by omega), sc (p.length + 1) (by omega), sc c (by omega)]
    rw [next_is h hl]
    have h9 : decide ((998 : Int) < ((c + 1 : Nat) : Int)) = decide (998 < c + 1) := by rw [Bool.eq_iff_iff]; simp; omega
    rw [h9]
    by_cases h98 : 998 < c + 1 <;> simp only [h98, decide_true, decide_false, if_true, if_false] <;> cases x == 13 <;> cases x == 10 <;> cases r.head? == some 10 <;> rfl) l.length l [] 0 (Nat.le_refl _) rfl (by omega)
  have h2 : iter (basic_Body_l1 l) (0, 0) = _ := this
  rw [h2]
  cases bodyP 0 l with
  | none => rfl
  | some b => cases b <;> rfl
def bodyF (l : List UInt8) : TFault := (bodyP 0 l).elim ⟨0, 0⟩ fun b => bif b then ⟨11, -5⟩ else ⟨1, -6⟩
theorem message_body_eq (l : List UInt8) (hl : l.length ≤ 1048576) : message_body l = some (bodyF l) := by
  unfold message_body bodyF
  rw [basic_Body_eq l hl]
  cases bodyP 0 l with
  | none => rfl
  | some b => cases b <;> rfl
def msgF (m : TMessage) : TFault := if (headF m.Fields).Code != 0 then headF m.Fields else if 12000 < (bytesP m).length then ⟨1, -4⟩ else bodyF m.Body
def smallM (m : TMessage) : Prop := smallF m.Fields ∧ m.Body.length ≤ 1048576
theorem message_Validate_eq (m : TMessage) (h : smallM m) : message_Validate m = some (msgF m) := by
  obtain ⟨h1, h2⟩ := h
  unfold message_Validate msgF
  rw [header_Validate_eq _ h1]
  simp only [Option.bind_some, basic_Failed_eq, basic_Fault_eq, message_body_eq _ h2]
  cases hc : (headF m.Fields).Code != 0 with
  | true => rfl
  | false =>
    obtain ⟨q1, q2, q3⟩ := headF_code m.Fields (by simpa using hc)
    rw [message_write_eq m h2 (by omega) q3]
    simp only [Option.bind_some, cond_false, Bool.false_eq_true, if_false]
    have : decide ((12000 : Int) < ((bytesP m).length : Int)) = decide (12000 < (bytesP m).length) := by generalize (bytesP m).length = n; rw [Bool.eq_iff_iff]; simp; omega
    rw [this]
    by_cases hb : 12000 < (bytesP m).length <;> simp [hb]
theorem R_MessageFault_eq (m : TMessage) (h : smallM m) : R_MessageFault m = some (msgF m) := by
  obtain ⟨⟨h1, h3⟩, h2⟩ := h
  unfold R_MessageFault msgF
  rw [iter_first m.Fields fieldQ (.inl ()) .inr]
  · have hbl : iter (R_MessageFault_l2 m) (0, 0) = _ := body_loop (fun b : Bool => bif b then (⟨11, -5⟩ : TFault) else ⟨1, -6⟩) m.Body (body := R_MessageFault_l2 m) (fun c => by unfold R_MessageFault_l2; rw [dec_len]; rfl) (fun c p x r h hc => by
      have hx : m.Body[p.length]? = some x := by simp [h]
      have hi := lt_get hx
      unfold R_MessageFault_l2 R_MessageFault_k3 bodyStep
      dsimp only
      rw [dec_lt hx, idx_get hx]
      simp only [cond_true, Option.bind_some, u8_eq x 13 (by decide), u8_eq x 10 (by decide), sc p.length (by omega), sc (p.length + 1) (by omega), sc c (by omega), R_At_eq]
      rw [next_is h h2]
      have h9 : decide ((998 : Int) < ((c + 1 : Nat) : Int)) = decide (998 < c + 1) := by rw [Bool.eq_iff_iff]; simp; omega
      rw [h9]
      by_cases h98 : 998 < c + 1 <;> simp only [h98, decide_true, decide_false, if_true, if_false] <;> cases x == 13 <;> cases x == 10 <;> cases r.head? == some 10 <;> rfl) m.Body.length m.Body [] 0 (Nat.le_refl _) rfl (by omega)
    rw [hbl, dec60f]
    simp only [Option.bind_some, R_At_eq]
    by_cases h6 : 60 < m.Fields.length
    · have : headF m.Fields = ⟨2, -1⟩ := by unfold headF; rw [if_pos h6]
      rw [this]; simp [h6]
    · simp only [h6, decide_false, cond_false]
      have hh : headF m.Fields = (firstI fieldQ 0 m.Fields).getD ⟨0, 0⟩ := by unfold headF; rw [if_neg h6]
      cases hq : firstI fieldQ 0 m.Fields with
      | some y =>
        rw [hq] at hh
        have hc : ((headF m.Fields).Code != 0) = true := by
          cases hc : (headF m.Fields).Code != 0 with
          | true => rfl
          | false =>
            obtain ⟨_, q2, _⟩ := headF_code m.Fields (by simpa using hc)
            rw [hq] at q2; cases q2
        rw [hc, hh]; rfl
      | none =>
        rw [hq] at hh
        have hz : headF m.Fields = ⟨0, 0⟩ := hh
        obtain ⟨q1, q2, q3⟩ := headF_code m.Fields (by rw [hz])
        rw [R_MessageBytes_eq m h2 (by omega) q3, hz]
        simp only [Option.bind_some, Option.elim_none, Sum.elim_inl]
        have hbb : m.Body.length ≤ (bytesP m).length := by unfold bytesP; simp; omega
        have e2 : (bif decide ((12000 : Int) < (m.Body.length : Int)) then some true else some (decide ((12000 : Int) < ((bytesP m).length : Int)))) = some (decide (12000 < (bytesP m).length)) := by
          generalize (bytesP m).length = n at *
          by_cases hx : 12000 < m.Body.length
          · have e3 : decide ((12000 : Int) < (m.Body.length : Int)) = true := by rw [decide_eq_true_eq]; omega
            have e4 : decide (12000 < n) = true := by rw [decide_eq_true_eq]; omega
            rw [e3, e4]; rfl
          · have e3 : decide ((12000 : Int) < (m.Body.length : Int)) = false := by rw [decide_eq_false_iff_not]; omega
            rw [e3]
            simp only [cond_false, Option.some.injEq]
            rw [Bool.eq_iff_iff]; simp; omega
        rw [e2]
        simp only [Option.bind_some]
        unfold bodyF
        by_cases hb : 12000 < (bytesP m).length
        · simp [hb]
        · simp only [hb, decide_false, cond_false, if_false]
          cases bodyP 0 m.Body <;> rfl
  · unfold R_MessageFault_l1; rw [dec_len]; rfl
  · intro i f hf
    have hi := lt_get hf
    obtain ⟨hn, hv⟩ := h3 f (List.mem_of_getElem? hf)
    unfold R_MessageFault_l1 fieldQ
    rw [dec_lt hf, idx_get hf]
    simp only [cond_true, Option.bind_some, R_FieldCode_eq _ hn hv, R_At_eq, sc i (by omega)]
    cases codeP f != 0 <;> rfl
end Go.Proofs.YtfhfjckjmacekaaGreat

/- Envelopes by domains: the plain functions, and what the typed functions compute. -/
namespace Go.Proofs.YtfhfjckjmacekaaGreat
open Go.RowKit
set_option linter.unusedVariables false
set_option maxHeartbeats 1000000

instance : DecidableEq TRecipient := fun a b => decidable_of_iff (a.Address = b.Address ∧ a.Notify = b.Notify) (by cases a; cases b; simp)
instance : DecidableEq TFault := fun a b => decidable_of_iff (a.Code = b.Code ∧ a.Index = b.Index) (by cases a; cases b; simp)
instance : DecidableEq TEnvelope := fun a b => decidable_of_iff (a.From = b.From ∧ a.To = b.To ∧ a.Id = b.Id) (by cases a; cases b; simp)
theorem rec_eq (a b : TRecipient) : allEq [(a.Address == b.Address), (a.Notify == b.Notify)] = (a == b) := by
  cases a; cases b
  rw [Bool.eq_iff_iff]
  simp [allEq]
theorem R_SameRecipients_eq (a b : List TRecipient) (ha : a.length ≤ 1048576) : R_SameRecipients a b = some (a == b) := by
  unfold R_SameRecipients
  by_cases hlen : a.length = b.length
  · have h1 : ((a.length : Int) != (b.length : Int)) = false := by rw [hlen]; simp
    rw [h1]
    simp only [cond_false]
    rw [iter_first a (fun i x => if b[i]? != some x then some false else none) (.inl ()) .inr]
    · simp only [Option.bind_some]
      cases hf : firstI (fun i x => if b[i]? != some x then some false else none) 0 a with
      | none =>
        rw [firstI_none] at hf
        have : a = b := by
          apply List.ext_getElem?
          intro i
          by_cases hi : i < a.length
          · have := hf i a[i] (List.getElem?_eq_getElem hi)
            rw [Nat.zero_add] at this
            rw [List.getElem?_eq_getElem hi]
            simp at this; exact this.symm
          · rw [List.getElem?_eq_none (by omega), List.getElem?_eq_none (by omega)]
        subst this; simp
      | some r =>
        obtain ⟨i, x, hx, hq⟩ := firstI_some hf
        rw [Nat.zero_add] at hq
        split at hq
        · cases hq
          rename_i hne
          have : (a == b) = false := by
            rw [beq_eq_false_iff_ne]
            rintro rfl
            rw [hx] at hne; simp at hne
          rw [this]; rfl
        · cases hq
    · unfold R_SameRecipients_l1; rw [dec_len]; rfl
    · intro i x hx
      have hi := lt_get hx
      unfold R_SameRecipients_l1
      have hib : i < b.length := by omega
      rw [dec_lt hx, idx_get hx, idx_lt hib, List.getElem?_eq_getElem hib]
      simp only [cond_true, Option.bind_some, sc i (by omega), rec_eq]
      by_cases hxb : x = b[i]
      · subst hxb; simp
      · have e1 : (x == b[i]) = false := by simpa using hxb
        have e2 : (some b[i] != some x) = true := by simp; exact fun h => hxb h.symm
        rw [e1, e2]; rfl
  · have h1 : ((a.length : Int) != (b.length : Int)) = true := by simp; omega
    rw [h1]
    simp only [cond_true]
    have : (a == b) = false := by rw [beq_eq_false_iff_ne]; rintro rfl; exact hlen rfl
    rw [this]
def domOf (s : Str) : Str := if atP s < s.length then s.drop (atP s + 1) else []
theorem splitP_dom (s : Str) : (splitP s).2.1 = domOf s := by
  unfold splitP domOf
  by_cases h : atP s < s.length
  · rw [if_pos h, if_pos h]
  · rw [if_neg h, if_neg h]
theorem R_DomainOf_eq (s : Str) (hs : s.length ≤ 1048576) : R_DomainOf s = some (domOf s) := by
  unfold R_DomainOf domOf
  rw [R_sign_eq s (by omega)]
  have hle : atP s ≤ s.length := List.findIdx_le_length
  simp only [Option.bind_some]
  by_cases h : atP s < s.length
  · have e : (((atP s : Nat) : Int) == (s.length : Int)) = false := by rw [beq_eq_false_iff_ne]; omega
    rw [e, if_pos h, sc _ (by omega)]
    simp only [cond_false]
    rw [cut_nl (by omega)]; rfl
  · have e : (((atP s : Nat) : Int) == (s.length : Int)) = true := by rw [beq_iff_eq]; omega
    rw [e, if_neg h]; rfl
theorem slices_Contains_eq (l : List Str) (s : Str) (hl : l.length ≤ 1048576) : slices_Contains_string_string l s = some (l.contains s) := by
  unfold slices_Contains_string_string slices_Index_string_string
  rw [iter_first l (fun i x => if x == s then some ((i : Nat) : Int) else none) (.inl ()) .inr]
  · simp only [Option.bind_some, elim_idx, first_idx (fun x => x == s) l 0]
    congr 1
    rw [Bool.eq_iff_iff]; simp
  · unfold slices_Index_string_string_l1; rw [dec_len]; rfl
  · intro i x hx
    have hi := lt_get hx
    unfold slices_Index_string_string_l1
    rw [dec_lt hx, idx_get hx]
    have e : (s == x) = (x == s) := by rw [Bool.eq_iff_iff]; simp; exact ⟨fun h => h.symm, fun h => h.symm⟩
    simp only [cond_true, Option.bind_some, sc i (by omega), e]
    cases x == s <;> rfl
def addD (acc : List Str) (r : TRecipient) : List Str := if acc.contains (domOf r.Address) then acc else acc ++ [domOf r.Address]
def domsP (l : List TRecipient) : List Str := l.foldl addD []
def domsE (e : TEnvelope) : List Str × TFault := if (envF e).Code != 0 then ([], envF e) else (domsP e.To, ⟨0, 0⟩)
theorem addD_len (acc : List Str) (r : TRecipient) : (addD acc r).length ≤ acc.length + 1 := by unfold addD; split <;> simp
theorem envelope_Domains_eq (e : TEnvelope) (h : smallE e) : envelope_Domains e = some (domsE e) := by
  unfold envelope_Domains domsE
  rw [envelope_Validate_eq e h]
  simp only [Option.bind_some, basic_Failed_eq, basic_None_eq]
  obtain ⟨_, _, h3, h4⟩ := h
  cases (envF e).Code != 0 with
  | true => rfl
  | false =>
    simp only [cond_false, Bool.false_eq_true, if_false]
    have := (iter_fold e.To (fun i acc => (i, acc)) addD (fun acc => acc) (fun i acc => acc.length ≤ i) (body := envelope_Domains_l1 e) (fun s hs => by unfold envelope_Domains_l1; simp [dec_len]) (fun i r acc hr hi => by
      have hlt := lt_get hr
      have ha := h4 r (List.mem_of_getElem? hr)
      refine ⟨?_, Nat.le_trans (addD_len acc r) (by omega)⟩
      unfold envelope_Domains_l1
      dsimp only
      rw [dec_lt hr, idx_get hr]
      simp only [cond_true, Option.bind_some, envelope_Split_eq _ (show r.Address.length < 4294967281 by omega), splitP_dom, slices_Contains_eq acc _ (by omega), sc i (by omega)]
      unfold addD
      cases acc.contains (domOf r.Address) with
      | true => rfl
      | false => simp only [Bool.not_false, cond_true, Bool.false_eq_true, if_false]; rw [app_ok (by simp; omega)]; rfl) ([] : List Str) (by simp)).1
    rw [this]; rfl
def inDom (d : Str) (r : TRecipient) : Bool := domOf r.Address == d
def forE (e : TEnvelope) (d : Str) : TEnvelope × TFault :=
  if (envF e).Code != 0 then (⟨[], [], []⟩, envF e) else if e.To.filter (inDom d) = [] then (⟨[], [], []⟩, ⟨6, -13⟩) else (⟨e.From, e.To.filter (inDom d), e.Id⟩, ⟨0, 0⟩)
theorem clr0_take {α : Type} (l : List α) (i : Nat) (z : α) (h : i ≤ l.length) : (clr0 l i z).take i = l.take i := by
  unfold clr0; simp [List.take_append, h]
theorem envelope_For_eq (e : TEnvelope) (d : Str) (h : smallE e) : envelope_For e d = some (forE e d) := by
  unfold envelope_For forE
  rw [envelope_Validate_eq e h]
  simp only [Option.bind_some, basic_Failed_eq, basic_None_eq, basic_Fault_eq]
  obtain ⟨_, _, h3, h4⟩ := h
  cases (envF e).Code != 0 with
  | true => rfl
  | false =>
    simp only [cond_false, Bool.false_eq_true, if_false]
    rw [app_ok (by simp; omega)]
    simp only [List.nil_append, Option.bind_some]
    rw [nilE_same _ _ _ (fun he => by rw [List.isEmpty_iff.1 he])]
    simp only [Option.bind_some]
    have hl1 : iter (envelope_For_l1 d e.To) 0 = some ((firstI (fun i x => if !inDom d x then some ((i : Nat) : Int) else none) 0 e.To).elim (.inl ()) .inr) := by
      refine iter_first e.To _ (Sum.inl ()) Sum.inr ?_ ?_
      · unfold envelope_For_l1; rw [dec_len]; rfl
      · intro i r hr
        have hlt := lt_get hr
        have ha := h4 r (List.mem_of_getElem? hr)
        unfold envelope_For_l1
        rw [dec_lt hr, idx_get hr]
        simp only [cond_true, Option.bind_some, envelope_Split_eq _ (show r.Address.length < 4294967281 by omega), splitP_dom, sc i (by omega)]
        unfold inDom bne
        cases domOf r.Address == d <;> rfl
    rw [hl1]
    simp only [Option.bind_some, elim_idx]
    have key : ∀ X : Option (List TRecipient), X = some (e.To.filter (inDom d)) → (X.bind fun j10 => bif ((j10.length : Int) == 0) then some ((⟨[], [], []⟩ : TEnvelope), (⟨6, -13⟩ : TFault)) else some (⟨e.From, j10, e.Id⟩, ⟨0, 0⟩)) = some (if e.To.filter (inDom d) = [] then (⟨[], [], []⟩, ⟨6, -13⟩) else (⟨e.From, e.To.filter (inDom d), e.Id⟩, ⟨0, 0⟩)) := by
      rintro _ rfl
      simp only [Option.bind_some]
      by_cases hn : e.To.filter (inDom d) = []
      · rw [hn]; simp
      · have : (((e.To.filter (inDom d)).length : Int) == 0) = false := by
          rw [beq_eq_false_iff_ne]
          have := List.length_pos_iff.2 hn
          omega
        rw [this, if_neg hn]; rfl
    refine key _ ?_
    cases hf : firstI (fun i x => if !inDom d x then some ((i : Nat) : Int) else none) 0 e.To with
    | none =>
      rw [firstI_none] at hf
      have hall : e.To.filter (inDom d) = e.To := by
        rw [List.filter_eq_self]
        intro x hx
        obtain ⟨i, hi⟩ := List.mem_iff_getElem?.1 hx
        have := hf i x hi
        cases hq : inDom d x with
        | true => rfl
        | false => rw [hq] at this; simp at this
      rw [hall]; rfl
    | some j =>
      obtain ⟨j, rfl, x, hx, hxq, hbefore⟩ : ∃ n : Nat, j = (n : Int) ∧ ∃ x, e.To[n]? = some x ∧ inDom d x = false ∧ ∀ y ∈ e.To.take n, inDom d y = true := by
        have aux : ∀ (r : List TRecipient) (n : Nat) (j : Int), firstI (fun i x => if !inDom d x then some ((i : Nat) : Int) else none) n r = some j → ∃ m : Nat, j = ((n + m : Nat) : Int) ∧ ∃ x, r[m]? = some x ∧ inDom d x = false ∧ ∀ y ∈ r.take m, inDom d y = true := by
          intro r
          induction r with
          | nil => intro n j hj; cases hj
          | cons y r ih =>
            intro n j hj
            unfold firstI at hj
            cases hy : inDom d y with
            | false => rw [hy] at hj; simp at hj; exact ⟨0, by omega, y, rfl, hy, by simp⟩
            | true =>
              rw [hy] at hj
              simp only [Bool.not_true, Bool.false_eq_true, if_false] at hj
              obtain ⟨m, h1, x, h2, h3, h4⟩ := ih (n + 1) j hj
              refine ⟨m + 1, by omega, x, by simpa using h2, h3, fun z hz => ?_⟩
              rw [List.take_succ_cons] at hz
              rcases List.mem_cons.1 hz with rfl | hz
              · exact hy
              · exact h4 z hz
        obtain ⟨m, h1, h2⟩ := aux e.To 0 j hf
        exact ⟨m, by omega, h2⟩
      have hjl := lt_get hx
      have hne : (((j : Nat) : Int) == -1) = false := by rw [beq_eq_false_iff_ne]; omega
      simp only [Option.getD_some, hne, cond_false, sc j (by omega)]
      obtain ⟨L', q1, q2, q3⟩ := down_loop (fun r => !inDom d r) e.To (fun r => r.Address.length ≤ 1048576) (body := envelope_For_l2 d) (fun i L hL => by unfold envelope_For_l2; simp [hL, dec_len]) (fun i k L r hL hr hik ha => by
        have hlt := lt_get hr
        have hil : i < L.length := by omega
        unfold envelope_For_l2
        dsimp only
        rw [dec_lt hr, idx_get hr, idx_lt hil]
        simp only [cond_true, Option.bind_some, envelope_Split_eq _ (show r.Address.length < 4294967281 by omega), splitP_dom, sc i (by omega), sc k (by omega)]
        unfold inDom bne
        cases domOf r.Address == d <;> rfl) (e.To.drop (j + 1)) j (j + 1) e.To rfl rfl (by omega) (by omega) h4
      have e9 : (fun r => !!inDom d r) = inDom d := by funext r; simp
      rw [e9] at q1 q3
      rw [q1]
      simp only [Option.bind_some]
      have hfil : e.To.filter (inDom d) = e.To.take j ++ (e.To.drop (j + 1)).filter (inDom d) := by
        conv => lhs; rw [← List.take_append_drop j e.To, List.filter_append]
        have h5 : (e.To.take j).filter (inDom d) = e.To.take j := List.filter_eq_self.2 hbefore
        have h6 : e.To.drop j = x :: e.To.drop (j + 1) := by
          rw [List.drop_eq_getElem_cons hjl]
          congr 1
          rw [List.getElem?_eq_getElem hjl] at hx
          exact Option.some.inj hx
        rw [h5, h6, List.filter_cons, hxq]; simp
      have hlen : j + ((e.To.drop (j + 1)).filter (inDom d)).length ≤ L'.length := by
        rw [q2]
        have := List.length_filter_le (inDom d) (e.To.drop (j + 1))
        simp at this; omega
      rw [cut_nl hlen]
      simp only [Option.bind_some, Int.toNat_natCast]
      rw [cut_0n (by unfold clr0; simp; omega), clr0_take _ _ _ hlen, q3, hfil]; rfl
end Go.Proofs.YtfhfjckjmacekaaGreat

/- The union of recipients: the plain functions, and what the typed functions compute. -/
namespace Go.Proofs.YtfhfjckjmacekaaGreat
open Go.RowKit
set_option linter.unusedVariables false
set_option maxHeartbeats 1000000

/-! ### conditions -/
def eithS (a b : Int) (s : Int × Int) : Int × Int := (bif (iRem (iQuo a s.2) 2 == 1 || iRem (iQuo b s.2) 2 == 1) then w64 (s.1 + s.2) else s.1, w64 (2 * s.2))
def eithP (a b : Int) : Int := (eithS a b (eithS a b (eithS a b (0, 1)))).1
theorem eith_step (a b n k : Int) (hk : k ≤ 4) (h0 : (k == 0) = false) : R_Either_l1 a b (n, k) = some (.cont (eithS a b (n, k))) := by
  unfold R_Either_l1 eithS
  have h1 : decide (k ≤ 4) = true := by simp; exact hk
  have h2 : nz k = some true := by unfold nz; rw [h0]; rfl
  dsimp only
  rw [h1, h2]
  simp only [cond_true, Option.bind_some]
  cases iRem (iQuo a k) 2 == 1 <;> cases iRem (iQuo b k) 2 == 1 <;> rfl
theorem R_Either_eq (a b : Int) : R_Either a b = some (eithP a b) := by
  unfold R_Either
  have e1 : (eithS a b (0, 1)).2 = 2 := show w64 (2 * 1) = 2 by decide
  have e2 : ∀ n, (eithS a b (n, 2)).2 = 4 := fun n => show w64 (2 * 2) = 4 by decide
  have e3 : ∀ n, (eithS a b (n, 4)).2 = 8 := fun n => show w64 (2 * 4) = 8 by decide
  rw [iter_cont (eith_step a b 0 1 (by decide) (by decide))]
  have f1 : eithS a b (0, 1) = ((eithS a b (0, 1)).1, 2) := Prod.ext rfl e1
  rw [f1, iter_cont (eith_step a b _ 2 (by decide) (by decide))]
  have f2 : ∀ n, eithS a b (n, 2) = ((eithS a b (n, 2)).1, 4) := fun n => Prod.ext rfl (e2 n)
  rw [f2, iter_cont (eith_step a b _ 4 (by decide) (by decide))]
  have f3 : ∀ n, eithS a b (n, 4) = ((eithS a b (n, 4)).1, 8) := fun n => Prod.ext rfl (e3 n)
  rw [f3]
  have hlast : ∀ n : Int, R_Either_l1 a b (n, 8) = some (.out n) := by intro n; unfold R_Either_l1; rfl
  rw [iter_out (hlast _)]
  unfold eithP
  rw [f1, f2]; rfl
theorem eith_small : ∀ a b : Fin 8, eithP (a.val : Int) (b.val : Int) = iOr (a.val : Int) (b.val : Int) ∧ noteP (eithP (a.val : Int) (b.val : Int)) = true := by decide +kernel
theorem note_fin {n : Int} (h : noteP n = true) : ∃ a : Fin 8, n = (a.val : Int) := by
  unfold noteP at h
  simp at h
  exact ⟨⟨n.toNat, by omega⟩, by simp; omega⟩
theorem eith_or {a b : Int} (ha : noteP a = true) (hb : noteP b = true) : eithP a b = iOr a b ∧ noteP (iOr a b) = true := by
  obtain ⟨x, rfl⟩ := note_fin ha
  obtain ⟨y, rfl⟩ := note_fin hb
  obtain ⟨h1, h2⟩ := eith_small x y
  exact ⟨h1, h1 ▸ h2⟩

/-! ### one recipient for each address -/
def orL (n : Int) (l : List TRecipient) : Int := l.foldl (fun n r => iOr n r.Notify) n
def sameA (s : Str) (r : TRecipient) : Bool := r.Address == s
/-- one for each address, as the first of them stands -/
def mergeP : Nat → List TRecipient → List TRecipient
  | 0, _ => []
  | _, [] => []
  | n + 1, r :: t => ⟨r.Address, orL r.Notify (t.filter (sameA r.Address))⟩ :: mergeP n (t.filter fun x => !sameA r.Address x)
theorem mergeP_enough : ∀ (n m : Nat) (l : List TRecipient), l.length ≤ n → l.length ≤ m → mergeP n l = mergeP m l := by
  intro n
  induction n with
  | zero => intro m l h1 h2; have : l = [] := List.length_eq_zero_iff.1 (by omega); subst this; cases m <;> rfl
  | succ n ih =>
    intro m l h1 h2
    cases l with
    | nil => cases m <;> rfl
    | cons r t =>
      cases m with
      | zero => simp at h2
      | succ m =>
        unfold mergeP
        congr 1
        have := List.length_filter_le (fun x => !sameA r.Address x) t
        simp at h1 h2
        exact ih m _ (by omega) (by omega)
def merged (l : List TRecipient) : List TRecipient := mergeP l.length l
theorem merged_cons (r : TRecipient) (t : List TRecipient) : merged (r :: t) = ⟨r.Address, orL r.Notify (t.filter (sameA r.Address))⟩ :: merged (t.filter fun x => !sameA r.Address x) := by
  unfold merged
  rw [List.length_cons, mergeP]
  congr 1
  have := List.length_filter_le (fun x => !sameA r.Address x) t
  exact mergeP_enough _ _ _ this (Nat.le_refl _)
def hasA (out : List TRecipient) (s : Str) : Bool := out.any (sameA s)
def putR (out : List TRecipient) (r : TRecipient) : List TRecipient := if hasA out r.Address then out.map (fun x => if sameA r.Address x then ⟨x.Address, iOr x.Notify r.Notify⟩ else x) else out ++ [r]
theorem put_merged : ∀ (l out : List TRecipient), l.foldl putR out = out.map (fun x => ⟨x.Address, orL x.Notify (l.filter (sameA x.Address))⟩) ++ merged (l.filter fun x => !hasA out x.Address) := by
  intro l
  induction l with
  | nil => intro out; simp [orL, merged, mergeP]
  | cons r t ih =>
    intro out
    rw [List.foldl_cons, ih]
    unfold putR
    cases hh : hasA out r.Address with
    | true =>
      simp only [if_true, List.map_map]
      have hs : ∀ s, hasA (out.map fun x => if sameA r.Address x then (⟨x.Address, iOr x.Notify r.Notify⟩ : TRecipient) else x) s = hasA out s := by
        intro s
        unfold hasA
        rw [List.any_map]
        congr 1
        funext x
        show sameA s (if sameA r.Address x then _ else x) = sameA s x
        by_cases hq : sameA r.Address x = true
        · rw [if_pos hq]; rfl
        · rw [if_neg hq]
      have h1 : (r :: t).filter (fun x => !hasA out x.Address) = t.filter fun x => !hasA out x.Address := by rw [List.filter_cons, hh]; rfl
      rw [h1]
      simp only [hs]
      congr 1
      apply List.map_congr_left
      intro x hx
      simp only [Function.comp]
      by_cases hr : sameA r.Address x = true
      · rw [if_pos hr]
        have : r.Address = x.Address := by simpa [sameA] using (beq_iff_eq.1 hr).symm
        have h2 : (r :: t).filter (sameA x.Address) = r :: t.filter (sameA x.Address) := by
          rw [List.filter_cons]; simp [sameA, this]
        rw [h2]; rfl
      · rw [if_neg hr]
        have h2 : (r :: t).filter (sameA x.Address) = t.filter (sameA x.Address) := by
          rw [List.filter_cons]
          have : sameA x.Address r = false := by
            rw [Bool.eq_false_iff]; intro h; exact hr (by simp [sameA] at h ⊢; exact h.symm)
          rw [this]; rfl
        rw [h2]
    | false =>
      simp only [Bool.false_eq_true, if_false, List.map_append, List.map_cons, List.map_nil, List.append_assoc]
      have h1 : (r :: t).filter (fun x => !hasA out x.Address) = r :: t.filter fun x => !hasA out x.Address := by rw [List.filter_cons, hh]; rfl
      rw [h1, merged_cons]
      have hno : ∀ x ∈ out, sameA x.Address r = false := by
        intro x hx
        unfold hasA at hh
        rw [List.any_eq_false] at hh
        have := hh x hx
        rw [Bool.eq_false_iff]
        intro h
        exact this (by simp [sameA] at h ⊢; exact h.symm)
      congr 1
      · apply List.map_congr_left
        intro x hx
        rw [List.filter_cons, hno x hx]; rfl
      · have h3 : (t.filter fun x => !hasA out x.Address).filter (sameA r.Address) = t.filter (sameA r.Address) := by
          rw [List.filter_filter]
          apply List.filter_congr
          intro x hx
          by_cases hs : sameA r.Address x = true
          · have : x.Address = r.Address := by simpa [sameA] using hs
            rw [hs, this, hh]; rfl
          · rw [Bool.not_eq_true] at hs; rw [hs]; rfl
        have h4 : (t.filter fun x => !hasA out x.Address).filter (fun x => !sameA r.Address x) = t.filter fun x => !hasA (out ++ [r]) x.Address := by
          rw [List.filter_filter]
          apply List.filter_congr
          intro x hx
          unfold hasA
          rw [List.any_append]
          simp only [List.any_cons, List.any_nil, Bool.or_false, Bool.not_or]
          have : sameA x.Address r = sameA r.Address x := by unfold sameA; rw [Bool.eq_iff_iff]; simp; exact ⟨fun h => h.symm, fun h => h.symm⟩
          rw [this, Bool.and_comm]
        rw [h3, h4]; rfl
theorem put_all (l : List TRecipient) : l.foldl putR [] = merged l := by
  rw [put_merged]
  have : l.filter (fun x => !hasA [] x.Address) = l := List.filter_eq_self.2 (fun x _ => by simp [hasA])
  rw [this]; rfl
/-- the same by the reference's way -/
def refM : List TRecipient → List TRecipient → List TRecipient
  | out, [] => out
  | out, r :: t => refM (if hasA out r.Address then out else out ++ [⟨r.Address, orL r.Notify (t.filter (sameA r.Address))⟩]) t
theorem refM_eq : ∀ (l out : List TRecipient), refM out l = out ++ merged (l.filter fun x => !hasA out x.Address) := by
  intro l
  induction l with
  | nil => intro out; simp [refM, merged, mergeP]
  | cons r t ih =>
    intro out
    unfold refM
    rw [ih]
    cases hh : hasA out r.Address with
    | true =>
      simp only [if_true]
      rw [List.filter_cons, hh]; rfl
    | false =>
      simp only [Bool.false_eq_true, if_false]
      have h1 : (r :: t).filter (fun x => !hasA out x.Address) = r :: t.filter fun x => !hasA out x.Address := by rw [List.filter_cons, hh]; rfl
      rw [h1, merged_cons, List.append_assoc]
      have h3 : (t.filter fun x => !hasA out x.Address).filter (sameA r.Address) = t.filter (sameA r.Address) := by
        rw [List.filter_filter]
        apply List.filter_congr
        intro x hx
        by_cases hs : sameA r.Address x = true
        · have : x.Address = r.Address := by simpa [sameA] using hs
          rw [hs, this, hh]; rfl
        · rw [Bool.not_eq_true] at hs; rw [hs]; rfl
      have h4 : (t.filter fun x => !hasA out x.Address).filter (fun x => !sameA r.Address x) = t.filter fun x => !hasA (out ++ [⟨r.Address, orL r.Notify (t.filter (sameA r.Address))⟩]) x.Address := by
        rw [List.filter_filter]
        apply List.filter_congr
        intro x hx
        unfold hasA
        rw [List.any_append]
        simp only [List.any_cons, List.any_nil, Bool.or_false, Bool.not_or]
        have : sameA x.Address (⟨r.Address, orL r.Notify (t.filter (sameA r.Address))⟩ : TRecipient) = sameA r.Address x := by unfold sameA; rw [Bool.eq_iff_iff]; simp; exact ⟨fun h => h.symm, fun h => h.symm⟩
        rw [this, Bool.and_comm]
      rw [h3, h4]; rfl
theorem refM_all (l : List TRecipient) : refM [] l = merged l := by
  rw [refM_eq]
  have : l.filter (fun x => !hasA [] x.Address) = l := List.filter_eq_self.2 (fun x _ => by simp [hasA])
  rw [this]; rfl
theorem orL_filter (s : Str) : ∀ (l : List TRecipient) (n : Int), noteP n = true → (∀ r ∈ l, noteP r.Notify = true) → l.foldl (fun n r => if r.Address == s then eithP n r.Notify else n) n = orL n (l.filter (sameA s)) := by
  intro l
  induction l with
  | nil => intro n _ _; rfl
  | cons r t ih =>
    intro n hn h
    have hr := h r (by simp)
    obtain ⟨e1, e2⟩ := eith_or hn hr
    rw [List.foldl_cons, List.filter_cons]
    unfold sameA
    by_cases hs : (r.Address == s) = true
    · rw [if_pos hs, if_pos hs, ih _ (by rw [e1]; exact e2) (fun x hx => h x (by simp [hx])), e1]; rfl
    · rw [if_neg hs, if_neg hs, ih _ hn (fun x hx => h x (by simp [hx]))]; rfl
end Go.Proofs.YtfhfjckjmacekaaGreat

/- The union of recipients: what the typed functions compute; the closed example. -/
namespace Go.Proofs.YtfhfjckjmacekaaGreat
open Go.RowKit
set_option linter.unusedVariables false
set_option maxHeartbeats 1000000

def mq (i : Nat) (r : TRecipient) : Option TFault := if !addrP r.Address then some ⟨10, i⟩ else if !noteP r.Notify then some ⟨3, i⟩ else none
def mergeE (l : List TRecipient) : List TRecipient × TFault := if 300 < l.length then ([], ⟨2, -1⟩) else match firstI mq 0 l with | some f => ([], f) | none => (merged l, ⟨0, 0⟩)
theorem firstI_cons {α R : Type} (q : Nat → α → Option R) (i : Nat) (x : α) (r : List α) : firstI q i (x :: r) = match q i x with | some y => some y | none => firstI q (i + 1) r := rfl
def posA (out : List TRecipient) (s : Str) : Option Nat := out.findIdx? (sameA s)
theorem posA_has (out : List TRecipient) (s : Str) : (posA out s).isSome = hasA out s := by unfold posA hasA; exact List.findIdx?_isSome
theorem posA_app (out : List TRecipient) (r : TRecipient) (s : Str) (h : hasA out r.Address = false) : posA (out ++ [r]) s = if r.Address == s then some out.length else posA out s := by
  unfold posA
  rw [List.findIdx?_append]
  by_cases hs : (r.Address == s) = true
  · rw [if_pos hs]
    have e : r.Address = s := beq_iff_eq.1 hs
    subst e
    have : out.findIdx? (sameA r.Address) = none := by
      have := posA_has out r.Address
      rw [h] at this
      unfold posA at this
      simpa using this
    rw [this]
    simp [sameA]
  · rw [if_neg hs]
    have : sameA s r = false := by unfold sameA; simpa using hs
    simp [List.findIdx?_cons, this]
theorem posA_map (out : List TRecipient) (f : TRecipient → TRecipient) (hf : ∀ x, (f x).Address = x.Address) (s : Str) : posA (out.map f) s = posA out s := by
  unfold posA
  rw [List.findIdx?_map]
  congr 1
  funext x
  simp [Function.comp, sameA, hf]
theorem posA_get : ∀ (out : List TRecipient) (s : Str) (k : Nat), posA out s = some k → ∃ x, out[k]? = some x ∧ x.Address = s := by
  intro out s k h
  unfold posA at h
  rw [List.findIdx?_eq_some_iff_getElem] at h
  obtain ⟨h1, h2, _⟩ := h
  exact ⟨out[k], List.getElem?_eq_getElem h1, by simpa [sameA] using h2⟩
theorem set_map (s : Str) (f : TRecipient → TRecipient) : ∀ (out : List TRecipient) (k : Nat) (x : TRecipient), (out.map (·.Address)).Nodup → posA out s = some k → out[k]? = some x → out.set k (f x) = out.map (fun y => if sameA s y then f y else y) := by
  intro out
  induction out with
  | nil => intro k x _ h; simp [posA] at h
  | cons y out ih =>
    intro k x hn hp hk
    rw [List.map_cons, List.nodup_cons] at hn
    unfold posA at hp
    rw [List.findIdx?_cons] at hp
    by_cases hy : sameA s y = true
    · rw [if_pos hy] at hp
      cases hp
      simp at hk; subst hk
      rw [List.set_cons_zero, List.map_cons, if_pos hy]
      congr 1
      symm
      rw [List.map_congr_left (g := id)]
      · simp
      · intro z hz
        have : ¬ sameA s z = true := by
          intro h
          have e1 : y.Address = s := by simpa [sameA] using hy
          have e2 : z.Address = s := by simpa [sameA] using h
          exact hn.1 (by rw [e1, ← e2]; exact List.mem_map_of_mem hz)
        rw [if_neg this]; rfl
    · rw [if_neg hy] at hp
      cases hq : out.findIdx? (sameA s) with
      | none => rw [hq] at hp; simp at hp
      | some k' =>
        rw [hq] at hp
        simp at hp
        subst hp
        rw [List.set_cons_succ, List.map_cons, if_neg hy, ih k' x hn.2 hq (by simpa using hk)]
structure MInv (i : Nat) (out : List TRecipient) (m : List (Str × Int)) : Prop where
  len : out.length ≤ i
  nd : (out.map (·.Address)).Nodup
  mp : ∀ s, mget m s = (posA out s).map fun k => ((k : Nat) : Int)
theorem MInv.put {i : Nat} {out : List TRecipient} {m : List (Str × Int)} (h : MInv i out m) (r : TRecipient) : MInv (i + 1) (putR out r) (if hasA out r.Address then m else mput m r.Address (out.length : Int)) := by
  unfold putR
  cases hh : hasA out r.Address with
  | true =>
    simp only [if_true]
    have hf : ∀ x : TRecipient, (if sameA r.Address x then (⟨x.Address, iOr x.Notify r.Notify⟩ : TRecipient) else x).Address = x.Address := by intro x; split <;> rfl
    refine ⟨by simp; have := h.len; omega, ?_, fun s => ?_⟩
    · rw [List.map_map, show ((·.Address) ∘ fun x : TRecipient => if sameA r.Address x then (⟨x.Address, iOr x.Notify r.Notify⟩ : TRecipient) else x) = (·.Address) from funext hf]; exact h.nd
    · rw [posA_map _ _ hf]; exact h.mp s
  | false =>
    simp only [Bool.false_eq_true, if_false]
    refine ⟨by simp; exact h.len, ?_, fun s => ?_⟩
    · rw [List.map_append, List.nodup_append]
      refine ⟨h.nd, by simp, ?_⟩
      intro a ha b hb
      simp at hb; subst hb
      rintro rfl
      obtain ⟨x, hx, hxe⟩ := List.mem_map.1 ha
      unfold hasA at hh
      rw [List.any_eq_false] at hh
      exact hh x hx (by simp [sameA, hxe])
    · rw [mget_mputG, posA_app _ _ _ hh, h.mp s]
      by_cases hs : (r.Address == s) = true
      · rw [if_pos hs, if_pos hs]; rfl
      · rw [if_neg hs, if_neg hs]
theorem envelope_Merge_eq (l : List TRecipient) (h : smallR l) : envelope_Merge l = some (mergeE l) := by
  obtain ⟨h3, h4⟩ := h
  unfold envelope_Merge mergeE
  by_cases h300 : 300 < l.length
  · have : decide ((300 : Int) < (l.length : Int)) = true := by simp; omega
    rw [this, if_pos h300]; rfl
  · have : decide ((300 : Int) < (l.length : Int)) = false := by simp; omega
    rw [this, if_neg h300]
    simp only [cond_false]
    rw [iter_listI (body := envelope_Merge_l1 l) (s0 := ((0 : Int), ([] : List TRecipient), ([] : List (Str × Int)))) (S := List TRecipient × List (Str × Int)) l (fun i s => ((i : Int), s.1, s.2)) (fun i r s => match firstI mq i r with | some f => Sum.inr ([], f) | none => Sum.inl (r.foldl putR s.1)) (fun i r s => MInv i s.1 s.2)
      (fun s hi => by unfold envelope_Merge_l1; simp [dec_len, firstI])
      (fun p x r s hl hi => by
        have hx : l[p.length]? = some x := by rw [hl]; simp
        have hlt := lt_get hx
        have ha := h4 x (List.mem_of_getElem? hx)
        have hil := hi.len
        have hmp := hi.mp x.Address
        have hq0 : mq p.length x = if !addrP x.Address then some ⟨10, (p.length : Int)⟩ else if !noteP x.Notify then some ⟨3, (p.length : Int)⟩ else none := rfl
        rw [firstI_cons, hq0]
        unfold envelope_Merge_l1
        dsimp only
        rw [dec_lt hx, idx_get hx]
        simp only [cond_true, Option.bind_some, envelope_Address_eq _ (show x.Address.length < 4294967281 by omega), envelope_Notify_eq, basic_Fault_eq]
        cases hA : addrP x.Address with
        | false => left; rfl
        | true =>
          cases hN : noteP x.Notify with
          | false => left; rfl
          | true =>
            right
            simp only [Bool.not_true, cond_false, Bool.false_eq_true, if_false]
            refine ⟨(putR s.1 x, if hasA s.1 x.Address then s.2 else mput s.2 x.Address (s.1.length : Int)), ?_, rfl, hi.put x⟩
            unfold envelope_Merge_k2
            rw [hmp]
            cases hp : posA s.1 x.Address with
            | some k =>
              obtain ⟨y, hy, hya⟩ := posA_get _ _ _ hp
              have hh : hasA s.1 x.Address = true := by rw [← posA_has, hp]; rfl
              simp only [Option.map_some, Option.isSome_some, cond_true, Option.getD_some, idx_get hy, Option.bind_some, Int.toNat_natCast, sc p.length (by omega), hh, if_true]
              unfold putR
              rw [hh, if_pos rfl, set_map x.Address (fun y => ⟨y.Address, iOr y.Notify x.Notify⟩) s.1 k y hi.nd hp hy]
            | none =>
              have hh : hasA s.1 x.Address = false := by rw [← posA_has, hp]; rfl
              simp only [Option.map_none, Option.isSome_none, cond_false, hh, Bool.false_eq_true, if_false]
              rw [app_ok (by simp; omega)]
              simp only [Option.bind_some, sc p.length (by omega)]
              unfold putR
              rw [hh]; rfl) ([], []) rfl ⟨Nat.le_refl _, by simp, fun s => rfl⟩]
    simp only [Option.bind_some, basic_None_eq, put_all]
    cases firstI mq 0 l with
    | some f => rfl
    | none => rfl
theorem R_Merged_eq (l : List TRecipient) (h : l.length ≤ 1048576) (hn : ∀ r ∈ l, noteP r.Notify = true) : R_Merged l = some (merged l) := by
  unfold R_Merged
  rw [iter_listI (body := R_Merged_l1 l) (s0 := ((0 : Int), ([] : List TRecipient))) (S := List TRecipient) l (fun i s => ((i : Int), s)) (fun i r s => refM s r) (fun i r s => s.length ≤ i)
    (fun s hi => by unfold R_Merged_l1; simp [dec_len, refM])
    (fun p x r s hl hi => by
      have hx : l[p.length]? = some x := by rw [hl]; simp
      have hlt := lt_get hx
      have hnx := hn x (List.mem_of_getElem? hx)
      right
      refine ⟨_, ?_, rfl, ?_⟩
      · unfold R_Merged_l1
        dsimp only
        rw [dec_lt hx, idx_get hx]
        simp only [cond_true, Option.bind_some, R_Known_eq _ _ (show s.length ≤ 1048576 by omega), sc p.length (by omega)]
        have hk : decide ((0 : Int) ≤ (firstI (fun i y => if y.Address == x.Address then some ((i : Nat) : Int) else none) 0 s).getD (-1)) = hasA s x.Address := first_idx (fun y => y.Address == x.Address) s 0
        rw [hk]
        cases hh : hasA s x.Address with
        | true => rfl
        | false =>
          have hin := iter_foldFrom l (fun i (n : Int) => (i, n)) (fun n y => if y.Address == x.Address then eithP n y.Notify else n) (fun n => n) (fun _ _ => True) (body := R_Merged_l2 l x)
            (fun n _ => by unfold R_Merged_l2; simp [dec_len]) (fun i y n hy _ => by
              have hlt2 := lt_get hy
              refine ⟨?_, trivial⟩
              unfold R_Merged_l2
              dsimp only
              rw [dec_lt hy, idx_get hy]
              simp only [cond_true, Option.bind_some, R_Either_eq, sc i (by omega)]
              cases y.Address == x.Address <;> rfl) r (p ++ [x]) x.Notify (by simp [hl]) trivial
          have e : (((p ++ [x]).length : Nat) : Int) = ((p.length + 1 : Nat) : Int) := by simp
          rw [e] at hin
          rw [hin, orL_filter x.Address r x.Notify hnx (fun y hy => hn y (by rw [hl]; simp [hy]))]
          simp only [cond_false, Option.bind_some, Bool.false_eq_true, if_false]
          rw [app_ok (by simp; omega)]; rfl
      · split
        · omega
        · simp; omega) ([] : List TRecipient) rfl (Nat.zero_le _)]
  simp only [Option.bind_some, refM_all]
theorem L_envelopes_eq : L_envelopes = some true := by
  unfold L_envelopes
  have s1 : smallE ⟨[], [⟨[97, 64, 120], 0⟩, ⟨[98, 64, 121], 1⟩], []⟩ := ⟨by decide, by decide, by decide, by intro a ha; simp at ha; rcases ha with rfl | rfl <;> decide⟩
  have s2 : smallE ⟨[], [], []⟩ := ⟨by decide, by decide, by decide, by intro a ha; simp at ha⟩
  have s3 : smallR [⟨[97, 64, 98], 1⟩, ⟨[97, 64, 98], 4⟩] := ⟨by decide, by intro a ha; simp at ha; rcases ha with rfl | rfl <;> decide⟩
  rw [envelope_Domains_eq _ s1, envelope_For_eq _ _ s1, envelope_Merge_eq _ s3, envelope_Validate_eq _ s2]
  have e1 : domsE ⟨[], [⟨[97, 64, 120], 0⟩, ⟨[98, 64, 121], 1⟩], []⟩ = ([[120], [121]], ⟨0, 0⟩) := by decide +kernel
  have e2 : forE ⟨[], [⟨[97, 64, 120], 0⟩, ⟨[98, 64, 121], 1⟩], []⟩ [121] = (⟨[], [⟨[98, 64, 121], 1⟩], []⟩, ⟨0, 0⟩) := by decide +kernel
  have e3 : mergeE [⟨[97, 64, 98], 1⟩, ⟨[97, 64, 98], 4⟩] = ([⟨[97, 64, 98], 5⟩], ⟨0, 0⟩) := by decide +kernel
  have e4 : envF ⟨[], [], []⟩ = ⟨2, -11⟩ := by decide +kernel
  rw [e1, e2, e3, e4]
  simp only [Option.bind_some, R_Strings_eq _ _ (show ([[120], [121]] : List Str).length ≤ 9223372036854775806 by decide), R_SameRecipients_eq _ _ (show ([⟨[98, 64, 121], 1⟩] : List TRecipient).length ≤ 1048576 by decide), R_SameRecipients_eq _ _ (show ([⟨[97, 64, 98], 5⟩] : List TRecipient).length ≤ 1048576 by decide), R_At_eq]
  rfl
end Go.Proofs.YtfhfjckjmacekaaGreat

/- The law EnvelopeDomainsMatchSpec, as a plain statement. -/
namespace Go.Proofs.YtfhfjckjmacekaaGreat
open Go.RowKit
set_option linter.unusedVariables false
theorem recF_ok (l : List TRecipient) (h : (recF l).Code = 0) : recF l = ⟨0, 0⟩ := by
  unfold recF at h ⊢
  cases hf : firstI (recQ l) 0 l with
  | none => rfl
  | some f =>
    exfalso
    obtain ⟨i, x, hx, hq⟩ := firstI_some hf
    rw [hf] at h
    unfold recQ at hq
    split at hq
    · cases hq; simp at h
    · split at hq
      · cases hq; simp at h
      · split at hq
        · cases hq; simp at h
        · cases hq
theorem envF_ok (e : TEnvelope) (h : (envF e).Code = 0) : envF e = ⟨0, 0⟩ := by
  unfold envF at h ⊢
  split
  · rename_i h1; rw [if_pos h1] at h; simp at h
  · rename_i h1
    rw [if_neg h1] at h
    split
    · rename_i h2; rw [if_pos h2] at h; simp at h
    · rename_i h2
      rw [if_neg h2] at h
      split
      · rename_i h3; rw [if_pos h3] at h; simp at h
      · rename_i h3
        rw [if_neg h3] at h
        exact recF_ok _ h
theorem fold_pair (d : Str) : ∀ (l to : List TRecipient) (all : List Str), l.foldl (fun (s : List TRecipient × List Str) r => (if inDom d r then s.1 ++ [r] else s.1, addD s.2 r)) (to, all) = (to ++ l.filter (inDom d), l.foldl addD all) := by
  intro l
  induction l with
  | nil => intro to all; simp
  | cons r t ih =>
    intro to all
    rw [List.foldl_cons, List.foldl_cons, List.filter_cons, ih]
    cases inDom d r <;> simp
theorem fault_self (f : TFault) : allEq [(f.Code == f.Code), (f.Index == f.Index)] = true := by simp [allEq]
theorem L_EnvelopeDomainsMatchSpec_true (a0 : TEnvelope) (a1 : Str) (o0 : TEnvelope.ok a0) (o1 : okStr a1) (hk : TEnvelope.bk a0 + (fun s => s.length + 1) a1 ≤ 1048576) : L_EnvelopeDomainsMatchSpec a0 a1 = some true := by
  have hs : smallE a0 := smallE_of (by omega)
  unfold L_EnvelopeDomainsMatchSpec
  rw [R_EnvelopeFault_eq _ hs, envelope_Domains_eq _ hs, envelope_For_eq _ _ hs, L_envelopes_eq]
  simp only [Option.bind_some, Bool.not_true, cond_false, cond_true]
  unfold domsE forE
  by_cases hc : (envF a0).Code = 0
  · have hf := envF_ok a0 hc
    have h0 : ((envF a0).Code != 0) = false := by simp [hc]
    rw [h0]
    simp only [Bool.false_eq_true, if_false, hf, fault_self, Bool.not_true, cond_false, Option.bind_some]
    obtain ⟨_, _, h3, h4⟩ := hs
    have hl := (iter_fold a0.To (fun i (s : List TRecipient × List Str) => (i, s.1, s.2)) (fun s r => (if inDom a1 r then s.1 ++ [r] else s.1, addD s.2 r)) (fun s => (s.1, s.2)) (fun i s => s.1.length ≤ i ∧ s.2.length ≤ i) (body := L_EnvelopeDomainsMatchSpec_l1 a0 a1)
      (fun s hi => by unfold L_EnvelopeDomainsMatchSpec_l1; simp [dec_len]) (fun i r s hr hi => by
        have hlt := lt_get hr
        have ha := h4 r (List.mem_of_getElem? hr)
        refine ⟨?_, ?_, Nat.le_trans (addD_len _ _) (by omega)⟩
        · unfold L_EnvelopeDomainsMatchSpec_l1
          dsimp only
          rw [dec_lt hr, idx_get hr]
          simp only [cond_true, Option.bind_some, R_DomainOf_eq _ ha, R_Has_eq s.2 _ (by omega), sc i (by omega)]
          unfold addD inDom
          cases s.2.contains (domOf r.Address) <;> cases domOf r.Address == a1 <;> simp [app_ok (show s.1.length + [r].length ≤ 5864062014805 by simp; omega), app_ok (show s.2.length + [domOf r.Address].length ≤ 8796093022208 by simp; omega)]
        · dsimp only
          split
          · simp; omega
          · omega) (([] : List TRecipient), ([] : List Str)) (by simp)).1
    rw [hl, fold_pair]
    simp only [Option.bind_some, List.nil_append]
    have hdl : (domsP a0.To).length ≤ 9223372036854775806 := by
      have : ∀ (l : List TRecipient) (acc : List Str), (l.foldl addD acc).length ≤ acc.length + l.length := by
        intro l
        induction l with
        | nil => intro acc; simp
        | cons r t ih => intro acc; have := ih (addD acc r); have := addD_len acc r; simp; omega
      have := this a0.To []
      unfold domsP; simp at this; omega
    rw [R_Strings_eq _ _ hdl]
    have e1 : (domsP a0.To == a0.To.foldl addD []) = true := by unfold domsP; simp
    rw [e1]
    have hfl := List.length_filter_le (inDom a1) a0.To
    by_cases hn : a0.To.filter (inDom a1) = []
    · rw [hn]; rfl
    · have : (((a0.To.filter (inDom a1)).length : Int) == 0) = false := by
        rw [beq_eq_false_iff_ne]
        have := List.length_pos_iff.2 hn
        omega
      rw [this, if_neg hn]
      simp only [Bool.not_true, cond_false, Option.bind_some, beq_self_eq_true, cond_true]
      rw [R_SameRecipients_eq _ _ (by omega)]
      simp [allEq]
  · have h0 : ((envF a0).Code != 0) = true := by simpa using hc
    rw [h0]
    simp only [if_true, fault_self, Bool.not_true, cond_false, Option.bind_some, cond_true]
    rfl
end Go.Proofs.YtfhfjckjmacekaaGreat

/- The law EnvelopeMatchesSpec in plain Lean. -/
namespace Go.Proofs.YtfhfjckjmacekaaGreat
open Go.RowKit
set_option linter.unusedVariables false
set_option maxHeartbeats 1000000

theorem smallM_of {m : TMessage} (h : TMessage.bk m ≤ 1048576) : smallM m := by
  unfold TMessage.bk at h
  have h1 := bkL_len (bk := TField.bk) (fun x => by unfold TField.bk; omega) m.Fields
  have h2 := bkL_len (bk := fun _ : UInt8 => 1) (fun x => by simp) m.Body
  refine ⟨⟨by omega, fun f hf => ?_⟩, by omega⟩
  have h5 := bkL_mem (bk := TField.bk) hf
  have h6 : TField.bk f = f.Name.length + 1 + (f.Value.length + 1) + 1 := rfl
  omega
def mailF (m : TMail) : TFault := if (envF m.Envelope).Code != 0 then envF m.Envelope else if (msgF m.Message).Code != 0 then ⟨(msgF m.Message).Code, -30⟩ else ⟨0, 0⟩
theorem envelope_Check_eq (m : TMail) (h1 : smallE m.Envelope) (h2 : smallM m.Message) : envelope_Check m = some (mailF m) := by
  unfold envelope_Check mailF
  rw [envelope_Validate_eq _ h1, message_Validate_eq _ h2]
  simp only [Option.bind_some, basic_Failed_eq, basic_Fault_eq, basic_None_eq]
  cases (envF m.Envelope).Code != 0 <;> cases (msgF m.Message).Code != 0 <;> rfl
theorem R_MailFault_eq (m : TMail) (h1 : smallE m.Envelope) (h2 : smallM m.Message) : R_MailFault m = some (mailF m) := by
  unfold R_MailFault mailF
  rw [R_EnvelopeFault_eq _ h1, R_MessageFault_eq _ h2]
  simp only [Option.bind_some, R_At_eq]
  by_cases hc : (envF m.Envelope).Code = 0
  · have hz := envF_ok _ hc
    rw [hz]
    cases h : (msgF m.Message).Code != 0 <;> simp [h]
  · have e1 : ((envF m.Envelope).Code != 0) = true := by simpa using hc
    have e2 : ((envF m.Envelope).Code == 0) = false := by simpa using hc
    rw [e1, e2]
    simp only [cond_false, Option.bind_some, if_true]
theorem L_EnvelopeMatchesSpec_true (a0 : TMail) (o0 : TMail.ok a0) (hk : TMail.bk a0 ≤ 1048576) : L_EnvelopeMatchesSpec a0 = some true := by
  have hb : TMail.bk a0 = TEnvelope.bk a0.Envelope + TMessage.bk a0.Message + 1 := rfl
  have h1 : smallE a0.Envelope := smallE_of (by omega)
  have h2 : smallM a0.Message := smallM_of (by omega)
  unfold L_EnvelopeMatchesSpec
  rw [R_EnvelopeFault_eq _ h1, envelope_Validate_eq _ h1, L_envelopes_eq, envelope_Check_eq _ h1 h2, R_MailFault_eq _ h1 h2]
  simp only [Option.bind_some, cond_true, fault_self]
end Go.Proofs.YtfhfjckjmacekaaGreat

/- Sending on: the plain functions of its parts, and what the typed functions compute. -/
namespace Go.Proofs.YtfhfjckjmacekaaGreat
open Go.RowKit
set_option linter.unusedVariables false
set_option maxHeartbeats 1000000

/-! ### rules as aliases -/
def asA (x : TForward) : TAlias := ⟨x.Address, x.To⟩
def smallW (l : List TForward) : Prop := l.length ≤ 1048576 ∧ ∀ a ∈ l, a.Address.length ≤ 1048576 ∧ a.To.length ≤ 1048576 ∧ ∀ s ∈ a.To, s.length ≤ 1048576
theorem smallA_as {l : List TForward} (h : smallW l) : smallA (l.map asA) := by
  obtain ⟨h1, h2⟩ := h
  refine ⟨by simpa using h1, fun a ha => ?_⟩
  obtain ⟨x, hx, rfl⟩ := List.mem_map.1 ha
  exact h2 x hx
theorem map_fold {α β : Type} (f : α → β) (l : List α) : ∀ o : List β, l.foldl (fun o x => o ++ [f x]) o = o ++ l.map f := by
  induction l with
  | nil => intro o; simp
  | cons x l ih => intro o; simp [ih]
theorem forward_aliases_eq (l : List TForward) (hl : l.length ≤ 1048576) : forward_aliases l = some (l.map asA) := by
  unfold forward_aliases
  have := (iter_fold l (fun i (s : List TAlias) => (i, s)) (fun s x => s ++ [asA x]) id (fun i s => s.length ≤ i) (body := forward_aliases_l1 l)
    (fun s _ => by unfold forward_aliases_l1; simp [dec_len]) (fun i x s hx hi => by
      have hlt := lt_get hx
      refine ⟨?_, by simp; omega⟩
      unfold forward_aliases_l1
      dsimp only
      rw [dec_lt hx, idx_get hx]
      simp only [cond_true, Option.bind_some, sc i (by omega)]
      rw [app_ok (by simp; omega)]; rfl) [] (by simp)).1
  rw [this, map_fold]
  simp
theorem forward_Validate_eq (l : List TForward) (hl : smallW l) : forward_Validate l = some (aliasF (l.map asA)) := by
  unfold forward_Validate
  rw [forward_aliases_eq l hl.1]
  simp only [Option.bind_some]
  rw [alias_Validate_eq _ (smallA_as hl)]; rfl
def fwdI (l : List TForward) (s : Str) : Int := (firstI (fun i x => if x.Address == s then some ((i : Nat) : Int) else none) 0 l).getD (-1)
def ruleP (l : List TForward) (s : Str) : Option TForward := l.find? fun x => x.Address == s
theorem forward_find_eq (l : List TForward) (s : Str) (hl : l.length ≤ 1048576) : forward_find l s = some (fwdI l s) := by
  unfold forward_find fwdI
  rw [iter_first l (fun i x => if x.Address == s then some ((i : Nat) : Int) else none) (.inl ()) .inr]
  · simp only [Option.bind_some, elim_idx]
  · unfold forward_find_l1; rw [dec_len]; rfl
  · intro i x hx
    have hi := lt_get hx
    unfold forward_find_l1
    rw [dec_lt hx, idx_get hx]
    simp only [cond_true, Option.bind_some, sc i (by omega)]
    cases x.Address == s <;> rfl
theorem fwdI_is (l : List TForward) (s : Str) : (fwdI l s = -1 ∧ ruleP l s = none) ∨ ∃ (i : Nat) (x : TForward), fwdI l s = (i : Int) ∧ l[i]? = some x ∧ ruleP l s = some x ∧ x.Address = s := by
  unfold fwdI ruleP
  suffices h : ∀ n : Nat, ((firstI (fun i x => if x.Address == s then some ((i : Nat) : Int) else none) n l).getD (-1) = -1 ∧ l.find? (fun x => x.Address == s) = none) ∨ ∃ (i : Nat) (x : TForward), (firstI (fun i x => if x.Address == s then some ((i : Nat) : Int) else none) n l).getD (-1) = ((n + i : Nat) : Int) ∧ l[i]? = some x ∧ l.find? (fun x => x.Address == s) = some x ∧ x.Address = s by
    simpa using h 0
  induction l with
  | nil => intro n; left; exact ⟨rfl, rfl⟩
  | cons y l ih =>
    intro n
    unfold firstI
    by_cases hy : y.Address = s
    · right
      refine ⟨0, y, ?_, rfl, ?_, hy⟩
      · simp [hy]
      · simp [hy]
    · have e : (y.Address == s) = false := by simpa using hy
      simp only [e, Bool.false_eq_true, if_false, List.find?_cons]
      rcases ih (n + 1) with ⟨h1, h2⟩ | ⟨i, x, h1, h2, h3, h4⟩
      · left; exact ⟨h1, h2⟩
      · right; exact ⟨i + 1, x, by rw [h1]; omega, by simpa using h2, h3, h4⟩

/-! ### letters -/
def lowC (c : UInt8) : UInt8 := bif decide ((65 : UInt8) ≤ c) && decide (c ≤ 90) then c + 97 - 65 else c
def lowP (s : Str) : Str := s.map lowC
theorem basic_Lower_eq (s : Str) (hs : s.length ≤ 1048576) : basic_Lower s = some (lowP s) := by
  unfold basic_Lower
  have key : ∀ r p : Str, s = p ++ r → iter (basic_Lower_l1 s) ((p.length : Int), p.map lowC ++ r) = some (lowP s) := by
    intro r
    induction r with
    | nil =>
      intro p h
      have hp : p = s := by simp [h]
      subst hp
      refine iter_out ?_
      unfold basic_Lower_l1
      dsimp only
      rw [dec_len]
      simp [lowP]
    | cons c r ih =>
      intro p h
      have hx : s[p.length]? = some c := by simp [h]
      have hi := lt_get hx
      have hx2 : (p.map lowC ++ c :: r)[p.length]? = some c := by
        rw [List.getElem?_append_right (by simp)]; simp
      have hb : basic_Lower_l1 s ((p.length : Int), p.map lowC ++ c :: r) = some (.cont (((p.length + 1 : Nat) : Int), (p ++ [c]).map lowC ++ r)) := by
        unfold basic_Lower_l1
        dsimp only
        rw [dec_lt hx, idx_get hx2]
        simp only [cond_true, Option.bind_some, u8_le1 65 c (by decide), u8_le2 90 c (by decide), sc p.length (by omega), Int.toNat_natCast]
        have hset : (p.map lowC ++ c :: r).set p.length (lowC c) = (p ++ [c]).map lowC ++ r := by
          rw [List.set_append_right _ _ (by simp)]
          simp
        have hsame : lowC c = c → p.map lowC ++ c :: r = (p ++ [c]).map lowC ++ r := by intro h; simp [h]
        unfold lowC at hset hsame ⊢
        cases h1 : decide ((65 : UInt8) ≤ c) <;> cases h2 : decide (c ≤ 90) <;> rw [h1, h2] at hset hsame <;> simp only [Bool.and_true, Bool.and_false, Bool.true_and, Bool.false_and, cond_true, cond_false, Option.bind_some] at hset hsame ⊢
        · rw [hsame trivial]
        · rw [hsame trivial]
        · rw [hsame trivial]
        · rw [hset]
      rw [iter_cont hb]
      have := ih (p ++ [c]) (by simp [h])
      simpa using this
  have := key s [] rfl
  have h2 : iter (basic_Lower_l1 s) (0, s) = some (lowP s) := this
  rw [h2]; rfl
def sameP (a b : Str) : Bool := lowP a == lowP b
theorem basic_Same_eq (a b : Str) (ha : a.length ≤ 1048576) (hb : b.length ≤ 1048576) : basic_Same a b = some (sameP a b) := by
  unfold basic_Same sameP
  rw [basic_Lower_eq a ha, basic_Lower_eq b hb]
  simp only [Option.bind_some]
  by_cases h : a.length = b.length
  · have : ((a.length : Int) == (b.length : Int)) = true := by simp [h]
    rw [this]; rfl
  · have : ((a.length : Int) == (b.length : Int)) = false := by rw [beq_eq_false_iff_ne]; omega
    rw [this]
    have : (lowP a == lowP b) = false := by
      rw [beq_eq_false_iff_ne]
      intro hc
      have := congrArg List.length hc
      simp [lowP] at this
      exact h this
    rw [this]; rfl

/-! ### fields -/
theorem header_name_eq (n : Str) (hn : n.length ≤ 1048576) : header_name n = some (fnP n) := by
  unfold header_name
  rw [fold_Fold_eq n [] hn (by simp)]
  simp only [Option.bind_some, basic_Failed_eq, Option.some.injEq]
  have h := codeP_eq ⟨n, []⟩
  unfold codeP at h
  dsimp only at h
  rw [h]
  unfold codeQ
  cases hf : fnP n with
  | false => rfl
  | true =>
    have h60 : n.length ≤ 60 := by unfold fnP at hf; simp only [Bool.and_eq_true, decide_eq_true_eq] at hf; exact hf.1.2
    have hl : flP n [] = [txt n []] := by unfold flP; exact linesOf_end (.inl (by have := txt_len n []; simp at this; omega))
    have hlb : longB (flP n []) = false := by
      rw [hl]
      have := txt_len n []
      unfold longB
      simp at this ⊢; omega
    have hv : valP [] = true := rfl
    rw [hlb, hv]; rfl
theorem header_valid_eq (l : List TField) (n : Str) (hl : smallF l) (hn : n.length ≤ 1048576) : header_valid l n = some (if (headF l).Code != 0 then headF l else if !fnP n then ⟨10, -3⟩ else ⟨0, 0⟩) := by
  unfold header_valid
  rw [header_Validate_eq l hl, header_name_eq n hn]
  simp only [Option.bind_some, basic_Failed_eq, basic_Fault_eq, basic_None_eq]
  cases (headF l).Code != 0 <;> cases fnP n <;> rfl
def getP (l : List TField) (n : Str) : List Str := (l.filter fun f => sameP f.Name n).map (·.Value)
theorem get_fold (n : Str) (l : List TField) : ∀ o : List Str, l.foldl (fun o (f : TField) => if sameP f.Name n then o ++ [f.Value] else o) o = o ++ getP l n := by
  unfold getP
  induction l with
  | nil => intro o; simp
  | cons f l ih => intro o; rw [List.foldl_cons, ih, List.filter_cons]; cases sameP f.Name n <;> simp
theorem header_Get_eq (l : List TField) (n : Str) (hl : smallF l) (hn : n.length ≤ 1048576) : header_Get l n = some (if (headF l).Code != 0 then ([], headF l) else if !fnP n then ([], ⟨10, -3⟩) else (getP l n, ⟨0, 0⟩)) := by
  unfold header_Get
  rw [header_valid_eq l n hl hn]
  obtain ⟨h1, h2⟩ := hl
  have := (iter_fold l (fun i (s : List Str) => (i, s)) (fun o (f : TField) => if sameP f.Name n then o ++ [f.Value] else o) id (fun i s => s.length ≤ i) (body := header_Get_l1 l n)
    (fun s _ => by unfold header_Get_l1; simp [dec_len]) (fun i f s hf hi => by
      have hlt := lt_get hf
      have hfs := h2 f (List.mem_of_getElem? hf)
      refine ⟨?_, by split <;> (try simp) <;> omega⟩
      unfold header_Get_l1
      dsimp only
      rw [dec_lt hf, idx_get hf]
      simp only [cond_true, Option.bind_some, sc i (by omega), basic_Same_eq _ _ hfs.1 hn]
      cases sameP f.Name n with
      | false => rfl
      | true =>
        simp only [cond_true, if_true]
        rw [app_ok (by simp; omega)]; rfl) [] (by simp)).1
  rw [this, get_fold]
  simp only [Option.bind_some, basic_Failed_eq, basic_None_eq]
  cases hc : (headF l).Code != 0 with
  | true => simp [hc]
  | false => cases hf : fnP n <;> simp

/-! ### a field in front -/
theorem concat2_eq (f : TField) (l : List TField) (hl : l.length ≤ 1048576) : slices_Concat_api_Field_api_Field [[f], l] = some (f :: l) := by
  unfold slices_Concat_api_Field_api_Field
  have h1 : iter (slices_Concat_api_Field_api_Field_l1 [[f], l]) (0, 0) = some (((l.length + 1 : Nat) : Int)) := by
    have e1 : w64 ((0 : Int) + 1) = 1 := rfl
    have e2 : w64 ((1 : Int) + (l.length : Int)) = ((l.length + 1 : Nat) : Int) := by rw [w64_id (by omega) (by omega)]; omega
    have s1 : slices_Concat_api_Field_api_Field_l1 [[f], l] (0, 0) = some (.cont (1, 1)) := rfl
    have s2 : slices_Concat_api_Field_api_Field_l1 [[f], l] (1, 1) = some (.cont (((l.length + 1 : Nat) : Int), 2)) := by
      show (bif decide (w64 ((1 : Int) + (l.length : Int)) < 0) then none else some (Step.cont (w64 ((1 : Int) + (l.length : Int)), w64 (1 + 1)))) = _
      rw [e2, decide_eq_false (by omega)]; rfl
    have s3 : slices_Concat_api_Field_api_Field_l1 [[f], l] (((l.length + 1 : Nat) : Int), 2) = some (.out ((l.length + 1 : Nat) : Int)) := rfl
    exact (iter_cont s1).trans ((iter_cont s2).trans (iter_out s3))
  rw [h1]
  simp only [Option.bind_some]
  have e0 : w64 (((l.length + 1 : Nat) : Int) - w64 (0 - 0)) = ((l.length + 1 : Nat) : Int) := by
    show w64 (((l.length + 1 : Nat) : Int) - 0) = _
    rw [Int.sub_zero, w64_n _ (by omega)]
  rw [e0, decide_eq_false (show ¬ (((l.length + 1 : Nat) : Int) < 0) by omega), decide_eq_true (show (0 : Int) < ((l.length + 1 : Nat) : Int) by omega)]
  simp only [cond_true, cond_false]
  have hz : zrep 4398046511104 ((l.length + 1 : Nat) : Int) (⟨[], []⟩ : TField) = some (List.replicate (l.length + 1) ⟨[], []⟩) := by
    unfold zrep
    rw [if_pos ⟨by omega, by simp; omega⟩]; rfl
  rw [hz]
  simp only [Option.bind_some]
  have hc : cut (List.replicate (l.length + 1) (⟨[], []⟩ : TField)) 0 0 = some [] := by
    have := cut_0n (l := List.replicate (l.length + 1) (⟨[], []⟩ : TField)) (b := 0) (by omega)
    simpa using this
  rw [hc]
  simp only [Option.bind_some]
  have s1 : slices_Concat_api_Field_api_Field_l2 [[f], l] (0, []) = some (.cont (1, [f])) := by
    show (app 4398046511104 ([] : List TField) [f]).bind (fun v20 => some (Step.cont (w64 (0 + 1), v20))) = _
    rw [app_ok (by simp)]; rfl
  have s2 : slices_Concat_api_Field_api_Field_l2 [[f], l] (1, [f]) = some (.cont (2, f :: l)) := by
    show (app 4398046511104 [f] l).bind (fun v20 => some (Step.cont (w64 (1 + 1), v20))) = _
    rw [app_ok (by simp; omega)]; rfl
  have s3 : slices_Concat_api_Field_api_Field_l2 [[f], l] (2, f :: l) = some (.out (f :: l)) := rfl
  rw [iter_cont s1, iter_cont s2, iter_out s3]; rfl
theorem trace_Front_eq (m : TMessage) (n v : Str) (hf : m.Fields.length ≤ 1048576) (hb : m.Body.length ≤ 1048576) : trace_Front m n v = some ⟨⟨n, v⟩ :: m.Fields, m.Body⟩ := by
  unfold trace_Front
  rw [concat2_eq _ _ hf]
  simp only [Option.bind_some]
  have ha : (app 140737488355328 ([] : List UInt8) m.Body).bind (fun v5 => some v5) = some m.Body := by rw [app_ok (by simp; omega)]; rfl
  rw [ha, nilE_same]
  · rfl
  · intro he
    rw [List.isEmpty_iff.1 he]
def recs (l : List Str) : List TRecipient := l.foldl (fun o s => if o.any (fun r => r.Address == s) then o else o ++ [⟨s, 0⟩]) []
def dl : Str := [68, 101, 108, 105, 118, 101, 114, 101, 100, 45, 84, 111]
def onP (x : TForward) (m : TMail) : TMail := ⟨⟨m.Envelope.From, recs x.To, m.Envelope.Id⟩, ⟨⟨dl, x.Address⟩ :: m.Message.Fields, m.Message.Body⟩⟩
theorem forward_on_eq (x : TForward) (m : TMail) (hx : x.To.length ≤ 1048576) (hm : smallM m.Message) : forward_on x m = some (onP x m) := by
  unfold forward_on
  rw [trace_Front_eq _ _ _ hm.1.1 hm.2]
  have := (iter_fold x.To (fun i (s : List TRecipient) => (i, s)) (fun o s => if o.any (fun r => r.Address == s) then o else o ++ [⟨s, 0⟩]) id (fun i s => s.length ≤ i) (body := forward_on_l1 x)
    (fun s _ => by unfold forward_on_l1; simp [dec_len]) (fun i s o hs hi => by
      have hlt := lt_get hs
      refine ⟨?_, by split <;> (try simp) <;> omega⟩
      have hl2 : iter (forward_on_l2 ((i : Int), o) s) 0 = some ((firstI (fun i r => if r.Address == s then some ((i : Nat) : Int) else none) 0 o).elim (.inl ()) .inr) := by
        refine iter_first o _ (Sum.inl ()) Sum.inr ?_ ?_
        · unfold forward_on_l2; rw [dec_len]; rfl
        · intro k r hr
          have hk := lt_get hr
          unfold forward_on_l2
          dsimp only
          rw [dec_lt hr, idx_get hr]
          simp only [cond_true, Option.bind_some, sc k (by omega)]
          cases r.Address == s <;> rfl
      unfold forward_on_l1
      dsimp only
      rw [dec_lt hs, idx_get hs]
      simp only [cond_true, Option.bind_some, hl2, elim_idx, first_idx (fun r : TRecipient => r.Address == s), sc i (by omega)]
      cases o.any fun r => r.Address == s with
      | true => rfl
      | false =>
        simp only [Bool.not_false, cond_true, Bool.false_eq_true, if_false]
        rw [app_ok (by simp; omega)]; rfl) [] (by simp)).1
  simp only [Option.bind_some]
  rw [this]; rfl
end Go.Proofs.YtfhfjckjmacekaaGreat

/- Sending on: a step, the tree. -/
namespace Go.Proofs.YtfhfjckjmacekaaGreat
open Go.RowKit
set_option linter.unusedVariables false
set_option maxHeartbeats 1000000

/-! ### a step -/
abbrev StepS := List Str × List TMail × List Str
/-- looped, mails, kept, behind one recipient -/
def step1 (l : List TForward) (m : TMail) (s : StepS) (r : TRecipient) : StepS ⊕ TFault :=
  match ruleP l r.Address with
  | none => .inl (s.1, s.2.1, s.2.2 ++ [r.Address])
  | some x => if (getP m.Message.Fields dl).contains r.Address then .inl (s.1 ++ [r.Address], s.2.1, s.2.2)
    else if (msgF (onP x m).Message).Code != 0 then .inr ⟨(msgF (onP x m).Message).Code, -7⟩ else .inl (s.1, s.2.1 ++ [onP x m], if x.Keep then s.2.2 ++ [r.Address] else s.2.2)
def stepR (l : List TForward) (m : TMail) : List TRecipient → StepS → StepS ⊕ TFault
  | [], s => .inl s
  | r :: rs, s => match step1 l m s r with
    | .inl s' => stepR l m rs s'
    | .inr f => .inr f
def stepP (l : List TForward) (m : TMail) : List Str × List TMail × List Str × TFault :=
  if (aliasF (l.map asA)).Code != 0 then ([], [], [], aliasF (l.map asA)) else if (mailF m).Code != 0 then ([], [], [], ⟨(mailF m).Code, -6⟩)
  else match stepR l m m.Envelope.To ([], [], []) with
    | .inl s => (s.2.2, s.2.1, s.1, ⟨0, 0⟩)
    | .inr f => ([], [], [], f)
theorem mailF_msg {m : TMail} (h : (mailF m).Code = 0) : (envF m.Envelope).Code = 0 ∧ (msgF m.Message).Code = 0 := by
  unfold mailF at h
  by_cases h1 : (envF m.Envelope).Code = 0
  · refine ⟨h1, ?_⟩
    have e : ((envF m.Envelope).Code != 0) = false := by simp [h1]
    rw [e] at h
    simp only [Bool.false_eq_true, if_false] at h
    cases hc : (msgF m.Message).Code != 0 with
    | false => simpa using hc
    | true => rw [hc] at h; simpa using h
  · have e : ((envF m.Envelope).Code != 0) = true := by simpa using h1
    rw [e] at h
    simp only [if_true] at h
    exact absurd h h1
theorem msgF_head {m : TMessage} (h : (msgF m).Code = 0) : (headF m.Fields).Code = 0 := by
  unfold msgF at h
  cases hc : (headF m.Fields).Code != 0 with
  | false => simpa using hc
  | true => rw [hc] at h; simpa using h
theorem smallM_on {x : TForward} {m : TMail} (hx : x.Address.length ≤ 1048576) (hm : smallM m.Message) (h60 : ¬ 60 < m.Message.Fields.length) : smallM (onP x m).Message := by
  refine ⟨⟨?_, fun f hf => ?_⟩, hm.2⟩
  · show (_ :: m.Message.Fields).length ≤ _
    simp; omega
  · rcases List.mem_cons.1 hf with rfl | h
    · exact ⟨by show dl.length ≤ _; decide, hx⟩
    · exact hm.1.2 f h
theorem forward_Step_eq (l : List TForward) (m : TMail) (hl : smallW l) (h1 : smallE m.Envelope) (h2 : smallM m.Message) : forward_Step l m = some (stepP l m) := by
  unfold forward_Step stepP
  rw [forward_Validate_eq l hl, envelope_Check_eq m h1 h2]
  simp only [Option.bind_some, basic_Failed_eq, basic_Fault_eq, basic_None_eq]
  cases ha : (aliasF (l.map asA)).Code != 0 with
  | true => rfl
  | false =>
    simp only [cond_false, Bool.false_eq_true, if_false]
    cases hm : (mailF m).Code != 0 with
    | true => rfl
    | false =>
      simp only [cond_false, Bool.false_eq_true, if_false]
      obtain ⟨q1, q2⟩ := mailF_msg (m := m) (by simpa using hm)
      have q3 := msgF_head q2
      obtain ⟨q4, q5, q6⟩ := headF_code _ q3
      have hg : header_Get m.Message.Fields dl = some (getP m.Message.Fields dl, ⟨0, 0⟩) := by
        rw [header_Get_eq _ _ h2.1 (by decide)]
        have e1 : ((headF m.Message.Fields).Code != 0) = false := by simp [q3]
        have e2 : fnP dl = true := by decide +kernel
        rw [e1, e2]; rfl
      have hg2 : header_Get m.Message.Fields (([68, 101, 108, 105, 118, 101, 114, 101, 100, 45, 84, 111] : Str)) = some (getP m.Message.Fields dl, ⟨0, 0⟩) := hg
      rw [hg2]
      simp only [Option.bind_some]
      have hgl : (getP m.Message.Fields dl).length ≤ 1048576 := by
        unfold getP
        have := List.length_filter_le (fun f : TField => sameP f.Name dl) m.Message.Fields
        simp; omega
      have hloop := iter_listI (body := forward_Step_l1 l m (getP m.Message.Fields dl, ⟨0, 0⟩)) m.Envelope.To (fun i (s : StepS) => ((i : Int), s.1, s.2.1, s.2.2)) (fun _ rs s => (stepR l m rs s).elim .inl fun f => .inr ([], [], [], f))
        (fun i _ s => s.1.length ≤ i ∧ s.2.1.length ≤ i ∧ s.2.2.length ≤ i) (fun s _ => by unfold forward_Step_l1; dsimp only; rw [dec_len]; rfl) (fun p r rs s hp hi => by
          obtain ⟨i1, i2, i3⟩ := hi
          have hx : m.Envelope.To[p.length]? = some r := by simp [hp]
          have hlt := lt_get hx
          have hcap := h1.2.2.1
          have hb : forward_Step_l1 l m (getP m.Message.Fields dl, ⟨0, 0⟩) ((p.length : Int), s.1, s.2.1, s.2.2) = some ((step1 l m s r).elim (fun s' => .cont (((p.length + 1 : Nat) : Int), s'.1, s'.2.1, s'.2.2)) fun f => .out (.inr ([], [], [], f))) := by
            unfold forward_Step_l1 step1
            dsimp only
            rw [dec_lt hx, idx_get hx]
            simp only [cond_true, Option.bind_some]
            rw [forward_find_eq l r.Address hl.1]
            simp only [Option.bind_some]
            rcases fwdI_is l r.Address with ⟨f1, f2⟩ | ⟨i, x, f1, f2, f3, f4⟩
            · rw [f1, f2]
              have : decide ((-1 : Int) < 0) = true := rfl
              rw [this]
              simp only [cond_true]
              rw [app_ok (by simp; omega)]
              simp only [Option.bind_some]
              unfold forward_Step_k2
              dsimp only
              rw [sc p.length (by omega)]; rfl
            · rw [f1, f3, decide_eq_false (by omega)]
              simp only [cond_false]
              rw [slices_Contains_eq _ _ hgl]
              simp only [Option.bind_some]
              cases hcon : (getP m.Message.Fields dl).contains r.Address with
              | true =>
                simp only [cond_true, if_true]
                rw [app_ok (by simp; omega)]
                simp only [Option.bind_some]
                unfold forward_Step_k2
                dsimp only
                rw [sc p.length (by omega)]; rfl
              | false =>
                simp only [cond_false, Bool.false_eq_true, if_false]
                have hxm := hl.2 x (List.mem_of_getElem? f2)
                have hk3 : ∀ j : List Str, forward_Step_k3 l m ((p.length : Int), s.1, s.2.1, s.2.2) (i : Int) j = some (if (msgF (onP x m).Message).Code != 0 then .out (.inr ([], [], [], ⟨(msgF (onP x m).Message).Code, -7⟩)) else .cont (((p.length + 1 : Nat) : Int), s.1, s.2.1 ++ [onP x m], j)) := by
                  intro j
                  unfold forward_Step_k3
                  rw [idx_get f2]
                  simp only [Option.bind_some, forward_on_eq x m hxm.2.1 h2, message_Validate_eq _ (smallM_on hxm.1 h2 q4), basic_Failed_eq, basic_Fault_eq]
                  cases (msgF (onP x m).Message).Code != 0 with
                  | true => rfl
                  | false =>
                    simp only [cond_false, Bool.false_eq_true, if_false]
                    rw [app_ok (by simp; omega)]
                    simp only [Option.bind_some]
                    unfold forward_Step_k2
                    dsimp only
                    rw [sc p.length (by omega)]
                rw [idx_get f2]
                simp only [Option.bind_some, hk3]
                cases x.Keep with
                | true =>
                  simp only [cond_true, if_true]
                  rw [app_ok (by simp; omega)]
                  simp only [Option.bind_some, hk3]
                  cases (msgF (onP x m).Message).Code != 0 <;> rfl
                | false =>
                  simp only [cond_false, Bool.false_eq_true, if_false]
                  cases (msgF (onP x m).Message).Code != 0 <;> rfl
          cases hs : step1 l m s r with
          | inr f =>
            left
            rw [hb, hs]
            unfold stepR
            rw [hs]; rfl
          | inl s' =>
            right
            refine ⟨s', by rw [hb, hs]; rfl, ?_, ?_⟩
            · show (stepR l m (r :: rs) s).elim _ _ = _
              rw [show stepR l m (r :: rs) s = stepR l m rs s' by rw [stepR, hs]]
            · unfold step1 at hs
              split at hs
              · cases hs; dsimp only; refine ⟨?_, ?_, ?_⟩ <;> (try simp only [List.length_append, List.length_singleton]) <;> omega
              · split at hs
                · cases hs; dsimp only; refine ⟨?_, ?_, ?_⟩ <;> (try simp only [List.length_append, List.length_singleton]) <;> omega
                · split at hs
                  · cases hs
                  · cases hs; dsimp only; refine ⟨?_, ?_, ?_⟩ <;> (try split) <;> (try simp only [List.length_append, List.length_singleton]) <;> omega) (s0 := ((0 : Int), ([] : List Str), ([] : List TMail), ([] : List Str))) ([], [], []) rfl (by simp)
      rw [hloop]
      simp only [Option.bind_some]
      cases stepR l m m.Envelope.To ([], [], []) with
      | inl s => rfl
      | inr f => rfl

/-! ### the tree -/
def keepP (l : List TForward) (s : Str) : Bool := match ruleP l s with | none => true | some x => x.Keep
def keptAt (l : List TForward) (s : Str) : List Str := (reached (l.map asA) [s]).filter (keepP l)
theorem Tree_loop (l : List TForward) (hl : smallW l) (ok : AliasOk (l.map asA)) (from_ : List Str) (hf : from_.length ≤ 1048576) : ∀ (n k : Nat) (out acc : List Str), Inv (l.map asA) (univ (l.map asA) from_) k out → (univ (l.map asA) from_).length + 1 ≤ n + k → acc.length ≤ k →
    iter (forward_Tree_l3 l (tabP (l.map asA))) (out.drop k, seenOf out, acc) = some (acc ++ ((bfs (l.map asA) n k out).drop k).filter (keepP l)) := by
  have hU := univ_len ok from_
  intro n
  induction n with
  | zero => intro k out acc h hn; have := h.len; have := h.le; omega
  | succ n ih =>
    intro k out acc h hn hacc
    have hlen := h.len
    unfold bfs
    cases hs : out[k]? with
    | none =>
      have hk : out.length ≤ k := List.getElem?_eq_none_iff.1 hs
      have hd : out.drop k = [] := List.drop_eq_nil_of_le hk
      refine iter_out ?_
      unfold forward_Tree_l3
      rw [hd]; simp
    | some s =>
      have hk := lt_get hs
      have hd := drop_cons hs
      obtain ⟨m, hm1, hm2, hm3⟩ := bfs_spec (l.map asA) from_ n (k + 1) _ (h.step hs) (by omega)
      have hget := get_prefix ((addNew_prefix (tgt (l.map asA) s) out).trans hm3) hs
      have hstep := h.step hs
      have htab := tab_eq ok s
      have hg : (mget (tabP (l.map asA)) s).getD [] = tgt (l.map asA) s := by rw [htab]; rfl
      have ht60 : (tgt (l.map asA) s).length ≤ 60 := by
        unfold tgt
        cases ht : tgtO (l.map asA) s with
        | none => simp
        | some t => exact (tgtO_ne ok ht).2
      have hb : forward_Tree_l3 l (tabP (l.map asA)) (out.drop k, seenOf out, acc) = some (.cont ((addNew out (tgt (l.map asA) s)).drop (k + 1), seenOf (addNew out (tgt (l.map asA) s)), if keepP l s then acc ++ [s] else acc)) := by
        unfold forward_Tree_l3
        rw [hd]
        have e0 : decide ((0 : Int) < (((s :: out.drop (k + 1)).length : Nat) : Int)) = true := by simp
        simp only [e0, cond_true, idx_lit, List.getElem?_cons_zero, Option.bind_some]
        rw [show ((1 : Int)) = ((1 : Nat) : Int) from rfl, cut_nl (by simp)]
        simp only [Option.bind_some, List.drop_succ_cons, List.drop_zero]
        have h4 : iter (forward_Tree_l4 (tabP (l.map asA)) s) (0, out.drop (k + 1), seenOf out) = some ((addNew out (tgt (l.map asA) s)).drop (k + 1), seenOf (addNew out (tgt (l.map asA) s))) := by
          refine findloop (tgt (l.map asA) s) (by omega) (fun p => ?_) (fun i x p hx hp => ?_) out (k + 1) (by omega) (by omega)
          · unfold forward_Tree_l4; rw [hg, dec_len]; rfl
          · have hi := lt_get hx
            unfold forward_Tree_l4
            rw [hg, dec_lt hx, idx_get hx]
            simp only [cond_true, Option.bind_some, sc i (by omega)]
            rw [find_step [] p x hp i (by omega)]; rfl
        have h5 : iter (forward_Tree_l5 (tabP (l.map asA)) s) (0, out.drop (k + 1), seenOf out) = some ((addNew out (tgt (l.map asA) s)).drop (k + 1), seenOf (addNew out (tgt (l.map asA) s))) := by
          refine findloop (tgt (l.map asA) s) (by omega) (fun p => ?_) (fun i x p hx hp => ?_) out (k + 1) (by omega) (by omega)
          · unfold forward_Tree_l5; rw [hg, dec_len]; rfl
          · have hi := lt_get hx
            unfold forward_Tree_l5
            rw [hg, dec_lt hx, idx_get hx]
            simp only [cond_true, Option.bind_some, sc i (by omega)]
            rw [find_step [] p x hp i (by omega)]; rfl
        have hkeep : (forward_find l s).bind (fun v37 => ((bif decide (v37 < 0) then some true else (idx l v37).bind fun v41 => some v41.Keep) : Option Bool)) = some (keepP l s) := by
          rw [forward_find_eq l s hl.1]
          simp only [Option.bind_some]
          unfold keepP
          rcases fwdI_is l s with ⟨f1, f2⟩ | ⟨i, x, f1, f2, f3, f4⟩
          · rw [f1, f2]; rfl
          · rw [f1, f3, decide_eq_false (by omega), idx_get f2]; rfl
        obtain ⟨v37, e37, hk2⟩ := Option.bind_eq_some_iff.1 hkeep
        rw [e37]
        simp only [Option.bind_some]
        rw [hk2]
        simp only [Option.bind_some]
        cases keepP l s with
        | true =>
          simp only [cond_true, if_true]
          rw [app_ok (by simp; omega)]
          simp only [Option.bind_some]
          rw [h4]; rfl
        | false =>
          simp only [cond_false, Bool.false_eq_true, if_false]
          rw [h5]; rfl
      rw [iter_cont hb, ih (k + 1) _ _ hstep (by omega) (by split <;> (try simp) <;> omega)]
      rw [drop_cons hget, List.filter_cons]
      cases keepP l s <;> simp
theorem forward_Tree_eq (l : List TForward) (s : Str) (hl : smallW l) (hs : s.length ≤ 1048576) :
    forward_Tree l s = some (if (aliasF (l.map asA)).Code != 0 then ([], aliasF (l.map asA)) else if !addrP s then ([], ⟨10, -2⟩) else (keptAt l s, ⟨0, 0⟩)) := by
  unfold forward_Tree
  rw [forward_Validate_eq l hl]
  simp only [Option.bind_some, basic_Failed_eq, envelope_Address_eq s (by omega), basic_Fault_eq, basic_None_eq, forward_aliases_eq l hl.1]
  by_cases hc : (aliasF (l.map asA)).Code = 0
  · obtain ⟨ok, _⟩ := aliasF_ok hc
    have h1 : ((aliasF (l.map asA)).Code != 0) = false := by simp [hc]
    rw [h1]
    simp only [cond_false, Bool.false_eq_true, if_false]
    cases addrP s with
    | false => rfl
    | true =>
      have hn := ok.n
      have t1 : iter (forward_Tree_l1 (l.map asA)) (0, ([] : List (Str × List Str))) = some (tabP (l.map asA)) := by
        refine tabloop (l.map asA) (fun m => by unfold forward_Tree_l1; rw [dec_len]; rfl) (fun i a m ha => ?_)
        have hi := lt_get ha
        unfold forward_Tree_l1
        rw [dec_lt ha, idx_get ha]
        simp only [cond_true, Option.bind_some, sc i (by omega)]
      have t3 : iter (forward_Tree_l2 s) (0, ([] : List Str), ([] : List (Str × Bool))) = some (addNew [] [s], seenOf (addNew [] [s])) := by
        have := findloop (body := forward_Tree_l2 s) [s] (by simp) (fun p => by unfold forward_Tree_l2; rfl) (fun i x p hx hp => ?_) [] 0 (by simp) (by simp)
        · simpa [seenOf] using this
        · have hi := lt_get hx
          have hi2 : i < 1 := by simpa using hi
          unfold forward_Tree_l2
          simp only []
          rw [dec_lt hx, idx_get hx]
          simp only [cond_true, Option.bind_some, sc i (by omega)]
          rw [find_step [s] p x hp i (by simp at hi; omega)]; rfl
      simp only [Bool.not_true, cond_false, Bool.false_eq_true, if_false]
      rw [t1]
      simp only [Option.bind_some]
      rw [t3]
      simp only [Option.bind_some]
      have := Tree_loop l hl ok [s] (by simp) ((univ (l.map asA) [s]).length + 1) 0 (addNew [] [s]) [] (Inv.start (l.map asA) [s]) (by omega) (by simp)
      rw [List.drop_zero] at this
      rw [this]
      simp only [Option.bind_some, List.nil_append, List.drop_zero]
      rfl
  · have h1 : ((aliasF (l.map asA)).Code != 0) = true := by simpa using hc
    rw [h1]; rfl
end Go.Proofs.YtfhfjckjmacekaaGreat

/- Sending on: the closed example; what a step makes. -/
namespace Go.Proofs.YtfhfjckjmacekaaGreat
open Go.RowKit
set_option linter.unusedVariables false
set_option maxHeartbeats 1000000

theorem L_plain_eq (l : List Str) (hl : l.length ≤ 1048576) : L_plain l = some ⟨⟨[115, 64, 120], l.map (fun s => ⟨s, 1⟩), [55]⟩, ⟨[], []⟩⟩ := by
  unfold L_plain
  have := (iter_fold l (fun i (s : List TRecipient) => (i, s)) (fun s x => s ++ [(⟨x, 1⟩ : TRecipient)]) id (fun i s => s.length ≤ i) (body := L_plain_l1 l)
    (fun s _ => by unfold L_plain_l1; simp [dec_len]) (fun i x s hx hi => by
      have hlt := lt_get hx
      refine ⟨?_, by simp; omega⟩
      unfold L_plain_l1
      dsimp only
      rw [dec_lt hx, idx_get hx]
      simp only [cond_true, Option.bind_some, sc i (by omega)]
      rw [app_ok (by simp; omega)]; rfl) [] (by simp)).1
  rw [this, map_fold]
  rfl
def fA : Str := [97, 64, 120]
def fB : Str := [98, 64, 120]
def fC : Str := [99, 64, 120]
def fD : Str := [100, 64, 120]
def fL : List TForward := [⟨fA, [fB], true⟩, ⟨fB, [fA, fC], false⟩]
def fM : TMail := ⟨⟨[115, 64, 120], [⟨fA, 1⟩, ⟨fD, 1⟩], [55]⟩, ⟨[], []⟩⟩
def fX : TMail := ⟨⟨[115, 64, 120], [⟨fB, 0⟩], [55]⟩, ⟨[⟨dl, fA⟩], []⟩⟩
instance : DecidableEq TField := fun a b => decidable_of_iff (a.Name = b.Name ∧ a.Value = b.Value) (by cases a; cases b; simp)
instance : DecidableEq TMessage := fun a b => decidable_of_iff (a.Fields = b.Fields ∧ a.Body = b.Body) (by cases a; cases b; simp)
instance : DecidableEq TMail := fun a b => decidable_of_iff (a.Envelope = b.Envelope ∧ a.Message = b.Message) (by cases a; cases b; simp)
theorem L_forwards_eq : L_forwards = some true := by
  have hw : smallW fL := ⟨by decide, by decide⟩
  have hT : forward_Tree fL fA = some ([fA, fC], ⟨0, 0⟩) := by
    rw [forward_Tree_eq fL fA hw (by decide)]
    decide +kernel
  have hP : L_plain [fA, fD] = some fM := L_plain_eq _ (by decide)
  have hE : smallE fM.Envelope := ⟨by decide, by decide, by decide, by decide⟩
  have hM : smallM fM.Message := ⟨⟨by decide, by decide⟩, by decide⟩
  have hS : forward_Step fL fM = some ([fA, fD], [fX], [], ⟨0, 0⟩) := by
    rw [forward_Step_eq fL fM hw hE hM]
    decide +kernel
  unfold L_forwards
  have hT' : forward_Tree (([(TForward.mk (([97, 64, 120] : Str)) (([([98, 64, 120] : Str)] : List Str)) true), (TForward.mk (([98, 64, 120] : Str)) (([([97, 64, 120] : Str), ([99, 64, 120] : Str)] : List Str)) false)] : List TForward)) (([97, 64, 120] : Str)) = _ := hT
  have hP' : L_plain (([([97, 64, 120] : Str), ([100, 64, 120] : Str)] : List Str)) = _ := hP
  have hS' : forward_Step (([(TForward.mk (([97, 64, 120] : Str)) (([([98, 64, 120] : Str)] : List Str)) true), (TForward.mk (([98, 64, 120] : Str)) (([([97, 64, 120] : Str), ([99, 64, 120] : Str)] : List Str)) false)] : List TForward)) fM = _ := hS
  rw [hT', hP']
  simp only [Option.bind_some]
  rw [hS']
  simp only [Option.bind_some]
  rw [R_Strings_eq _ _ (by decide), R_Strings_eq _ _ (by decide)]
  decide +kernel

/-! ### what a step makes -/
theorem recs_addr (l : List Str) : ∀ o : List TRecipient, (l.foldl (fun o s => if o.any (fun r => r.Address == s) then o else o ++ [⟨s, 0⟩]) o).map (·.Address) = addNew (o.map (·.Address)) l := by
  induction l with
  | nil => intro o; rfl
  | cons s l ih =>
    intro o
    rw [List.foldl_cons, ih]
    show addNew _ l = addNew (add1 (o.map (·.Address)) s) l
    congr 1
    unfold add1
    have : (o.map (·.Address)).contains s = o.any fun r => r.Address == s := by
      rw [Bool.eq_iff_iff]; simp
    rw [this]
    split <;> simp
theorem recs_note (l : List Str) : ∀ o : List TRecipient, (∀ r ∈ o, r.Notify = 0) → ∀ r ∈ (l.foldl (fun o s => if o.any (fun r => r.Address == s) then o else o ++ [⟨s, 0⟩]) o), r.Notify = 0 := by
  induction l with
  | nil => intro o h; exact h
  | cons s l ih =>
    intro o h
    rw [List.foldl_cons]
    refine ih _ fun r hr => ?_
    split at hr
    · exact h r hr
    · rcases List.mem_append.1 hr with h1 | h1
      · exact h r h1
      · simp at h1; rw [h1]
theorem recs_map (l : List Str) : (recs l).map (·.Address) = addNew [] l := recs_addr l []
theorem recF_recs {l : List Str} (h : ∀ s ∈ l, addrP s = true) : recF (recs l) = ⟨0, 0⟩ := by
  have hm := recs_map l
  have hnd : ((recs l).map (·.Address)).Nodup := by rw [hm]; exact addNew_nodup l (by simp)
  unfold recF
  have : firstI (recQ (recs l)) 0 (recs l) = none := by
    rw [firstI_none]
    intro i r hr
    have hrm := List.mem_of_getElem? hr
    have ha : addrP r.Address = true := by
      have : r.Address ∈ addNew [] l := by rw [← hm]; exact List.mem_map_of_mem hrm
      rw [addNew_mem] at this
      rcases this with h1 | h1
      · simp at h1
      · exact h _ h1
    have hn : noteP r.Notify = true := by rw [recs_note l [] (by simp) r hrm]; rfl
    have hu : ((recs l).take (0 + i)).any (fun x => x.Address == r.Address) = false := by
      rw [Nat.zero_add, List.any_eq_false]
      intro y hy
      obtain ⟨j, hj⟩ := List.getElem?_of_mem hy
      have hji : j < i := by have := (List.getElem?_eq_some_iff.1 hj).1; simp at this; omega
      rw [List.getElem?_take_of_lt hji] at hj
      intro hc
      have hc : y.Address = r.Address := by simpa using hc
      have hlt := lt_get hr
      have hltj := lt_get hj
      rw [List.Nodup, List.pairwise_iff_getElem] at hnd
      refine hnd j i (by simpa using hltj) (by simpa using hlt) hji ?_
      simp only [List.getElem_map]
      rw [(List.getElem?_eq_some_iff.1 hj).2, (List.getElem?_eq_some_iff.1 hr).2, hc]
    unfold recQ
    rw [ha, hn, hu]; rfl
  rw [this]; rfl
theorem recs_len (l : List Str) : (recs l).length ≤ l.length := by
  have := congrArg List.length (recs_map l)
  rw [List.length_map] at this
  have h2 : (addNew [] l).length ≤ l.length := nodup_le (addNew_nodup l (by simp)) (fun x hx => by rw [addNew_mem] at hx; simpa using hx)
  omega
theorem recs_pos {l : List Str} (h : 1 ≤ l.length) : 1 ≤ (recs l).length := by
  have hm := recs_map l
  obtain ⟨s, t, rfl⟩ : ∃ s t, l = s :: t := by
    cases l with
    | nil => simp at h
    | cons s t => exact ⟨s, t, rfl⟩
  have : s ∈ (recs (s :: t)).map (·.Address) := by rw [hm, addNew_mem]; simp
  have := List.length_pos_of_mem this
  rw [List.length_map] at this
  exact this
/-- a mail that is sent on is valid -/
theorem onP_ok {l : List TForward} {m : TMail} {x : TForward} (ok : AliasOk (l.map asA)) (hx : x ∈ l) (hm : (envF m.Envelope).Code = 0) (hg : (msgF (onP x m).Message).Code = 0) : mailF (onP x m) = ⟨0, 0⟩ := by
  have hok : addrP x.Address = true ∧ 1 ≤ x.To.length ∧ x.To.length ≤ 60 ∧ ∀ s ∈ x.To, addrP s = true := ok.addr (asA x) (List.mem_map_of_mem hx)
  obtain ⟨a1, a2, a3, a4⟩ := hok
  have hE : envF (onP x m).Envelope = ⟨0, 0⟩ := by
    have h0 := hm
    unfold envF at h0 ⊢
    have e1 : fromB m.Envelope.From = false := by
      cases hf : fromB m.Envelope.From with
      | false => rfl
      | true => rw [hf] at h0; simp at h0
    rw [e1] at h0
    simp only [Bool.false_eq_true, if_false] at h0
    cases hb : (decide (m.Envelope.To.length < 1) || decide (60 < m.Envelope.To.length)) with
    | true => rw [hb] at h0; simp at h0
    | false =>
      rw [hb] at h0
      simp only [Bool.false_eq_true, if_false] at h0
      cases hi : (m.Envelope.Id != ([] : Str) && !nameP m.Envelope.Id) with
      | true => rw [hi] at h0; simp at h0
      | false =>
        show (if fromB m.Envelope.From = true then (⟨10, -10⟩ : TFault) else if (decide ((recs x.To).length < 1) || decide (60 < (recs x.To).length)) = true then ⟨2, -11⟩ else if (m.Envelope.Id != ([] : Str) && !nameP m.Envelope.Id) = true then ⟨10, -12⟩ else recF (recs x.To)) = _
        have r1 := recs_len x.To
        have r2 := recs_pos (l := x.To) a2
        have e2 : (decide ((recs x.To).length < 1) || decide (60 < (recs x.To).length)) = false := by
          rw [Bool.or_eq_false_iff, decide_eq_false_iff_not, decide_eq_false_iff_not]; omega
        rw [e1, e2, hi, recF_recs a4]; rfl
  unfold mailF
  have e1 : ((envF (onP x m).Envelope).Code != 0) = false := by rw [hE]; rfl
  have e2 : ((msgF (onP x m).Message).Code != 0) = false := by simp [hg]
  rw [e1, e2]; rfl
/-- the mails of a step -/
def fromRule (l : List TForward) (m : TMail) (y : TMail) : Prop := ∃ x ∈ l, y = onP x m ∧ (msgF y.Message).Code = 0
theorem stepR_mails (l : List TForward) (m : TMail) : ∀ (rs : List TRecipient) (s s' : StepS), stepR l m rs s = .inl s' → (∀ y ∈ s.2.1, fromRule l m y) → (∀ y ∈ s'.2.1, fromRule l m y) ∧ s'.2.1.length ≤ s.2.1.length + rs.length := by
  intro rs
  induction rs with
  | nil => intro s s' h hs; unfold stepR at h; cases h; exact ⟨hs, by simp⟩
  | cons r rs ih =>
    intro s s' h hs
    unfold stepR at h
    cases h1 : step1 l m s r with
    | inr f => rw [h1] at h; cases h
    | inl t =>
      rw [h1] at h
      have ht : (∀ y ∈ t.2.1, fromRule l m y) ∧ t.2.1.length ≤ s.2.1.length + 1 := by
        unfold step1 at h1
        split at h1
        · cases h1; exact ⟨hs, by simp⟩
        · rename_i x hx
          split at h1
          · cases h1; exact ⟨hs, by simp⟩
          · split at h1
            · cases h1
            · rename_i hc
              cases h1
              refine ⟨fun y hy => ?_, by simp⟩
              rcases List.mem_append.1 hy with h2 | h2
              · exact hs y h2
              · simp at h2
                subst h2
                exact ⟨x, List.mem_of_find?_eq_some hx, rfl, by simpa using hc⟩
      obtain ⟨q1, q2⟩ := ih t s' h ht.1
      exact ⟨q1, by simp; omega⟩
end Go.Proofs.YtfhfjckjmacekaaGreat

/- The law ForwardChangesNoBody in plain Lean. -/
namespace Go.Proofs.YtfhfjckjmacekaaGreat
open Go.RowKit
set_option linter.unusedVariables false
set_option maxHeartbeats 1000000

theorem smallW_of {l : List TForward} (h : bkL TForward.bk l ≤ 1048576) : smallW l := by
  have h1 := bkL_len (bk := TForward.bk) (fun x => by unfold TForward.bk; omega) l
  refine ⟨by omega, fun a ha => ?_⟩
  have h2 := bkL_mem (bk := TForward.bk) ha
  have h3 : TForward.bk a = a.Address.length + 1 + bkL (fun s : Str => s.length + 1) a.To + 1 + 1 := rfl
  have h4 := bkL_len (bk := fun s : Str => s.length + 1) (fun _ => by simp) a.To
  refine ⟨by omega, by omega, fun s hs => ?_⟩
  have h5 : s.length + 1 + 1 ≤ bkL (fun s : Str => s.length + 1) a.To := bkL_mem (bk := fun s : Str => s.length + 1) hs
  omega
theorem R_SameMessage_self (m : TMessage) (hf : m.Fields.length ≤ 1048576) : R_SameMessage m m = some true := by
  unfold R_SameMessage
  have e1 : ((m.Fields.length : Int) != (m.Fields.length : Int)) = false := by simp
  have e2 : (m.Body != m.Body) = false := by simp
  rw [e1, e2]
  simp only [cond_false, Option.bind_some]
  rw [iter_first m.Fields (fun _ _ => none) (.inl ()) .inr]
  · have : firstI (fun _ _ => (none : Option Bool)) 0 m.Fields = none := by rw [firstI_none]; intro i x _; rfl
    simp only [Option.bind_some]
    rw [this]; rfl
  · unfold R_SameMessage_l1; rw [dec_len]; rfl
  · intro i f hx
    have hi := lt_get hx
    unfold R_SameMessage_l1
    rw [dec_lt hx, idx_get hx]
    simp only [cond_true, Option.bind_some, sc i (by omega)]
    simp [allEq]
theorem L_ForwardChangesNoBody_true (a0 : List TForward) (a1 : TMail) (o0 : (okL TForward.ok) a0) (o1 : TMail.ok a1) (hk : (bkL TForward.bk) a0 + TMail.bk a1 ≤ 1048576) : L_ForwardChangesNoBody a0 a1 = some true := by
  have hb : TMail.bk a1 = TEnvelope.bk a1.Envelope + TMessage.bk a1.Message + 1 := rfl
  have hw : smallW a0 := smallW_of (by omega)
  have h1 : smallE a1.Envelope := smallE_of (by omega)
  have h2 : smallM a1.Message := smallM_of (by omega)
  unfold L_ForwardChangesNoBody
  rw [forward_Step_eq a0 a1 hw h1 h2, L_forwards_eq]
  simp only [Option.bind_some, Bool.not_true, cond_false, cond_true]
  by_cases hc : (stepP a0 a1).2.2.2.Code = 0
  · have e0 : ((stepP a0 a1).2.2.2.Code != 0) = false := by simp [hc]
    rw [e0]
    simp only [cond_false]
    unfold stepP at hc ⊢
    cases ha : (aliasF (a0.map asA)).Code != 0 with
    | true => rw [ha] at hc; simp only [if_true] at hc; simp [hc] at ha
    | false =>
      rw [ha] at hc
      simp only [Bool.false_eq_true, if_false] at hc ⊢
      cases hm : (mailF a1).Code != 0 with
      | true => rw [hm] at hc; simp only [if_true] at hc; simp [hc] at hm
      | false =>
        rw [hm] at hc
        simp only [Bool.false_eq_true, if_false] at hc ⊢
        obtain ⟨ok, _⟩ := aliasF_ok (l := a0.map asA) (by simpa using ha)
        obtain ⟨q1, q2⟩ := mailF_msg (m := a1) (by simpa using hm)
        obtain ⟨q4, _, _⟩ := headF_code _ (msgF_head q2)
        cases hs : stepR a0 a1 a1.Envelope.To ([], [], []) with
        | inr f =>
          exfalso
          rw [hs] at hc
          simp only at hc
          have key : ∀ (rs : List TRecipient) (s : StepS) (f : TFault), stepR a0 a1 rs s = .inr f → f.Code ≠ 0 := by
            intro rs
            induction rs with
            | nil => intro s f h; unfold stepR at h; cases h
            | cons r rs ih =>
              intro s f h
              unfold stepR at h
              cases h1 : step1 a0 a1 s r with
              | inl t => rw [h1] at h; exact ih t f h
              | inr g =>
                rw [h1] at h
                cases h
                unfold step1 at h1
                split at h1
                · cases h1
                · split at h1
                  · cases h1
                  · split at h1
                    · rename_i hx; cases h1; simpa using hx
                    · cases h1
          exact key _ _ _ hs hc
        | inl s =>
          simp only
          obtain ⟨p1, p2⟩ := stepR_mails a0 a1 _ _ _ hs (by simp)
          simp only [List.length_nil, Nat.zero_add] at p2
          have hcap := h1.2.2.1
          rw [iter_first s.2.1 (fun _ _ => none) (.inl ()) .inr]
          · have : firstI (fun _ _ => (none : Option Bool)) 0 s.2.1 = none := by rw [firstI_none]; intro i x _; rfl
            simp only [Option.bind_some]
            rw [this]
            simp only [Option.elim_none, Sum.elim_inl]
            rw [decide_eq_true (by omega)]
          · unfold L_ForwardChangesNoBody_l1
            dsimp only
            rw [dec_len]; rfl
          · intro i y hy
            have hi := lt_get hy
            obtain ⟨x, hx, rfl, hg⟩ := p1 y (List.mem_of_getElem? hy)
            have hxs := hw.2 x hx
            have hck : envelope_Check (onP x a1) = some ⟨0, 0⟩ := by
              have hsE : smallE (onP x a1).Envelope := by
                refine ⟨h1.1, h1.2.1, ?_, fun r hr => ?_⟩
                · have := recs_len x.To
                  show (recs x.To).length ≤ _
                  omega
                · have : r.Address ∈ (recs x.To).map (·.Address) := List.mem_map_of_mem hr
                  rw [recs_map, addNew_mem] at this
                  rcases this with h3 | h3
                  · simp at h3
                  · exact hxs.2.2 _ h3
              rw [envelope_Check_eq _ hsE (smallM_on hxs.1 h2 q4), onP_ok ok hx q1 hg]
            have hlen : (((onP x a1).Message.Fields.length : Int) != w64 ((a1.Message.Fields.length : Int) + 1)) = false := by
              rw [sc _ (by omega)]
              show ((((⟨dl, x.Address⟩ : TField) :: a1.Message.Fields).length : Int) != _) = false
              simp
            have hfrom : ((onP x a1).Envelope.From != a1.Envelope.From) = false := by
              show (a1.Envelope.From != a1.Envelope.From) = false
              simp
            have hcut : cut (onP x a1).Message.Fields 1 ((onP x a1).Message.Fields.length : Int) = some a1.Message.Fields := by
              have := cut_nl (l := (onP x a1).Message.Fields) (a := 1) (by show 1 ≤ ((⟨dl, x.Address⟩ : TField) :: a1.Message.Fields).length; simp)
              exact this
            have hsame : R_SameMessage ⟨a1.Message.Fields, (onP x a1).Message.Body⟩ a1.Message = some true := R_SameMessage_self a1.Message h2.1.1
            unfold L_ForwardChangesNoBody_l1
            dsimp only
            rw [dec_lt hy, idx_get hy]
            simp only [cond_true, Option.bind_some]
            rw [hlen, hfrom, hck]
            simp only [cond_false, Option.bind_some]
            have e3 : (!(allEq [((0 : Int) == 0), ((0 : Int) == 0)])) = false := by decide
            rw [e3]
            simp only [cond_false]
            rw [hcut]
            simp only [Option.bind_some]
            rw [hsame]
            simp only [Option.bind_some, Bool.not_true, cond_false, sc i (by omega)]
            rfl
  · have e0 : ((stepP a0 a1).2.2.2.Code != 0) = true := by simpa using hc
    rw [e0]
    simp only [cond_true, Option.bind_some, Option.some.injEq]
    have : (stepP a0 a1).2.1 = [] := by
      unfold stepP at hc ⊢
      split
      · rfl
      · split
        · rfl
        · rename_i ha hm
          rw [if_neg ha, if_neg hm] at hc
          cases hs : stepR a0 a1 a1.Envelope.To ([], [], []) with
          | inr f => rfl
          | inl s => rw [hs] at hc; simp at hc
    rw [this]; rfl
end Go.Proofs.YtfhfjckjmacekaaGreat

/- Sending on: what the reference computes. -/
namespace Go.Proofs.YtfhfjckjmacekaaGreat
open Go.RowKit
set_option linter.unusedVariables false
set_option maxHeartbeats 1000000

theorem R_asAliases_eq (l : List TForward) (hl : l.length ≤ 1048576) : R_asAliases l = some (l.map asA) := by
  unfold R_asAliases
  have := (iter_fold l (fun i (s : List TAlias) => (i, s)) (fun s x => s ++ [asA x]) id (fun i s => s.length ≤ i) (body := R_asAliases_l1 l)
    (fun s _ => by unfold R_asAliases_l1; simp [dec_len]) (fun i x s hx hi => by
      have hlt := lt_get hx
      refine ⟨?_, by simp; omega⟩
      unfold R_asAliases_l1
      dsimp only
      rw [dec_lt hx, idx_get hx]
      simp only [cond_true, Option.bind_some, sc i (by omega)]
      rw [app_ok (by simp; omega)]; rfl) [] (by simp)).1
  rw [this, map_fold]
  simp
theorem R_ForwardsFault_eq (l : List TForward) (hl : smallW l) : R_ForwardsFault l = some (aliasF (l.map asA)) := by
  unfold R_ForwardsFault
  rw [R_asAliases_eq l hl.1]
  simp only [Option.bind_some]
  rw [R_AliasesFault_eq _ (smallA_as hl)]; rfl
theorem R_RuleFor_eq (l : List TForward) (s : Str) (hl : l.length ≤ 1048576) : R_RuleFor l s = some (fwdI l s) := by
  unfold R_RuleFor fwdI
  rw [iter_first l (fun i x => if x.Address == s then some ((i : Nat) : Int) else none) (.inl ()) .inr]
  · simp only [Option.bind_some, elim_idx]
  · unfold R_RuleFor_l1; rw [dec_len]; rfl
  · intro i x hx
    have hi := lt_get hx
    unfold R_RuleFor_l1
    rw [dec_lt hx, idx_get hx]
    simp only [cond_true, Option.bind_some, sc i (by omega)]
    cases x.Address == s <;> rfl
theorem filter_fold {α : Type} (p : α → Bool) (l : List α) : ∀ o : List α, l.foldl (fun o x => if p x then o ++ [x] else o) o = o ++ l.filter p := by
  induction l with
  | nil => intro o; simp
  | cons x l ih => intro o; rw [List.foldl_cons, ih, List.filter_cons]; cases p x <;> simp
theorem R_KeptAt_eq (l : List TForward) (s : Str) (hl : smallW l) (ok : AliasOk (l.map asA)) : R_KeptAt l s = some (keptAt l s) := by
  unfold R_KeptAt keptAt
  have hU := univ_len ok [s]
  simp at hU
  have hrl := reached_len (l.map asA) [s]
  have hsa := smallA_as hl
  rw [R_asAliases_eq l hl.1]
  simp only [Option.bind_some]
  rw [R_Reached_eq (l.map asA) [s] hsa.1 (fun a ha => (hsa.2 a ha).2.1) (by simp) (by omega)]
  simp only [Option.bind_some]
  have := (iter_fold (reached (l.map asA) [s]) (fun i (o : List Str) => (i, o)) (fun o x => if keepP l x then o ++ [x] else o) id (fun i o => o.length ≤ i) (body := R_KeptAt_l1 l (reached (l.map asA) [s]))
    (fun o _ => by unfold R_KeptAt_l1; simp [dec_len]) (fun i x o hx hi => by
      have hlt := lt_get hx
      refine ⟨?_, by split <;> (try simp) <;> omega⟩
      unfold R_KeptAt_l1
      dsimp only
      rw [dec_lt hx, idx_get hx]
      simp only [cond_true, Option.bind_some, R_RuleFor_eq l x hl.1]
      have hkeep : ((bif decide (fwdI l x < 0) then some true else (idx l (fwdI l x)).bind fun v16 => some v16.Keep) : Option Bool) = some (keepP l x) := by
        unfold keepP
        rcases fwdI_is l x with ⟨f1, f2⟩ | ⟨j, y, f1, f2, f3, f4⟩
        · rw [f1, f2]; rfl
        · rw [f1, f3, decide_eq_false (by omega), idx_get f2]; rfl
      rw [hkeep]
      simp only [Option.bind_some, sc i (by omega)]
      cases keepP l x with
      | false => rfl
      | true =>
        simp only [cond_true, if_true]
        rw [app_ok (by simp; omega)]; rfl) [] (by simp)).1
  rw [this, filter_fold]
  simp
theorem L_ForwardTreeMatchesSpec_true (a0 : List TForward) (a1 : Str) (o0 : (okL TForward.ok) a0) (o1 : okStr a1) (hk : (bkL TForward.bk) a0 + (fun s => s.length + 1) a1 ≤ 1048576) : L_ForwardTreeMatchesSpec a0 a1 = some true := by
  dsimp only at hk
  have hw : smallW a0 := smallW_of (by omega)
  unfold L_ForwardTreeMatchesSpec
  rw [R_ForwardsFault_eq a0 hw, forward_Tree_eq a0 a1 hw (by omega), L_forwards_eq, forward_Validate_eq a0 hw]
  simp only [Option.bind_some, Bool.not_true, cond_false, fault_self]
  by_cases hc : (aliasF (a0.map asA)).Code = 0
  · obtain ⟨ok, hz⟩ := aliasF_ok hc
    rw [hz, R_AddressOk_eq a1 (by omega), R_KeptAt_eq a0 a1 hw ok]
    have e1 : ((0 : Int) != 0) = false := rfl
    have e2 : ((0 : Int) == 0) = true := rfl
    simp only [e1, e2, Bool.false_eq_true, if_false, cond_true, Option.bind_some]
    have hkl : (keptAt a0 a1).length ≤ 9223372036854775806 := by
      have h1 := List.length_filter_le (keepP a0) (reached (a0.map asA) [a1])
      have h2 := reached_len (a0.map asA) [a1]
      have h3 := univ_len ok [a1]
      simp at h3
      unfold keptAt; omega
    cases addrP a1 with
    | false =>
      simp only [Bool.not_false, if_true, cond_true, R_At_eq, Option.bind_some]
      have e3 : ((10 : Int) == 0) = false := rfl
      rw [e3]
      simp only [cond_false, Option.bind_some]
      rw [R_Strings_eq [] [] (by simp)]
      rfl
    | true =>
      simp only [Bool.not_true, Bool.false_eq_true, if_false, cond_false, Option.bind_some, e2, cond_true]
      rw [R_Strings_eq _ _ hkl]
      simp [allEq]
  · have e1 : ((aliasF (a0.map asA)).Code != 0) = true := by simpa using hc
    have e2 : ((aliasF (a0.map asA)).Code == 0) = false := by simpa using hc
    simp only [e1, e2, if_true, cond_false, Option.bind_some, fault_self, cond_true]
    rw [R_Strings_eq [] [] (by simp)]
    rfl

/-! ### a step -/
theorem low_add (c : UInt8) : c + 97 - 65 = c + 32 := by
  rw [← UInt8.toNat_inj]
  have := c.toNat_lt
  simp only [UInt8.toNat_add, UInt8.toNat_sub, UInt8.reduceToNat]
  omega
theorem R_Small_eq (s : Str) (hs : s.length ≤ 1048576) : R_Small s = some (lowP s) := by
  unfold R_Small lowP
  have := (iter_fold s (fun i (o : List UInt8) => (i, o)) (fun o c => o ++ [lowC c]) id (fun i o => o.length ≤ i) (body := R_Small_l1 s)
    (fun o _ => by unfold R_Small_l1; simp [dec_len]) (fun i c o hx hi => by
      have hlt := lt_get hx
      refine ⟨?_, by simp; omega⟩
      unfold R_Small_l1
      dsimp only
      rw [dec_lt hx, idx_get hx]
      simp only [cond_true, Option.bind_some, R_In_eq, u8_le1 65 c (by decide), u8_le2 90 c (by decide), sc i (by omega)]
      have hl : ((bif (decide ((65 : UInt8) ≤ c) && decide (c ≤ 90)) then some (c + 32) else some c) : Option UInt8) = some (lowC c) := by
        unfold lowC
        rw [low_add]
        cases decide ((65 : UInt8) ≤ c) && decide (c ≤ 90) <;> rfl
      rw [hl]
      simp only [Option.bind_some]
      rw [app_ok (by simp; omega)]; rfl) [] (by simp)).1
  rw [this, map_fold]
  simp
theorem R_same_eq (a b : Str) (ha : a.length ≤ 1048576) (hb : b.length ≤ 1048576) : R_same a b = some (sameP a b) := by
  unfold R_same sameP
  rw [R_Small_eq a ha, R_Small_eq b hb]; rfl
theorem R_Values_eq (m : TMessage) (n : Str) (hm : smallM m) (hn : n.length ≤ 1048576) : R_Values m n = some (getP m.Fields n) := by
  unfold R_Values
  have := (iter_fold m.Fields (fun i (s : List Str) => (i, s)) (fun o (f : TField) => if sameP f.Name n then o ++ [f.Value] else o) id (fun i s => s.length ≤ i) (body := R_Values_l1 m n)
    (fun s _ => by unfold R_Values_l1; simp [dec_len]) (fun i f s hf hi => by
      have hlt := lt_get hf
      have hcap := hm.1.1
      have hfs := hm.1.2 f (List.mem_of_getElem? hf)
      refine ⟨?_, by split <;> (try simp) <;> omega⟩
      unfold R_Values_l1
      dsimp only
      rw [dec_lt hf, idx_get hf]
      simp only [cond_true, Option.bind_some, sc i (by omega), R_same_eq _ _ hfs.1 hn]
      cases sameP f.Name n with
      | false => rfl
      | true =>
        simp only [cond_true, if_true]
        rw [app_ok (by simp; omega)]; rfl) [] (by simp)).1
  rw [this, get_fold]
  simp
theorem R_recipients_eq (l : List Str) (hl : l.length ≤ 1048576) : R_recipients l = some (recs l) := by
  unfold R_recipients recs
  have := (iter_fold l (fun i (s : List TRecipient) => (i, s)) (fun o s => if o.any (fun r => r.Address == s) then o else o ++ [⟨s, 0⟩]) id (fun i s => s.length ≤ i) (body := R_recipients_l1 l)
    (fun s _ => by unfold R_recipients_l1; simp [dec_len]) (fun i s o hs hi => by
      have hlt := lt_get hs
      refine ⟨?_, by split <;> (try simp) <;> omega⟩
      unfold R_recipients_l1
      dsimp only
      rw [dec_lt hs, idx_get hs]
      simp only [cond_true, Option.bind_some]
      rw [R_Known_eq o s (by omega)]
      have h0 := first_idx (fun r : TRecipient => r.Address == s) o 0
      generalize (firstI (fun i x => if x.Address == s then some ((i : Nat) : Int) else none) 0 o).getD (-1) = v at h0
      have h1 : decide (v < 0) = !(o.any fun r => r.Address == s) := by
        rw [← h0, ← decide_not, Bool.eq_iff_iff, decide_eq_true_eq, decide_eq_true_eq]; omega
      simp only [Option.bind_some, h1, sc i (by omega)]
      cases o.any fun r => r.Address == s with
      | true => rfl
      | false =>
        simp only [Bool.not_false, cond_true, Bool.false_eq_true, if_false]
        rw [app_ok (by simp; omega)]; rfl) [] (by simp)).1
  rw [this]; rfl
theorem R_Fronted_eq (m : TMessage) (n v : Str) (hf : m.Fields.length ≤ 1048576) : R_Fronted m n v = some ⟨⟨n, v⟩ :: m.Fields, m.Body⟩ := by
  unfold R_Fronted
  rw [app_ok (by simp)]
  simp only [Option.bind_some, List.nil_append]
  rw [app_ok (by simp; omega)]; rfl
def dlS : Str := [100, 101, 108, 105, 118, 101, 114, 101, 100, 45, 116, 111]
theorem getP_small (l : List TField) : getP l dlS = getP l dl := by
  have : lowP dlS = lowP dl := by decide +kernel
  unfold getP sameP
  rw [this]
theorem R_Onward_eq (l : List TForward) (m : TMail) (hl : smallW l) (h1 : smallE m.Envelope) (h2 : smallM m.Message) : R_Onward l m = some (stepP l m) := by
  unfold R_Onward stepP
  rw [R_ForwardsFault_eq l hl, R_MailFault_eq m h1 h2]
  simp only [Option.bind_some, R_At_eq]
  cases ha : (aliasF (l.map asA)).Code != 0 with
  | true => rfl
  | false =>
    simp only [cond_false, Bool.false_eq_true, if_false]
    obtain ⟨_, hz⟩ := aliasF_ok (l := l.map asA) (by simpa using ha)
    cases hm : (mailF m).Code != 0 with
    | true => rfl
    | false =>
      simp only [cond_false, Bool.false_eq_true, if_false]
      obtain ⟨q1, q2⟩ := mailF_msg (m := m) (by simpa using hm)
      have q3 := msgF_head q2
      obtain ⟨q4, q5, q6⟩ := headF_code _ q3
      have hgl : (getP m.Message.Fields dl).length ≤ 1048576 := by
        unfold getP
        have := List.length_filter_le (fun f : TField => sameP f.Name dl) m.Message.Fields
        simp; omega
      have hv : R_Values m.Message (([100, 101, 108, 105, 118, 101, 114, 101, 100, 45, 116, 111] : Str)) = some (getP m.Message.Fields dl) := by
        rw [← getP_small]
        exact R_Values_eq m.Message dlS h2 (by decide)
      have hloop := iter_listI (body := R_Onward_l1 l m) m.Envelope.To (fun i (s : StepS) => ((i : Int), s.1, s.2.1, s.2.2)) (fun _ rs s => (stepR l m rs s).elim .inl fun f => .inr ([], [], [], f))
        (fun i _ s => s.1.length ≤ i ∧ s.2.1.length ≤ i ∧ s.2.2.length ≤ i) (fun s _ => by unfold R_Onward_l1; dsimp only; rw [dec_len]; rfl) (fun p r rs s hp hi => by
          obtain ⟨i1, i2, i3⟩ := hi
          have hx : m.Envelope.To[p.length]? = some r := by simp [hp]
          have hlt := lt_get hx
          have hcap := h1.2.2.1
          have hb : R_Onward_l1 l m ((p.length : Int), s.1, s.2.1, s.2.2) = some ((step1 l m s r).elim (fun s' => .cont (((p.length + 1 : Nat) : Int), s'.1, s'.2.1, s'.2.2)) fun f => .out (.inr ([], [], [], f))) := by
            unfold R_Onward_l1 step1
            dsimp only
            rw [dec_lt hx, idx_get hx]
            simp only [cond_true, Option.bind_some]
            rw [R_RuleFor_eq l r.Address hl.1]
            simp only [Option.bind_some]
            rcases fwdI_is l r.Address with ⟨f1, f2⟩ | ⟨i, x, f1, f2, f3, f4⟩
            · rw [f1, f2]
              have : decide ((-1 : Int) < 0) = true := rfl
              rw [this]
              simp only [cond_true]
              rw [app_ok (by simp; omega)]
              simp only [Option.bind_some]
              unfold R_Onward_k2
              dsimp only
              rw [sc p.length (by omega)]; rfl
            · rw [f1, f3, decide_eq_false (by omega), hv]
              simp only [cond_false, Option.bind_some]
              rw [R_Has_eq _ _ (by omega)]
              simp only [Option.bind_some]
              cases hcon : (getP m.Message.Fields dl).contains r.Address with
              | true =>
                simp only [cond_true, if_true]
                rw [app_ok (by simp; omega)]
                simp only [Option.bind_some]
                unfold R_Onward_k2
                dsimp only
                rw [sc p.length (by omega)]; rfl
              | false =>
                simp only [cond_false, Bool.false_eq_true, if_false]
                have hxm := hl.2 x (List.mem_of_getElem? f2)
                rw [idx_get f2]
                simp only [Option.bind_some]
                have hkeep : ((bif x.Keep then (app 8796093022208 s.2.2 ([r.Address] : List Str)).bind fun v36 => some v36 else some s.2.2) : Option (List Str)) = some (if x.Keep then s.2.2 ++ [r.Address] else s.2.2) := by
                  cases x.Keep with
                  | false => rfl
                  | true =>
                    simp only [cond_true, if_true]
                    rw [app_ok (by simp; omega)]; rfl
                rw [hkeep]
                simp only [Option.bind_some]
                rw [R_recipients_eq x.To hxm.2.1, R_Fronted_eq m.Message _ _ h2.1.1]
                simp only [Option.bind_some]
                have hon : (⟨⟨[68, 101, 108, 105, 118, 101, 114, 101, 100, 45, 84, 111], r.Address⟩ :: m.Message.Fields, m.Message.Body⟩ : TMessage) = (onP x m).Message := by rw [← f4]; rfl
                rw [hon, R_MessageFault_eq _ (smallM_on hxm.1 h2 q4)]
                simp only [Option.bind_some, R_At_eq]
                have hon2 : (⟨⟨m.Envelope.From, recs x.To, m.Envelope.Id⟩, (onP x m).Message⟩ : TMail) = onP x m := rfl
                rw [hon2]
                cases (msgF (onP x m).Message).Code != 0 with
                | true => rfl
                | false =>
                  simp only [cond_false, Bool.false_eq_true, if_false]
                  rw [app_ok (by simp; omega)]
                  simp only [Option.bind_some]
                  unfold R_Onward_k2
                  dsimp only
                  rw [sc p.length (by omega)]; rfl
          cases hs : step1 l m s r with
          | inr f =>
            left
            rw [hb, hs]
            unfold stepR
            rw [hs]; rfl
          | inl s' =>
            right
            refine ⟨s', by rw [hb, hs]; rfl, ?_, ?_⟩
            · show (stepR l m (r :: rs) s).elim _ _ = _
              rw [show stepR l m (r :: rs) s = stepR l m rs s' by rw [stepR, hs]]
            · unfold step1 at hs
              split at hs
              · cases hs; dsimp only; refine ⟨?_, ?_, ?_⟩ <;> (try simp only [List.length_append, List.length_singleton]) <;> omega
              · split at hs
                · cases hs; dsimp only; refine ⟨?_, ?_, ?_⟩ <;> (try simp only [List.length_append, List.length_singleton]) <;> omega
                · split at hs
                  · cases hs
                  · cases hs; dsimp only; refine ⟨?_, ?_, ?_⟩ <;> (try split) <;> (try simp only [List.length_append, List.length_singleton]) <;> omega) (s0 := ((0 : Int), ([] : List Str), ([] : List TMail), ([] : List Str))) ([], [], []) rfl (by simp)
      rw [hloop, hz]
      simp only [Option.bind_some]
      cases stepR l m m.Envelope.To ([], [], []) with
      | inl s => rfl
      | inr f => rfl
theorem R_SameMail_self (m : TMail) (h1 : m.Envelope.To.length ≤ 1048576) (h2 : m.Message.Fields.length ≤ 1048576) : R_SameMail m m = some true := by
  unfold R_SameMail
  have e1 : (m.Envelope.From != m.Envelope.From) = false := by simp
  have e2 : (m.Envelope.Id != m.Envelope.Id) = false := by simp
  have e3 : ((m.Envelope.To.length : Int) != (m.Envelope.To.length : Int)) = false := by simp
  rw [e1, e2, e3]
  simp only [cond_false, Option.bind_some]
  rw [iter_first m.Envelope.To (fun _ _ => none) (.inl ()) .inr]
  · have : firstI (fun _ _ => (none : Option Bool)) 0 m.Envelope.To = none := by rw [firstI_none]; intro i x _; rfl
    simp only [Option.bind_some]
    rw [this]
    simp only [Option.elim_none, Sum.elim_inl]
    rw [R_SameMessage_self _ h2]; rfl
  · unfold R_SameMail_l1; rw [dec_len]; rfl
  · intro i f hx
    have hi := lt_get hx
    unfold R_SameMail_l1
    rw [dec_lt hx, idx_get hx]
    simp only [cond_true, Option.bind_some, sc i (by omega)]
    simp [allEq]
theorem R_SameMails_self (l : List TMail) (hl : l.length ≤ 1048576) (h : ∀ m ∈ l, m.Envelope.To.length ≤ 1048576 ∧ m.Message.Fields.length ≤ 1048576) : R_SameMails l l = some true := by
  unfold R_SameMails
  have e3 : ((l.length : Int) != (l.length : Int)) = false := by simp
  rw [e3]
  simp only [cond_false]
  rw [iter_first l (fun _ _ => none) (.inl ()) .inr]
  · have : firstI (fun _ _ => (none : Option Bool)) 0 l = none := by rw [firstI_none]; intro i x _; rfl
    simp only [Option.bind_some]
    rw [this]; rfl
  · unfold R_SameMails_l1; rw [dec_len]; rfl
  · intro i m hx
    have hi := lt_get hx
    obtain ⟨q1, q2⟩ := h m (List.mem_of_getElem? hx)
    unfold R_SameMails_l1
    rw [dec_lt hx, idx_get hx]
    simp only [cond_true, Option.bind_some, sc i (by omega), R_SameMail_self m q1 q2]
    rfl
theorem stepR_lens (l : List TForward) (m : TMail) : ∀ (rs : List TRecipient) (s s' : StepS), stepR l m rs s = .inl s' → s'.1.length ≤ s.1.length + rs.length ∧ s'.2.2.length ≤ s.2.2.length + rs.length := by
  intro rs
  induction rs with
  | nil => intro s s' h; unfold stepR at h; cases h; simp
  | cons r rs ih =>
    intro s s' h
    unfold stepR at h
    cases h1 : step1 l m s r with
    | inr f => rw [h1] at h; cases h
    | inl t =>
      rw [h1] at h
      have ht : t.1.length ≤ s.1.length + 1 ∧ t.2.2.length ≤ s.2.2.length + 1 := by
        unfold step1 at h1
        split at h1
        · cases h1; simp
        · split at h1
          · cases h1; simp
          · split at h1
            · cases h1
            · cases h1; dsimp only; refine ⟨by omega, ?_⟩; split <;> simp
      obtain ⟨q1, q2⟩ := ih t s' h
      simp only [List.length_cons]
      omega
theorem L_ForwardStepMatchesSpec_true (a0 : List TForward) (a1 : TMail) (o0 : (okL TForward.ok) a0) (o1 : TMail.ok a1) (hk : (bkL TForward.bk) a0 + TMail.bk a1 ≤ 1048576) : L_ForwardStepMatchesSpec a0 a1 = some true := by
  have hb : TMail.bk a1 = TEnvelope.bk a1.Envelope + TMessage.bk a1.Message + 1 := rfl
  have hw : smallW a0 := smallW_of (by omega)
  have h1 : smallE a1.Envelope := smallE_of (by omega)
  have h2 : smallM a1.Message := smallM_of (by omega)
  have hcap := h1.2.2.1
  have hlen : (stepP a0 a1).1.length ≤ 1048576 ∧ (stepP a0 a1).2.2.1.length ≤ 1048576 ∧ (stepP a0 a1).2.1.length ≤ 1048576 ∧ ∀ m ∈ (stepP a0 a1).2.1, m.Envelope.To.length ≤ 1048576 ∧ m.Message.Fields.length ≤ 1048576 := by
    unfold stepP
    split
    · simp
    · split
      · simp
      · rename_i hm
        have hm0 : (mailF a1).Code = 0 := by simpa using hm
        obtain ⟨q1, q2⟩ := mailF_msg hm0
        obtain ⟨q4, _, _⟩ := headF_code _ (msgF_head q2)
        cases hs : stepR a0 a1 a1.Envelope.To ([], [], []) with
        | inr f => simp
        | inl s =>
          obtain ⟨p1, p2⟩ := stepR_mails a0 a1 _ _ _ hs (by simp)
          obtain ⟨p3, p4⟩ := stepR_lens a0 a1 _ _ _ hs
          simp only [List.length_nil, Nat.zero_add] at p2 p3 p4
          refine ⟨by dsimp only; omega, by dsimp only; omega, by dsimp only; omega, fun m hm => ?_⟩
          obtain ⟨x, hx, rfl, _⟩ := p1 m hm
          have hxs := hw.2 x hx
          have := recs_len x.To
          refine ⟨?_, ?_⟩
          · show (recs x.To).length ≤ _
            omega
          · show ((⟨dl, x.Address⟩ : TField) :: a1.Message.Fields).length ≤ _
            simp; omega
  obtain ⟨n1, n2, n3, n4⟩ := hlen
  unfold L_ForwardStepMatchesSpec
  rw [forward_Step_eq a0 a1 hw h1 h2, R_Onward_eq a0 a1 hw h1 h2, L_forwards_eq]
  simp only [Option.bind_some, cond_true, fault_self]
  rw [R_Strings_eq _ _ (by omega), R_SameMails_self _ n3 n4, R_Strings_eq _ _ (by omega)]
  simp
end Go.Proofs.YtfhfjckjmacekaaGreat

/- The law ForwardStepMatchesSpec in plain Lean: see PureFwd5. -/
namespace Go.Proofs.YtfhfjckjmacekaaGreat
open Go.RowKit
end Go.Proofs.YtfhfjckjmacekaaGreat

namespace Go.Proofs.YtfhfjckjmacekaaGreat
open Go.RowKit
set_option maxRecDepth 100000
set_option maxHeartbeats 40000000
set_option linter.unusedVariables false
theorem L_plain_run (a0 : List Str) (r : TMail) (hr : L_plain a0 = some r) : Run Tryz.prog 25 [.l cS a0] (.agg [.s r.Envelope.From, .l TRecipient.pc r.Envelope.To, .s r.Envelope.Id, .l TField.pc r.Message.Fields, .l cU r.Message.Body]) := by
 unfold L_plain at hr
 refine rf (fn := Tryz.f25) ⟨Tryz.func25, rfl, by kernel_rfl⟩ rfl (fun _ => rfl) fun g0 hg => ?_
 refine rn tk 10 rfl ?_
 refine awpl_adoptC 1003 (o := 3) (j := 1) 64 2 rfl rfl rfl rfl (hO ?_)
 refine rn tk 1 rfl ?_
 refine awpl_adoptC 2003 (o := 3) (j := 1) 64 2 rfl rfl rfl rfl (hO ?_)
 refine rn tk 9 rfl ?_
 refine al1 hr (fun s1 => [(0, .l cS a0), (2, .ptr 2 0), (3, .ptr 3 0), (4, .i s1.1)]) (fun s1 => [(2003, .row 64 false 2 (List.map TRecipient.pc s1.2)), (3, .cells [.s (([115, 64, 120] : Str)), .hs 2003 0, .s (([55] : Str)), .l TField.pc ([]), .l cU ([])]), (2, .cells [.s (([] : Str)), .l TRecipient.pc ([]), .s (([] : Str)), .l TField.pc ([]), .l cU ([])])]) (.exit 0) (fun b2 => [(2, .ptr 2 0), (3, .ptr 3 0)]) (fun b2 => [(2003, .row 64 false 2 (List.map TRecipient.pc b2)), (3, .cells [.s (([115, 64, 120] : Str)), .hs 2003 0, .s (([55] : Str)), .l TField.pc ([]), .l cU ([])]), (2, .cells [.s (([] : Str)), .l TRecipient.pc ([]), .s (([] : Str)), .l TField.pc ([]), .l cU ([])])]) rfl rfl (fun s1 x3 hr => ?_) (fun b2 hr => ?_)
 ·
  unfold L_plain_l1 at hr
  refine rn tk 5 rfl ?_
  refine wn tk rfl rfl rfl ?_
  refine rn tk 3 rfl ?_
  refine ac 10 hr rfl (fun c4 hr => ?_) (fun c4 hr => ?_)
  ·
   refine rn tk 4 rfl ?_
   obtain ⟨v5, h6, hr⟩ := bind_some hr
   refine dr 9 [(21, .l TRecipient.pc (([(TRecipient.mk v5 1)] : List TRecipient))), (20, .agg [.s v5, .i 1]), (19, .s v5), (18, .ep [pS v5]), (17, .i s1.1), (16, .l cS a0), (15, .hs 2003 0), (14, .ptr 3 1), (13, .ptr 3 0)] mixed (by kernel_rfl) rfl rfl (pq tk rfl (.plain rfl) (pq tk rfl (.plain rfl) (pq tk rfl (.plain rfl) (pq tk rfl (.plain rfl) (pq tk rfl (.plain rfl) (.run (.plain rfl) (opG_q (ev_idx (f := cS) rfl rfl ty_s_string ty_string rfl h6)) (pq tk rfl (.plain rfl) (pq tk rfl (.plain rfl) (.run (.plain rfl) (opG_lit (F := TRecipient.pc) (l := ([(TRecipient.mk v5 1)] : List TRecipient)) ty_s_api_Recipient ty_api_Recipient rfl (fun _ => rfl) rfl rfl) .nil))))))))) rfl ?_
   obtain ⟨v7, h8, hr⟩ := bind_some hr
   refine wa tk h8 rfl rfl rfl rfl (fun _ => rfl) rfl rfl ?_
   refine rn tk 11 rfl ?_
   cases hr
   exact atc rfl rfl
  ·
   refine rn tk 2 rfl ?_
   cases hr
   exact ato rfl rfl rfl rfl
 ·
  refine rn tk 8 rfl ?_
  refine awp_pubC (o := 2) (j := 1) (F := TRecipient.pc) (l := b2) rfl rfl rfl (hC ?_)
  refine rn tk 1 rfl ?_
  cases hr
  exact kr tk (.inr rfl) rfl rfl
theorem R_Strings_run (a0 : List Str) (a1 : List Str) (r : Bool) (hr : R_Strings a0 a1 = some r) : Run Tryz.prog 12 [.l cS a0, .l cS a1] (.bo r) := by
 unfold R_Strings at hr
 refine rf (fn := Tryz.f12) ⟨Tryz.func12, rfl, by kernel_rfl⟩ rfl (fun _ => rfl) fun g0 hg => ?_
 refine rn tk 9 rfl ?_
 refine wn tk rfl rfl rfl ?_
 refine rn tk 1 rfl ?_
 refine wn tk rfl rfl rfl ?_
 refine rn tk 3 rfl ?_
 refine ac 10 hr rfl (fun c1 hr => ?_) (fun c1 hr => ?_)
 ·
  refine rn tk 7 rfl ?_
  cases hr
  exact kr tk (.inr rfl) rfl rfl
 ·
  refine rn tk 9 rfl ?_
  refine al2 hr (fun s2 => [(0, .l cS a0), (1, .l cS a1), (5, .i s2)]) (fun s2 => []) (.exit 0) (fun b3 => []) (fun b3 => []) .ret (fun b4 => [(4, .bo b4)]) (fun b4 => []) rfl rfl (fun s2 x6 hr => ?_) (fun b3 hr => ?_) (fun b4 hr => ?_)
  ·
   unfold R_Strings_l1 at hr
   refine rn tk 5 rfl ?_
   refine wn tk rfl rfl rfl ?_
   refine rn tk 3 rfl ?_
   refine ac 14 hr rfl (fun c7 hr => ?_) (fun c7 hr => ?_)
   ·
    refine rn tk 5 rfl ?_
    obtain ⟨v8, h9, hr⟩ := bind_some hr
    obtain ⟨v10, h11, hr⟩ := bind_some hr
    refine dr 8 [(24, .s v10), (23, .ep [pS v10]), (22, .i s2), (21, .l cS a1), (20, .s v8), (19, .ep [pS v8]), (18, .i s2), (17, .l cS a0)] mixed (by kernel_rfl) rfl rfl (pq tk rfl (.plain rfl) (pq tk rfl (.plain rfl) (.run (.plain rfl) (opG_q (ev_idx (f := cS) rfl rfl ty_s_string ty_string rfl h9)) (pq tk rfl (.plain rfl) (pq tk rfl (.plain rfl) (pq tk rfl (.plain rfl) (.run (.plain rfl) (opG_q (ev_idx (f := cS) rfl rfl ty_s_string ty_string rfl h11)) (pq tk rfl (.plain rfl) .nil)))))))) rfl ?_
    refine rn tk 3 rfl ?_
    refine ac 25 hr rfl (fun c12 hr => ?_) (fun c12 hr => ?_)
    ·
     refine rn tk 8 rfl ?_
     cases hr
     exact ato rfl rfl rfl rfl
    ·
     refine rn tk 8 rfl ?_
     cases hr
     exact atc rfl rfl
   ·
    refine rn tk 2 rfl ?_
    cases hr
    exact ato rfl rfl rfl rfl
  ·
   refine rn tk 8 rfl ?_
   cases hr
   exact kr tk (.inr rfl) rfl rfl
  ·
   refine rn tk 2 rfl ?_
   cases hr
   exact kr tk (.inr rfl) rfl rfl
theorem basic_Failed_run (a0 : TFault) (r : Bool) (hr : basic_Failed a0 = some r) : Run Tryz.prog 18 [.agg [.i a0.Code, .i a0.Index]] (.bo r) := by
 unfold basic_Failed at hr
 refine rf (fn := Tryz.f18) ⟨Tryz.func18, rfl, by kernel_rfl⟩ rfl (fun _ => rfl) fun g0 hg => ?_
 refine rn tk 15 rfl ?_
 cases hr
 exact kr tk (.inr rfl) rfl rfl
theorem basic_Fault_run (a0 : Int) (a1 : Int) (r : TFault) (hr : basic_Fault a0 a1 = some r) : Run Tryz.prog 20 [.i a0, .i a1] (.agg [.i r.Code, .i r.Index]) := by
 unfold basic_Fault at hr
 refine rf (fn := Tryz.f20) ⟨Tryz.func20, rfl, by kernel_rfl⟩ rfl (fun _ => rfl) fun g0 hg => ?_
 refine rn tk 14 rfl ?_
 cases hr
 exact kr tk (.inr rfl) rfl rfl
theorem basic_None_run  (r : TFault) (hr : basic_None = some r) : Run Tryz.prog 24 [] (.agg [.i r.Code, .i r.Index]) := by
 unfold basic_None at hr
 refine rf (fn := Tryz.f24) ⟨Tryz.func24, rfl, by kernel_rfl⟩ rfl (fun _ => rfl) fun g0 hg => ?_
 refine rn tk 12 rfl ?_
 cases hr
 exact kr tk (.inr rfl) rfl rfl
theorem basic_Letter_run (a0 : UInt8) (r : Bool) (hr : basic_Letter a0 = some r) : Run Tryz.prog 75 [.u8 a0] (.bo r) := by
 unfold basic_Letter at hr
 refine rf (fn := Tryz.f75) ⟨Tryz.func75, rfl, by kernel_rfl⟩ rfl (fun _ => rfl) fun g0 hg => ?_
 refine rn tk 5 rfl ?_
 refine jb hr (fun j1 => [(2, .bo j1)]) (fun j1 => []) (fun j1 hr => ?_) (fun j1 hr => ?_)
 ·
  refine rn tk 4 rfl ?_
  refine bs 5 hr rfl (fun c2 hr => ?_) (fun c2 hr => ?_)
  ·
   refine rn tk 4 rfl ?_
   refine bs 9 hr rfl (fun c3 hr => ?_) (fun c3 hr => ?_)
   ·
    refine rn tk 17 rfl ?_
    cases hr
    exact jn _ rfl rfl rfl
   ·
    refine rn tk 3 rfl ?_
    refine bs 12 hr rfl (fun c4 hr => ?_) (fun c4 hr => ?_)
    ·
     refine rn tk 5 rfl ?_
     refine bs 17 hr rfl (fun c5 hr => ?_) (fun c5 hr => ?_)
     ·
      refine rn tk 9 rfl ?_
      cases hr
      exact jn _ rfl rfl rfl
     ·
      refine rn tk 3 rfl ?_
      refine bs 20 hr rfl (fun c6 hr => ?_) (fun c6 hr => ?_)
      ·
       refine rn tk 6 rfl ?_
       cases hr
       exact jn _ rfl rfl rfl
      ·
       refine rn tk 6 rfl ?_
       cases hr
       exact jn _ rfl rfl rfl
    ·
     refine rn tk 8 rfl ?_
     refine bs 20 hr rfl (fun c7 hr => ?_) (fun c7 hr => ?_)
     ·
      refine rn tk 6 rfl ?_
      cases hr
      exact jn _ rfl rfl rfl
     ·
      refine rn tk 6 rfl ?_
      cases hr
      exact jn _ rfl rfl rfl
  ·
   refine rn tk 7 rfl ?_
   refine bs 12 hr rfl (fun c8 hr => ?_) (fun c8 hr => ?_)
   ·
    refine rn tk 5 rfl ?_
    refine bs 17 hr rfl (fun c9 hr => ?_) (fun c9 hr => ?_)
    ·
     refine rn tk 9 rfl ?_
     cases hr
     exact jn _ rfl rfl rfl
    ·
     refine rn tk 3 rfl ?_
     refine bs 20 hr rfl (fun c10 hr => ?_) (fun c10 hr => ?_)
     ·
      refine rn tk 6 rfl ?_
      cases hr
      exact jn _ rfl rfl rfl
     ·
      refine rn tk 6 rfl ?_
      cases hr
      exact jn _ rfl rfl rfl
   ·
    refine rn tk 8 rfl ?_
    refine bs 20 hr rfl (fun c11 hr => ?_) (fun c11 hr => ?_)
    ·
     refine rn tk 6 rfl ?_
     cases hr
     exact jn _ rfl rfl rfl
    ·
     refine rn tk 6 rfl ?_
     cases hr
     exact jn _ rfl rfl rfl
 ·
  refine rn tk 1 rfl ?_
  cases hr
  exact kr tk (.inr rfl) rfl rfl
theorem basic_Name_run (a0 : Str) (r : Bool) (hr : basic_Name a0 = some r) : Run Tryz.prog 81 [.s a0] (.bo r) := by
 unfold basic_Name at hr
 refine rf (fn := Tryz.f81) ⟨Tryz.func81, rfl, by kernel_rfl⟩ rfl (fun _ => rfl) fun g0 hg => ?_
 refine rn tk 5 rfl ?_
 refine jb hr (fun j1 => [(2, .bo j1)]) (fun j1 => []) (fun j1 hr => ?_) (fun j1 hr => ?_)
 ·
  refine rn tk 4 rfl ?_
  refine bs 5 hr rfl (fun c2 hr => ?_) (fun c2 hr => ?_)
  ·
   refine rn tk 5 rfl ?_
   refine bs 10 hr rfl (fun c3 hr => ?_) (fun c3 hr => ?_)
   ·
    refine rn tk 1 rfl ?_
    refine ug rfl rfl rfl ?_
    refine ct hr (fun j4 => [(10, .bo true), (12, .bo j4)]) (fun j4 => []) (fun j4 hr jump4 => ?_) (fun j4 hr => ?_)
    ·
     refine il (fn := Tryz.f77) (args := [.s a0, .fn (.func 100) [] []]) 400000 499999 [(10, .bo true)] rfl ⟨Tryz.func77, rfl, by kernel_rfl⟩ rfl rfl rfl fun T4 ds4 => ?_
     refine rn tk 14 rfl ?_
     refine al2 hr (fun s5 => [(0, .s a0), (1, .fn (.func 100) [] []), (7, .i ((a0.length : Int))), (8, .i s5)]) (fun s5 => [(499999, .sus g0.w.heap.size ds4), (400010, .hold (.bo true) (T4.getD 10 undef))]) (.exit 0) (fun b6 => []) (fun b6 => [(499999, .sus g0.w.heap.size ds4), (400010, .hold (.bo true) (T4.getD 10 undef))]) .ret (fun b7 => [(4, .bo false)]) (fun b7 => [(499999, .sus g0.w.heap.size ds4), (400010, .hold (.bo true) (T4.getD 10 undef))]) rfl rfl (fun s5 x9 hr => ?_) (fun b6 hr => ?_) (fun b7 hr => ?_)
     ·
      unfold basic_Name_l1 at hr
      refine rn tk 6 rfl ?_
      refine ac 9 hr rfl (fun c10 hr => ?_) (fun c10 hr => ?_)
      ·
       refine rn tk 15 rfl ?_
       obtain ⟨v11, h12, hr⟩ := bind_some hr
       refine ws tk h12 rfl rfl rfl rfl ?_
       refine il (fn := Tryz.f100) (args := [.u8 v11]) 600000 699999 [(0, .s a0), (1, .fn (.func 100) [] []), (7, .i ((a0.length : Int))), (8, .i s5)] rfl ⟨Tryz.func100, rfl, by kernel_rfl⟩ rfl rfl rfl fun T6 ds6 => ?_
       refine rn tk 5 rfl ?_
       refine jb hr (fun j13 => [(2, .bo j13)]) (fun j13 => [(699999, .sus g0.w.heap.size ds6), (600000, .hold (.s a0) (T6.getD 0 undef)), (600001, .hold (.fn (.func 100) [] []) (T6.getD 1 undef)), (600007, .hold (.i ((a0.length : Int))) (T6.getD 7 undef)), (600008, .hold (.i s5) (T6.getD 8 undef)), (499999, .sus g0.w.heap.size ds4), (400010, .hold (.bo true) (T4.getD 10 undef))]) (fun j13 hr => ?_) (fun j13 hr => ?_)
       ·
        refine rn tk 2 rfl ?_
        obtain ⟨v14, h15, hr⟩ := bind_some hr
        refine cl (basic_Letter_run _ _ h15) rfl rfl ?_
        refine rn tk 1 rfl ?_
        refine bs 5 hr rfl (fun c16 hr => ?_) (fun c16 hr => ?_)
        ·
         refine rn tk 13 rfl ?_
         cases hr
         exact jn _ rfl rfl rfl
        ·
         refine rn tk 4 rfl ?_
         refine bs 9 hr rfl (fun c17 hr => ?_) (fun c17 hr => ?_)
         ·
          refine rn tk 9 rfl ?_
          cases hr
          exact jn _ rfl rfl rfl
         ·
          refine rn tk 4 rfl ?_
          refine bs 13 hr rfl (fun c18 hr => ?_) (fun c18 hr => ?_)
          ·
           refine rn tk 5 rfl ?_
           cases hr
           exact jn _ rfl rfl rfl
          ·
           refine rn tk 5 rfl ?_
           cases hr
           exact jn _ rfl rfl rfl
       ·
        refine rn tk 1 rfl ?_
        refine ie tk [.bo j13] [(0, .s a0), (1, .fn (.func 100) [] []), (7, .i ((a0.length : Int))), (8, .i s5)] [(499999, .sus g0.w.heap.size ds4), (400010, .hold (.bo true) (T4.getD 10 undef))] (.inr rfl) rfl rfl rfl rfl (hO ?_)
        refine rn tk 3 rfl ?_
        refine ac 16 hr rfl (fun c19 hr => ?_) (fun c19 hr => ?_)
        ·
         refine rn tk 8 rfl ?_
         cases hr
         exact ato rfl rfl rfl rfl
        ·
         refine rn tk 7 rfl ?_
         cases hr
         exact atc rfl rfl
      ·
       refine rn tk 2 rfl ?_
       cases hr
       exact ato rfl rfl rfl rfl
     ·
      refine rn tk 8 rfl ?_
      refine ie tk [.bo true] [(10, .bo true)] [] (.inr rfl) rfl rfl rfl rfl ?_
      cases hr
      exact jump4 _ _ rfl rfl
     ·
      refine rn tk 2 rfl ?_
      refine ie tk [.bo false] [(10, .bo true)] [] (.inr rfl) rfl rfl rfl rfl ?_
      cases hr
      exact jump4 _ _ rfl rfl
    ·
     refine rn tk 3 rfl ?_
     cases hr
     exact jn _ rfl rfl rfl
   ·
    refine rn tk 5 rfl ?_
    cases hr
    exact jn _ rfl rfl rfl
  ·
   refine rn tk 10 rfl ?_
   cases hr
   exact jn _ rfl rfl rfl
 ·
  refine rn tk 1 rfl ?_
  cases hr
  exact kr tk (.inr rfl) rfl rfl
end Go.Proofs.YtfhfjckjmacekaaGreat

/- Library functions compute what their Lean functions do. -/
namespace Go.Proofs.YtfhfjckjmacekaaGreat
open Go.RowKit
set_option maxRecDepth 100000
theorem old_drewN (g : G) (q : Nat) : Old (fun _ => False) g ⟨g.w.drewN q, g.u, g.loc⟩ :=
  ⟨rfl, rfl, rfl, ⟨Nat.le_refl _, fun _ _ => Nat.le_refl _, fun _ _ _ _ => rfl, fun _ h => h⟩, fun _ _ _ => ⟨rfl, rfl⟩⟩
theorem str_arg {g : G} {s : Str} {v : Value} (h : Rel g (.s s) v) : v = .string (strB s) := rel_b h
theorem strings_IndexByte_run (s : Str) (c : UInt8) (r : Int) (hr : strings_IndexByte s c = some r) : Run Tryz.prog 76 [.s s, .u8 c] (.i r) := by
  unfold strings_IndexByte at hr
  cases hr
  refine ⟨⟨_, _, ⟨Tryz.func76, rfl, by kernel_rfl⟩⟩, fun g vs hw hg ha => ?_⟩
  obtain ⟨hsz, hrel⟩ := ha
  obtain ⟨l⟩ := vs
  match l, hsz with
  | [x, y], _ =>
    obtain rfl := str_arg (hrel 0 _ rfl)
    have e2 : y = .int .u8 (c.toNat : Int) := rel_b (hrel 1 _ rfl)
    subst e2
    refine callsIn_wide.2 ((Tryz.strings_IndexByte (strB s) (c.toNat : Int) g.w).mono ?_)
    rintro e w' ⟨rfl, rfl⟩
    refine ⟨g, _, rfl, rfl, Old.refl _ g, hw, rfl, ?_⟩
    simp [strB]
    exact .pv (.b rfl)
theorem strings_Contains_run (s t : Str) (r : Bool) (hr : strings_Contains s t = some r) : Run Tryz.prog 99 [.s s, .s t] (.bo r) := by
  unfold strings_Contains at hr
  split at hr
  case isFalse => cases hr
  rename_i hlen
  cases hr
  refine ⟨⟨_, _, ⟨Tryz.func99, rfl, by kernel_rfl⟩⟩, fun g vs hw hg ha => ?_⟩
  obtain ⟨hsz, hrel⟩ := ha
  obtain ⟨l⟩ := vs
  match l, hsz with
  | [x, y], _ =>
    obtain rfl := str_arg (hrel 0 _ rfl)
    obtain rfl := str_arg (hrel 1 _ rfl)
    obtain ⟨_, _, m, hm⟩ := hg (0, 0) (by simp [globs])
    refine callsIn_wide.2 ((Tryz.strings_Contains (strB s) (strB t) m g.w (by rw [strB_size]; exact hlen) hm).mono ?_)
    rintro e w' ⟨rfl, rfl⟩
    exact ⟨g, _, rfl, rfl, Old.refl _ g, hw, rfl, .pv (.b rfl)⟩
theorem strings_Cut_run (s t : Str) (r : Str × Str × Bool) (hr : strings_Cut s t = some r) : Run Tryz.prog 73 [.s s, .s t] (.tup [.s r.1, .s r.2.1, .bo r.2.2]) := by
  unfold strings_Cut at hr
  split at hr
  case isFalse => cases hr
  rename_i hlen
  cases hr
  refine ⟨⟨_, _, ⟨Tryz.func73, rfl, by kernel_rfl⟩⟩, fun g vs hw hg ha => ?_⟩
  obtain ⟨hsz, hrel⟩ := ha
  obtain ⟨l⟩ := vs
  match l, hsz with
  | [x, y], _ =>
    obtain rfl := str_arg (hrel 0 _ rfl)
    obtain rfl := str_arg (hrel 1 _ rfl)
    obtain ⟨_, _, m, hm⟩ := hg (0, 0) (by simp [globs])
    refine callsIn_wide.2 ((Tryz.strings_Cut (strB s) (strB t) m g.w (by rw [strB_size]; exact hlen) hm).mono ?_)
    rintro e w' ⟨rfl, q, rfl⟩
    refine ⟨⟨g.w.drewN q, g.u, g.loc⟩, _, rfl, rfl, old_drewN g q, hw, rfl, .tup rfl fun i c hi => ?_⟩
    match i, hi with
    | 0, rfl => exact .pv (.b rfl)
    | 1, rfl => exact .pv (.b rfl)
    | 2, rfl => exact .pv (.b rfl)
end Go.Proofs.YtfhfjckjmacekaaGreat

namespace Go.Proofs.YtfhfjckjmacekaaGreat
open Go.RowKit
set_option maxRecDepth 100000
set_option maxHeartbeats 40000000
set_option linter.unusedVariables false
theorem internal_stringslite_HasPrefix_run (a0 : Str) (a1 : Str) (r : Bool) (hr : internal_stringslite_HasPrefix a0 a1 = some r) : Run Tryz.prog 109 [.s a0, .s a1] (.bo r) := by
 unfold internal_stringslite_HasPrefix at hr
 refine rf (fn := Tryz.f109) ⟨Tryz.func109, rfl, by kernel_rfl⟩ rfl (fun _ => rfl) fun g0 hg => ?_
 refine rn tk 5 rfl ?_
 refine jb hr (fun j1 => [(4, .bo j1)]) (fun j1 => []) (fun j1 hr => ?_) (fun j1 hr => ?_)
 ·
  refine rn tk 7 rfl ?_
  refine bs 10 hr rfl (fun c2 hr => ?_) (fun c2 hr => ?_)
  ·
   refine rn tk 3 rfl ?_
   obtain ⟨v3, h4, hr⟩ := bind_some hr
   refine ug rfl rfl rfl ?_
   refine wscH tk h4 rfl rfl rfl rfl ?_
   refine rn tk 5 rfl ?_
   cases hr
   exact jn _ rfl rfl rfl
  ·
   refine rn tk 9 rfl ?_
   cases hr
   exact jn _ rfl rfl rfl
 ·
  refine rn tk 1 rfl ?_
  cases hr
  exact kr tk (.inr rfl) rfl rfl
theorem strings_HasPrefix_run (a0 : Str) (a1 : Str) (r : Bool) (hr : strings_HasPrefix a0 a1 = some r) : Run Tryz.prog 97 [.s a0, .s a1] (.bo r) := by
 unfold strings_HasPrefix at hr
 refine rf (fn := Tryz.f97) ⟨Tryz.func97, rfl, by kernel_rfl⟩ rfl (fun _ => rfl) fun g0 hg => ?_
 refine rn tk 9 rfl ?_
 obtain ⟨v1, h2, hr⟩ := bind_some hr
 refine cl (internal_stringslite_HasPrefix_run _ _ _ h2) rfl rfl ?_
 refine rn tk 4 rfl ?_
 cases hr
 exact kr tk (.inr rfl) rfl rfl
theorem internal_stringslite_HasSuffix_run (a0 : Str) (a1 : Str) (r : Bool) (hr : internal_stringslite_HasSuffix a0 a1 = some r) : Run Tryz.prog 110 [.s a0, .s a1] (.bo r) := by
 unfold internal_stringslite_HasSuffix at hr
 refine rf (fn := Tryz.f110) ⟨Tryz.func110, rfl, by kernel_rfl⟩ rfl (fun _ => rfl) fun g0 hg => ?_
 refine rn tk 5 rfl ?_
 refine jb hr (fun j1 => [(4, .bo j1)]) (fun j1 => []) (fun j1 hr => ?_) (fun j1 hr => ?_)
 ·
  refine rn tk 7 rfl ?_
  refine bs 10 hr rfl (fun c2 hr => ?_) (fun c2 hr => ?_)
  ·
   refine rn tk 6 rfl ?_
   obtain ⟨v3, h4, hr⟩ := bind_some hr
   refine ug rfl rfl rfl ?_
   refine wscL tk h4 rfl rfl rfl rfl ?_
   refine rn tk 5 rfl ?_
   cases hr
   exact jn _ rfl rfl rfl
  ·
   refine rn tk 12 rfl ?_
   cases hr
   exact jn _ rfl rfl rfl
 ·
  refine rn tk 1 rfl ?_
  cases hr
  exact kr tk (.inr rfl) rfl rfl
theorem strings_HasSuffix_run (a0 : Str) (a1 : Str) (r : Bool) (hr : strings_HasSuffix a0 a1 = some r) : Run Tryz.prog 98 [.s a0, .s a1] (.bo r) := by
 unfold strings_HasSuffix at hr
 refine rf (fn := Tryz.f98) ⟨Tryz.func98, rfl, by kernel_rfl⟩ rfl (fun _ => rfl) fun g0 hg => ?_
 refine rn tk 9 rfl ?_
 obtain ⟨v1, h2, hr⟩ := bind_some hr
 refine cl (internal_stringslite_HasSuffix_run _ _ _ h2) rfl rfl ?_
 refine rn tk 4 rfl ?_
 cases hr
 exact kr tk (.inr rfl) rfl rfl
theorem envelope_Domain_run (a0 : Str) (r : Bool) (hr : envelope_Domain a0 = some r) : Run Tryz.prog 78 [.s a0] (.bo r) := by
 unfold envelope_Domain at hr
 refine rf (fn := Tryz.f78) ⟨Tryz.func78, rfl, by kernel_rfl⟩ rfl (fun _ => rfl) fun g0 hg => ?_
 refine rn tk 10 rfl ?_
 refine jb hr (fun j1 => [(2, .bo j1)]) (fun j1 => []) (fun j1 hr => ?_) (fun j1 hr => ?_)
 ·
  refine rn tk 4 rfl ?_
  refine bs 6 hr rfl (fun c2 hr => ?_) (fun c2 hr => ?_)
  ·
   refine rn tk 5 rfl ?_
   refine bs 11 hr rfl (fun c3 hr => ?_) (fun c3 hr => ?_)
   ·
    refine rn tk 2 rfl ?_
    refine ug rfl rfl rfl ?_
    refine ct hr (fun j4 => [(0, .s a0), (11, .bo true), (14, .bo j4)]) (fun j4 => []) (fun j4 hr jump4 => ?_) (fun j4 hr => ?_)
    ·
     refine il (fn := Tryz.f77) (args := [.s a0, .fn (.func 96) [] []]) 400000 499999 [(0, .s a0), (11, .bo true)] rfl ⟨Tryz.func77, rfl, by kernel_rfl⟩ rfl rfl rfl fun T4 ds4 => ?_
     refine rn tk 14 rfl ?_
     refine al2 hr (fun s5 => [(0, .s a0), (1, .fn (.func 96) [] []), (7, .i ((a0.length : Int))), (8, .i s5)]) (fun s5 => [(499999, .sus g0.w.heap.size ds4), (400000, .hold (.s a0) (T4.getD 0 undef)), (400011, .hold (.bo true) (T4.getD 11 undef))]) (.exit 0) (fun b6 => []) (fun b6 => [(499999, .sus g0.w.heap.size ds4), (400000, .hold (.s a0) (T4.getD 0 undef)), (400011, .hold (.bo true) (T4.getD 11 undef))]) .ret (fun b7 => [(4, .bo false)]) (fun b7 => [(499999, .sus g0.w.heap.size ds4), (400000, .hold (.s a0) (T4.getD 0 undef)), (400011, .hold (.bo true) (T4.getD 11 undef))]) rfl rfl (fun s5 x9 hr => ?_) (fun b6 hr => ?_) (fun b7 hr => ?_)
     ·
      unfold envelope_Domain_l1 at hr
      refine rn tk 6 rfl ?_
      refine ac 9 hr rfl (fun c10 hr => ?_) (fun c10 hr => ?_)
      ·
       refine rn tk 15 rfl ?_
       obtain ⟨v11, h12, hr⟩ := bind_some hr
       refine ws tk h12 rfl rfl rfl rfl ?_
       refine il (fn := Tryz.f96) (args := [.u8 v11]) 600000 699999 [(0, .s a0), (1, .fn (.func 96) [] []), (7, .i ((a0.length : Int))), (8, .i s5)] rfl ⟨Tryz.func96, rfl, by kernel_rfl⟩ rfl rfl rfl fun T6 ds6 => ?_
       refine rn tk 5 rfl ?_
       refine jb hr (fun j13 => [(2, .bo j13)]) (fun j13 => [(699999, .sus g0.w.heap.size ds6), (600000, .hold (.s a0) (T6.getD 0 undef)), (600001, .hold (.fn (.func 96) [] []) (T6.getD 1 undef)), (600007, .hold (.i ((a0.length : Int))) (T6.getD 7 undef)), (600008, .hold (.i s5) (T6.getD 8 undef)), (499999, .sus g0.w.heap.size ds4), (400000, .hold (.s a0) (T4.getD 0 undef)), (400011, .hold (.bo true) (T4.getD 11 undef))]) (fun j13 hr => ?_) (fun j13 hr => ?_)
       ·
        refine rn tk 4 rfl ?_
        refine bs 5 hr rfl (fun c14 hr => ?_) (fun c14 hr => ?_)
        ·
         refine rn tk 4 rfl ?_
         refine bs 9 hr rfl (fun c15 hr => ?_) (fun c15 hr => ?_)
         ·
          refine rn tk 17 rfl ?_
          cases hr
          exact jn _ rfl rfl rfl
         ·
          refine rn tk 3 rfl ?_
          refine bs 12 hr rfl (fun c16 hr => ?_) (fun c16 hr => ?_)
          ·
           refine rn tk 5 rfl ?_
           refine bs 17 hr rfl (fun c17 hr => ?_) (fun c17 hr => ?_)
           ·
            refine rn tk 9 rfl ?_
            cases hr
            exact jn _ rfl rfl rfl
           ·
            refine rn tk 4 rfl ?_
            refine bs 21 hr rfl (fun c18 hr => ?_) (fun c18 hr => ?_)
            ·
             refine rn tk 5 rfl ?_
             cases hr
             exact jn _ rfl rfl rfl
            ·
             refine rn tk 5 rfl ?_
             cases hr
             exact jn _ rfl rfl rfl
          ·
           refine rn tk 9 rfl ?_
           refine bs 21 hr rfl (fun c19 hr => ?_) (fun c19 hr => ?_)
           ·
            refine rn tk 5 rfl ?_
            cases hr
            exact jn _ rfl rfl rfl
           ·
            refine rn tk 5 rfl ?_
            cases hr
            exact jn _ rfl rfl rfl
        ·
         refine rn tk 7 rfl ?_
         refine bs 12 hr rfl (fun c20 hr => ?_) (fun c20 hr => ?_)
         ·
          refine rn tk 5 rfl ?_
          refine bs 17 hr rfl (fun c21 hr => ?_) (fun c21 hr => ?_)
          ·
           refine rn tk 9 rfl ?_
           cases hr
           exact jn _ rfl rfl rfl
          ·
           refine rn tk 4 rfl ?_
           refine bs 21 hr rfl (fun c22 hr => ?_) (fun c22 hr => ?_)
           ·
            refine rn tk 5 rfl ?_
            cases hr
            exact jn _ rfl rfl rfl
           ·
            refine rn tk 5 rfl ?_
            cases hr
            exact jn _ rfl rfl rfl
         ·
          refine rn tk 9 rfl ?_
          refine bs 21 hr rfl (fun c23 hr => ?_) (fun c23 hr => ?_)
          ·
           refine rn tk 5 rfl ?_
           cases hr
           exact jn _ rfl rfl rfl
          ·
           refine rn tk 5 rfl ?_
           cases hr
           exact jn _ rfl rfl rfl
       ·
        refine rn tk 1 rfl ?_
        refine ie tk [.bo j13] [(0, .s a0), (1, .fn (.func 96) [] []), (7, .i ((a0.length : Int))), (8, .i s5)] [(499999, .sus g0.w.heap.size ds4), (400000, .hold (.s a0) (T4.getD 0 undef)), (400011, .hold (.bo true) (T4.getD 11 undef))] (.inr rfl) rfl rfl rfl rfl (hO ?_)
        refine rn tk 3 rfl ?_
        refine ac 16 hr rfl (fun c24 hr => ?_) (fun c24 hr => ?_)
        ·
         refine rn tk 8 rfl ?_
         cases hr
         exact ato rfl rfl rfl rfl
        ·
         refine rn tk 7 rfl ?_
         cases hr
         exact atc rfl rfl
      ·
       refine rn tk 2 rfl ?_
       cases hr
       exact ato rfl rfl rfl rfl
     ·
      refine rn tk 8 rfl ?_
      refine ie tk [.bo true] [(0, .s a0), (11, .bo true)] [] (.inr rfl) rfl rfl rfl rfl ?_
      cases hr
      exact jump4 _ _ rfl rfl
     ·
      refine rn tk 2 rfl ?_
      refine ie tk [.bo false] [(0, .s a0), (11, .bo true)] [] (.inr rfl) rfl rfl rfl rfl ?_
      cases hr
      exact jump4 _ _ rfl rfl
    ·
     refine rn tk 2 rfl ?_
     refine bs 16 hr rfl (fun c25 hr => ?_) (fun c25 hr => ?_)
     ·
      refine rn tk 1 rfl ?_
      obtain ⟨v26, h27, hr⟩ := bind_some hr
      refine ug rfl rfl rfl ?_
      refine cl (strings_HasPrefix_run _ _ _ h27) rfl rfl ?_
      refine rn tk 3 rfl ?_
      refine bs 21 hr rfl (fun c28 hr => ?_) (fun c28 hr => ?_)
      ·
       refine rn tk 1 rfl ?_
       obtain ⟨v29, h30, hr⟩ := bind_some hr
       refine ug rfl rfl rfl ?_
       refine cl (strings_HasSuffix_run _ _ _ h30) rfl rfl ?_
       refine rn tk 3 rfl ?_
       refine bs 26 hr rfl (fun c31 hr => ?_) (fun c31 hr => ?_)
       ·
        refine rn tk 1 rfl ?_
        obtain ⟨v32, h33, hr⟩ := bind_some hr
        refine ug rfl rfl rfl ?_
        refine cl (strings_Contains_run _ _ _ h33) rfl rfl ?_
        refine rn tk 4 rfl ?_
        cases hr
        exact jn _ rfl rfl rfl
       ·
        refine rn tk 6 rfl ?_
        cases hr
        exact jn _ rfl rfl rfl
      ·
       refine rn tk 11 rfl ?_
       cases hr
       exact jn _ rfl rfl rfl
     ·
      refine rn tk 16 rfl ?_
      cases hr
      exact jn _ rfl rfl rfl
   ·
    refine rn tk 21 rfl ?_
    cases hr
    exact jn _ rfl rfl rfl
  ·
   refine rn tk 26 rfl ?_
   cases hr
   exact jn _ rfl rfl rfl
 ·
  refine rn tk 1 rfl ?_
  cases hr
  exact kr tk (.inr rfl) rfl rfl
theorem envelope_Split_run (a0 : Str) (r : Str × Str × Bool) (hr : envelope_Split a0 = some r) : Run Tryz.prog 46 [.s a0] (.tup [.s r.1, .s r.2.1, .bo r.2.2]) := by
 unfold envelope_Split at hr
 refine rf (fn := Tryz.f46) ⟨Tryz.func46, rfl, by kernel_rfl⟩ rfl (fun _ => rfl) fun g0 hg => ?_
 refine rn tk 10 rfl ?_
 obtain ⟨v1, h2, hr⟩ := bind_some hr
 refine cl (strings_Cut_run _ _ _ h2) rfl rfl ?_
 refine rn tk 14 rfl ?_
 refine jb hr (fun j3 => [(2, .s v1.1), (3, .s v1.2.1), (4, .bo j3)]) (fun j3 => []) (fun j3 hr => ?_) (fun j3 hr => ?_)
 ·
  refine rn tk 5 rfl ?_
  refine bs 15 hr rfl (fun c4 hr => ?_) (fun c4 hr => ?_)
  ·
   refine rn tk 4 rfl ?_
   refine bs 19 hr rfl (fun c5 hr => ?_) (fun c5 hr => ?_)
   ·
    refine rn tk 5 rfl ?_
    refine bs 24 hr rfl (fun c6 hr => ?_) (fun c6 hr => ?_)
    ·
     refine rn tk 2 rfl ?_
     refine ug rfl rfl rfl ?_
     refine ct hr (fun j7 => [(3, .s v1.2.1), (12, .s v1.1), (13, .s v1.2.1), (24, .bo true), (27, .bo j7)]) (fun j7 => []) (fun j7 hr jump4 => ?_) (fun j7 hr => ?_)
     ·
      refine il (fn := Tryz.f77) (args := [.s v1.1, .fn (.func 74) [] []]) 400000 499999 [(3, .s v1.2.1), (12, .s v1.1), (13, .s v1.2.1), (24, .bo true)] rfl ⟨Tryz.func77, rfl, by kernel_rfl⟩ rfl rfl rfl fun T4 ds4 => ?_
      refine rn tk 14 rfl ?_
      refine al2 hr (fun s8 => [(0, .s v1.1), (1, .fn (.func 74) [] []), (7, .i ((v1.1.length : Int))), (8, .i s8)]) (fun s8 => [(499999, .sus g0.w.heap.size ds4), (400003, .hold (.s v1.2.1) (T4.getD 3 undef)), (400012, .hold (.s v1.1) (T4.getD 12 undef)), (400013, .hold (.s v1.2.1) (T4.getD 13 undef)), (400024, .hold (.bo true) (T4.getD 24 undef))]) (.exit 0) (fun b9 => []) (fun b9 => [(499999, .sus g0.w.heap.size ds4), (400003, .hold (.s v1.2.1) (T4.getD 3 undef)), (400012, .hold (.s v1.1) (T4.getD 12 undef)), (400013, .hold (.s v1.2.1) (T4.getD 13 undef)), (400024, .hold (.bo true) (T4.getD 24 undef))]) .ret (fun b10 => [(4, .bo false)]) (fun b10 => [(499999, .sus g0.w.heap.size ds4), (400003, .hold (.s v1.2.1) (T4.getD 3 undef)), (400012, .hold (.s v1.1) (T4.getD 12 undef)), (400013, .hold (.s v1.2.1) (T4.getD 13 undef)), (400024, .hold (.bo true) (T4.getD 24 undef))]) rfl rfl (fun s8 x12 hr => ?_) (fun b9 hr => ?_) (fun b10 hr => ?_)
      ·
       unfold envelope_Split_l1 at hr
       refine rn tk 6 rfl ?_
       refine ac 9 hr rfl (fun c13 hr => ?_) (fun c13 hr => ?_)
       ·
        refine rn tk 15 rfl ?_
        obtain ⟨v14, h15, hr⟩ := bind_some hr
        refine ws tk h15 rfl rfl rfl rfl ?_
        refine il (fn := Tryz.f74) (args := [.u8 v14]) 600000 699999 [(0, .s v1.1), (1, .fn (.func 74) [] []), (7, .i ((v1.1.length : Int))), (8, .i s8)] rfl ⟨Tryz.func74, rfl, by kernel_rfl⟩ rfl rfl rfl fun T6 ds6 => ?_
        refine rn tk 5 rfl ?_
        refine jb hr (fun j16 => [(2, .bo j16)]) (fun j16 => [(699999, .sus g0.w.heap.size ds6), (600000, .hold (.s v1.1) (T6.getD 0 undef)), (600001, .hold (.fn (.func 74) [] []) (T6.getD 1 undef)), (600007, .hold (.i ((v1.1.length : Int))) (T6.getD 7 undef)), (600008, .hold (.i s8) (T6.getD 8 undef)), (499999, .sus g0.w.heap.size ds4), (400003, .hold (.s v1.2.1) (T4.getD 3 undef)), (400012, .hold (.s v1.1) (T4.getD 12 undef)), (400013, .hold (.s v1.2.1) (T4.getD 13 undef)), (400024, .hold (.bo true) (T4.getD 24 undef))]) (fun j16 hr => ?_) (fun j16 hr => ?_)
        ·
         refine rn tk 2 rfl ?_
         obtain ⟨v17, h18, hr⟩ := bind_some hr
         refine cl (basic_Letter_run _ _ h18) rfl rfl ?_
         refine rn tk 1 rfl ?_
         refine bs 5 hr rfl (fun c19 hr => ?_) (fun c19 hr => ?_)
         ·
          refine rn tk 6 rfl ?_
          cases hr
          exact jn _ rfl rfl rfl
         ·
          refine rn tk 1 rfl ?_
          obtain ⟨v20, h21, hr⟩ := bind_some hr
          refine ug rfl rfl rfl ?_
          refine cl (strings_IndexByte_run _ _ _ h21) rfl rfl ?_
          refine rn tk 4 rfl ?_
          cases hr
          exact jn _ rfl rfl rfl
        ·
         refine rn tk 1 rfl ?_
         refine ie tk [.bo j16] [(0, .s v1.1), (1, .fn (.func 74) [] []), (7, .i ((v1.1.length : Int))), (8, .i s8)] [(499999, .sus g0.w.heap.size ds4), (400003, .hold (.s v1.2.1) (T4.getD 3 undef)), (400012, .hold (.s v1.1) (T4.getD 12 undef)), (400013, .hold (.s v1.2.1) (T4.getD 13 undef)), (400024, .hold (.bo true) (T4.getD 24 undef))] (.inr rfl) rfl rfl rfl rfl (hO ?_)
         refine rn tk 3 rfl ?_
         refine ac 16 hr rfl (fun c22 hr => ?_) (fun c22 hr => ?_)
         ·
          refine rn tk 8 rfl ?_
          cases hr
          exact ato rfl rfl rfl rfl
         ·
          refine rn tk 7 rfl ?_
          cases hr
          exact atc rfl rfl
       ·
        refine rn tk 2 rfl ?_
        cases hr
        exact ato rfl rfl rfl rfl
      ·
       refine rn tk 8 rfl ?_
       refine ie tk [.bo true] [(3, .s v1.2.1), (12, .s v1.1), (13, .s v1.2.1), (24, .bo true)] [] (.inr rfl) rfl rfl rfl rfl ?_
       cases hr
       exact jump4 _ _ rfl rfl
      ·
       refine rn tk 2 rfl ?_
       refine ie tk [.bo false] [(3, .s v1.2.1), (12, .s v1.1), (13, .s v1.2.1), (24, .bo true)] [] (.inr rfl) rfl rfl rfl rfl ?_
       cases hr
       exact jump4 _ _ rfl rfl
     ·
      refine rn tk 2 rfl ?_
      refine bs 29 hr rfl (fun c23 hr => ?_) (fun c23 hr => ?_)
      ·
       refine rn tk 1 rfl ?_
       obtain ⟨v24, h25, hr⟩ := bind_some hr
       refine ug rfl rfl rfl ?_
       refine cl (envelope_Domain_run _ _ h25) rfl rfl ?_
       refine rn tk 5 rfl ?_
       cases hr
       exact jn _ rfl rfl rfl
      ·
       refine rn tk 7 rfl ?_
       cases hr
       exact jn _ rfl rfl rfl
    ·
     refine rn tk 12 rfl ?_
     cases hr
     exact jn _ rfl rfl rfl
   ·
    refine rn tk 17 rfl ?_
    cases hr
    exact jn _ rfl rfl rfl
  ·
   refine rn tk 21 rfl ?_
   cases hr
   exact jn _ rfl rfl rfl
 ·
  refine rn tk 1 rfl ?_
  cases hr
  exact kr tk (.inr rfl) rfl rfl
theorem envelope_Address_run (a0 : Str) (r : Bool) (hr : envelope_Address a0 = some r) : Run Tryz.prog 19 [.s a0] (.bo r) := by
 unfold envelope_Address at hr
 refine rf (fn := Tryz.f19) ⟨Tryz.func19, rfl, by kernel_rfl⟩ rfl (fun _ => rfl) fun g0 hg => ?_
 refine rn tk 8 rfl ?_
 obtain ⟨v1, h2, hr⟩ := bind_some hr
 refine cl (envelope_Split_run _ _ h2) rfl rfl ?_
 refine rn tk 16 rfl ?_
 cases hr
 exact kr tk (.inr rfl) rfl rfl
theorem envelope_Notify_run (a0 : Int) (r : Bool) (hr : envelope_Notify a0 = some r) : Run Tryz.prog 101 [.i a0] (.bo r) := by
 unfold envelope_Notify at hr
 refine rf (fn := Tryz.f101) ⟨Tryz.func101, rfl, by kernel_rfl⟩ rfl (fun _ => rfl) fun g0 hg => ?_
 refine rn tk 5 rfl ?_
 refine jb hr (fun j1 => [(2, .bo j1)]) (fun j1 => []) (fun j1 hr => ?_) (fun j1 hr => ?_)
 ·
  refine rn tk 4 rfl ?_
  refine bs 5 hr rfl (fun c2 hr => ?_) (fun c2 hr => ?_)
  ·
   refine rn tk 5 rfl ?_
   cases hr
   exact jn _ rfl rfl rfl
  ·
   refine rn tk 5 rfl ?_
   cases hr
   exact jn _ rfl rfl rfl
 ·
  refine rn tk 1 rfl ?_
  cases hr
  exact kr tk (.inr rfl) rfl rfl
end Go.Proofs.YtfhfjckjmacekaaGreat

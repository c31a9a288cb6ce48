/- Part 2 of the proof of the law ListsDoNotLoop: what it needs. -/
import Derived.Test.YtkoijpogjobgjaaKListsDoNotLoop1
import Derived.Test.YtkoijpogjobgjaaShelf
set_option linter.unusedVariables false
set_option linter.unusedSimpArgs false
/- Mailing lists: sizes, mails of the list are valid, successful posts. -/
namespace Go.Proofs.Ytkoijpogjobgjaa
open Go.RowKit
set_option linter.unusedVariables false
set_option maxHeartbeats 1000000

theorem smallMl_of {m : TMail} (h : TMail.bk m ≤ 1048576) : smallMl m := by
  have hb : TMail.bk m = TEnvelope.bk m.Envelope + TMessage.bk m.Message + 1 := rfl
  exact ⟨smallE_of (by omega), smallM_of (by omega)⟩
theorem smallSs_of {l : List Str} (h : bkL (fun s : Str => s.length + 1) l ≤ 1048576) : smallSs l := by
  have h4 := bkL_len (bk := fun s : Str => s.length + 1) (fun _ => by simp) l
  refine ⟨by omega, fun s hs => ?_⟩
  have h5 : s.length + 1 + 1 ≤ bkL (fun s : Str => s.length + 1) l := bkL_mem (bk := fun s : Str => s.length + 1) hs
  omega
theorem smallL_of {l : TList} (h : TList.bk l ≤ 1048576) : smallL l := by
  have h0 : TList.bk l = l.Address.length + 1 + (l.Owner.length + 1) + 1 + bkL (fun s : Str => s.length + 1) l.Subscribers + bkL (fun s : Str => s.length + 1) l.Moderators + bkL THeld.bk l.Held + 1 + 1 := rfl
  have h1 := bkL_len (bk := THeld.bk) (fun x => by unfold THeld.bk; omega) l.Held
  refine ⟨by omega, by omega, smallSs_of (by omega), smallSs_of (by omega), by omega, fun x hx => ?_⟩
  have h2 := bkL_mem (bk := THeld.bk) hx
  have h3 : THeld.bk x = 1 + TMail.bk x.Mail + 1 := rfl
  exact smallMl_of (by omega)
theorem R_MayPost_eq (l : TList) (s : Str) (h : smallL l) : R_MayPost l s = some (mayP l s) := by
  unfold R_MayPost mayP
  rw [R_Has_eq _ _ (by have := h.2.2.1.1; omega), R_Has_eq _ _ (by have := h.2.2.2.1.1; omega)]
  simp only [Option.bind_some, may_eq]

/-! ### mails of the list -/
theorem recs_nodup : ∀ (l : List Str) (o : List TRecipient), l.Nodup → (∀ s ∈ l, ∀ r ∈ o, r.Address ≠ s) → l.foldl (fun o s => if o.any (fun r => r.Address == s) then o else o ++ [⟨s, 0⟩]) o = o ++ l.map (⟨·, 0⟩)
  | [], o, _, _ => by simp
  | s :: l, o, h, hd => by
    rw [List.nodup_cons] at h
    have e : (o.any fun r => r.Address == s) = false := by
      rw [List.any_eq_false]
      intro r hr
      have := hd s (by simp) r hr
      simpa using this
    rw [List.foldl_cons, e]
    simp only [Bool.false_eq_true, if_false]
    rw [recs_nodup l _ h.2 (fun t ht r hr => by
      rcases List.mem_append.1 hr with h1 | h1
      · exact hd t (by simp [ht]) r h1
      · simp at h1; subst h1; intro hc; simp at hc; subst hc; exact h.1 ht)]
    simp
theorem recs_map0 {l : List Str} (h : l.Nodup) : recs l = l.map (⟨·, 0⟩) := by
  have := recs_nodup l [] h (by simp)
  simpa [recs] using this
theorem addr_ne {s : Str} (h : addrP s = true) : s ≠ [] := by rintro rfl; revert h; decide
theorem env_id {e : TEnvelope} (h : (envF e).Code = 0) : (e.Id != ([] : Str) && !nameP e.Id) = false := by
  cases hi : (e.Id != ([] : Str) && !nameP e.Id) with
  | false => rfl
  | true =>
    exfalso
    unfold envF at h
    rw [hi] at h
    simp only [if_true] at h
    split at h
    · exact absurd h (show (10 : Int) ≠ 0 by decide)
    · split at h
      · exact absurd h (show (2 : Int) ≠ 0 by decide)
      · exact absurd h (show (10 : Int) ≠ 0 by decide)
theorem mailP_ok {l : TList} {m : TMail} {to : List Str} {n : Str} (ho : addrP l.Owner = true) (h1 : to ≠ []) (h2 : to.length ≤ 60) (h3 : ∀ s ∈ to, addrP s = true) (h4 : to.Nodup) (hm : (mailF m).Code = 0) (hg : (msgF (mailP l m to n).Message).Code = 0) : mailF (mailP l m to n) = ⟨0, 0⟩ := by
  have hE : envF (mailP l m to n).Envelope = ⟨0, 0⟩ := by
    have hid := env_id (mailF_msg hm).1
    show (if fromB l.Owner = true then (⟨10, -10⟩ : TFault) else if (decide ((to.map fun s => (⟨s, 0⟩ : TRecipient)).length < 1) || decide (60 < (to.map fun s => (⟨s, 0⟩ : TRecipient)).length)) = true then ⟨2, -11⟩ else if (m.Envelope.Id != ([] : Str) && !nameP m.Envelope.Id) = true then ⟨10, -12⟩ else recF (to.map fun s => (⟨s, 0⟩ : TRecipient))) = _
    have e1 : fromB l.Owner = false := by unfold fromB; rw [ho]; simp
    have hp := List.length_pos_iff.2 h1
    have e2 : (decide ((to.map fun s => (⟨s, 0⟩ : TRecipient)).length < 1) || decide (60 < (to.map fun s => (⟨s, 0⟩ : TRecipient)).length)) = false := by
      rw [List.length_map, Bool.or_eq_false_iff, decide_eq_false_iff_not, decide_eq_false_iff_not]; omega
    rw [e1, e2, hid, ← recs_map0 h4, recF_recs h3]; rfl
  unfold mailF
  have e1 : ((envF (mailP l m to n).Envelope).Code != 0) = false := by rw [hE]; rfl
  have e2 : ((msgF (mailP l m to n).Message).Code != 0) = false := by simp [hg]
  rw [e1, e2]; rfl
theorem mailP_small {l : TList} {m : TMail} {to : List Str} {n : Str} (hl : smallL l) (hm : smallMl m) (hn : n.length ≤ 100) (h60 : m.Message.Fields.length ≤ 60) (ht : smallSs to) : smallMl (mailP l m to n) := by
  refine ⟨⟨hl.2.1, hm.1.2.1, by show (to.map _).length ≤ _; rw [List.length_map]; exact ht.1, fun r hr => ?_⟩, smallF_cons ⟨by show n.length ≤ _; omega, hl.1⟩ hm.2.1 (by omega), hm.2.2⟩
  obtain ⟨s, hs, rfl⟩ := List.mem_map.1 (show r ∈ to.map _ from hr)
  exact ht.2 s hs
theorem sendP_ok {l : TList} {m : TMail} {to : List Str} {n : Str} (h : (sendP l m to n).2.Code = 0) : (to = [] ∧ sendP l m to n = ([], ⟨0, 0⟩)) ∨ (to ≠ [] ∧ (msgF (mailP l m to n).Message).Code = 0 ∧ sendP l m to n = ([mailP l m to n], ⟨0, 0⟩)) := by
  unfold sendP at h ⊢
  by_cases ht : to = []
  · rw [if_pos ht]; exact .inl ⟨ht, rfl⟩
  · rw [if_neg ht] at h ⊢
    cases hc : (msgF (mailP l m to n).Message).Code != 0 with
    | true => rw [hc] at h; simp only [if_true] at h; simp [h] at hc
    | false => exact .inr ⟨ht, by simpa using hc, rfl⟩
/-- posts that fail have no mails; posts that do not fail are of two kinds -/
theorem postP_cases (l : TList) (m : TMail) : ((postP l m).2.2.Code ≠ 0 ∧ (postP l m).1 = noL ∧ (postP l m).2.1 = []) ∨
    ((postP l m).2.2.Code = 0 ∧ LOk l ∧ (mailF m).Code = 0 ∧ (getP m.Message.Fields lId).contains l.Address = false ∧ m.Envelope.From ≠ [] ∧
      ((mayP l m.Envelope.From = true ∧ (distP l m).2.Code = 0 ∧ postP l m = (l, (distP l m).1, (distP l m).2)) ∨
       (mayP l m.Envelope.From = false ∧ l.Moderators ≠ [] ∧ l.Held.length ≠ 20 ∧ l.Next ≠ 1000000 ∧ (sendP l m l.Moderators lHeld).2.Code = 0 ∧
         postP l m = (⟨l.Address, l.Owner, l.Open, l.Subscribers, l.Moderators, l.Held ++ [⟨l.Next, m⟩], l.Next + 1⟩, (sendP l m l.Moderators lHeld).1, (sendP l m l.Moderators lHeld).2)))) := by
  unfold postP
  cases hv : (listF l).Code != 0 with
  | true => left; exact ⟨by simpa using hv, rfl, rfl⟩
  | false =>
    obtain ⟨ok, _⟩ := listF_ok (l := l) (by simpa using hv)
    cases hc : (mailF m).Code != 0 with
    | true => left; exact ⟨by simpa using hc, rfl, rfl⟩
    | false =>
      have hm0 : (mailF m).Code = 0 := by simpa using hc
      cases hf : m.Envelope.From == ([] : Str) with
      | true => left; exact ⟨show (8 : Int) ≠ 0 by decide, rfl, rfl⟩
      | false =>
        have hf0 : m.Envelope.From ≠ [] := by simpa using hf
        cases hg : (getP m.Message.Fields lId).contains l.Address with
        | true => left; exact ⟨show (14 : Int) ≠ 0 by decide, rfl, rfl⟩
        | false =>
          cases hmay : mayP l m.Envelope.From with
          | true =>
            cases hd : (distP l m).2.Code != 0 with
            | true => left; exact ⟨by simpa using hd, rfl, rfl⟩
            | false =>
              have hd0 : (distP l m).2.Code = 0 := by simpa using hd
              right; exact ⟨hd0, ok, hm0, rfl, hf0, .inl ⟨rfl, hd0, rfl⟩⟩
          | false =>
            cases hmo : (l.Moderators.length : Int) == 0 with
            | true => left; exact ⟨show (17 : Int) ≠ 0 by decide, rfl, rfl⟩
            | false =>
              have hmo0 : l.Moderators ≠ [] := by rintro h; rw [h] at hmo; simp at hmo
              cases hh : (l.Held.length : Int) == 20 with
              | true => left; exact ⟨show (2 : Int) ≠ 0 by decide, rfl, rfl⟩
              | false =>
                have hh0 : l.Held.length ≠ 20 := by intro h; rw [h] at hh; simp at hh
                cases hx : l.Next == 1000000 with
                | true => left; exact ⟨show (2 : Int) ≠ 0 by decide, rfl, rfl⟩
                | false =>
                  have hx0 : l.Next ≠ 1000000 := by simpa using hx
                  cases hs : (sendP l m l.Moderators lHeld).2.Code != 0 with
                  | true => left; exact ⟨by simpa using hs, rfl, rfl⟩
                  | false =>
                    have hs0 : (sendP l m l.Moderators lHeld).2.Code = 0 := by simpa using hs
                    right; exact ⟨hs0, ok, hm0, rfl, hf0, .inr ⟨rfl, hmo0, hh0, hx0, hs0, rfl⟩⟩
theorem subs_filter {l : TList} (ok : LOk l) (s : Str) : (l.Subscribers.filter (· != s)).length ≤ 60 ∧ (∀ x ∈ l.Subscribers.filter (· != s), addrP x = true) ∧ (l.Subscribers.filter (· != s)).Nodup := by
  obtain ⟨h1, h2, h3⟩ := ok.subs
  exact ⟨Nat.le_trans (List.length_filter_le _ _) h1, fun x hx => h2 x (List.mem_filter.1 hx).1, h3.filter _⟩
theorem smallSs_filter {l : List Str} (h : smallSs l) (p : Str → Bool) : smallSs (l.filter p) := ⟨Nat.le_trans (List.length_filter_le _ _) h.1, fun s hs => h.2 s (List.mem_filter.1 hs).1⟩
theorem same_lId : sameP lId lId = true := by decide +kernel
end Go.Proofs.Ytkoijpogjobgjaa

/- The law ListsDoNotLoop in plain Lean. -/
namespace Go.Proofs.Ytkoijpogjobgjaa
open Go.RowKit
set_option linter.unusedVariables false
set_option maxHeartbeats 1000000

theorem post_again {l : TList} {m : TMail} {to : List Str} (ok : LOk l) (h1 : to ≠ []) (h2 : to.length ≤ 60) (h3 : ∀ s ∈ to, addrP s = true) (h4 : to.Nodup) (hm : (mailF m).Code = 0) (hg : (msgF (mailP l m to lId).Message).Code = 0) (hl : (listF l).Code = 0) : (postP l (mailP l m to lId)).2.2.Code = 14 := by
  have hok := mailP_ok (n := lId) ok.owner h1 h2 h3 h4 hm hg
  have e1 : ((listF l).Code != 0) = false := by simp [hl]
  have e2 : ((mailF (mailP l m to lId)).Code != 0) = false := by rw [hok]; rfl
  have e3 : ((mailP l m to lId).Envelope.From == ([] : Str)) = false := by
    have := addr_ne ok.owner
    show (l.Owner == ([] : Str)) = false
    simpa using this
  have e4 : (getP (mailP l m to lId).Message.Fields lId).contains l.Address = true := by
    show (getP (⟨lId, l.Address⟩ :: m.Message.Fields) lId).contains l.Address = true
    unfold getP
    rw [List.filter_cons, same_lId]
    simp
  unfold postP
  rw [e1, e2, e3, e4]
  rfl
theorem L_ListsDoNotLoop_true (a0 : TList) (a1 : TMail) (o0 : TList.ok a0) (o1 : TMail.ok a1) (hk : TList.bk a0 + TMail.bk a1 ≤ 1048576) : L_ListsDoNotLoop a0 a1 = some true := by
  have hl : smallL a0 := smallL_of (by omega)
  have hm : smallMl a1 := smallMl_of (by omega)
  unfold L_ListsDoNotLoop
  rw [lists_Post_eq a0 a1 hl hm, L_posts_eq]
  simp only [Option.bind_some, Bool.not_true, cond_false]
  rcases postP_cases a0 a1 with ⟨h1, _, h2⟩ | ⟨h1, ok, hm0, _, _, hcase⟩
  · have e : ((postP a0 a1).2.2.Code != 0) = true := by simpa using h1
    rw [e, h2]; rfl
  · have e : ((postP a0 a1).2.2.Code != 0) = false := by simp [h1]
    rw [e]
    simp only [cond_false, Option.bind_some]
    obtain ⟨_, h60⟩ := mail_60 hm0
    have hl0 : (listF a0).Code = 0 := by
      cases hv : (listF a0).Code != 0 with
      | false => simpa using hv
      | true =>
        exfalso
        have : (postP a0 a1).2.2 = listF a0 := by unfold postP; rw [hv]; rfl
        rw [this] at h1; simp [h1] at hv
    have key : (postP a0 a1).2.1.length ≤ 1 ∧ ∀ x ∈ (postP a0 a1).2.1, smallMl x ∧ (mayP a0 a1.Envelope.From = true → (postP a0 x).2.2.Code = 14) := by
      rcases hcase with ⟨hmay, hd, he⟩ | ⟨hmay, hmo, _, _, hs, he⟩
      · rw [he]
        obtain ⟨f1, f2, f3⟩ := subs_filter ok a1.Envelope.From
        rcases sendP_ok hd with ⟨_, hz⟩ | ⟨hne, hg, hz⟩
        · have : (distP a0 a1).1 = [] := by show (sendP _ _ _ _).1 = _; rw [hz]
          rw [this]; exact ⟨by simp, fun x hx => by cases hx⟩
        · have : (distP a0 a1).1 = [mailP a0 a1 (a0.Subscribers.filter (· != a1.Envelope.From)) lId] := by show (sendP _ _ _ _).1 = _; rw [hz]
          rw [this]
          refine ⟨by simp, fun x hx => ?_⟩
          have hx : x = mailP a0 a1 (a0.Subscribers.filter (· != a1.Envelope.From)) lId := by simpa using hx
          subst hx
          exact ⟨mailP_small hl hm (by decide) h60 (smallSs_filter hl.2.2.1 _), fun _ => post_again ok hne f1 f2 f3 hm0 hg hl0⟩
      · rw [he]
        rcases sendP_ok hs with ⟨_, hz⟩ | ⟨hne, hg, hz⟩
        · rw [hz]; exact ⟨by simp, fun x hx => by cases hx⟩
        · rw [hz]
          refine ⟨by simp, fun x hx => ?_⟩
          have hx : x = mailP a0 a1 a0.Moderators lHeld := by simpa using hx
          subst hx
          exact ⟨mailP_small hl hm (by decide) h60 hl.2.2.2.1, fun h => by rw [hmay] at h; cases h⟩
    obtain ⟨k1, k2⟩ := key
    rw [iter_first (postP a0 a1).2.1 (fun _ _ => none) (.inl ()) .inr]
    · have : firstI (fun _ _ => (none : Option Bool)) 0 (postP a0 a1).2.1 = none := by rw [firstI_none]; intro i x _; rfl
      simp only [Option.bind_some]
      rw [this]
      simp only [Option.elim_none, Sum.elim_inl]
      rw [decide_eq_true (by omega)]
    · unfold L_ListsDoNotLoop_l1; rw [dec_len]; rfl
    · intro i x hx
      have hi := lt_get hx
      obtain ⟨q1, q2⟩ := k2 x (List.mem_of_getElem? hx)
      unfold L_ListsDoNotLoop_l1
      rw [dec_lt hx, idx_get hx]
      simp only [cond_true, Option.bind_some]
      rw [lists_Post_eq a0 x hl q1, R_MayPost_eq a0 _ hl]
      simp only [Option.bind_some, sc i (by omega)]
      cases hmay : mayP a0 a1.Envelope.From with
      | false => rfl
      | true => rw [q2 hmay]; rfl
end Go.Proofs.Ytkoijpogjobgjaa

namespace Go.Proofs.Ytkoijpogjobgjaa
open Go.RowKit
set_option maxRecDepth 100000
set_option maxHeartbeats 40000000
set_option linter.unusedVariables false
theorem L_plain_run (a0 : List Str) (r : TMail) (hr : L_plain a0 = some r) : Run Try.prog 43 [.l cS a0] (.agg [.s r.Envelope.From, .l TRecipient.pc r.Envelope.To, .s r.Envelope.Id, .l TField.pc r.Message.Fields, .l cU r.Message.Body]) := by
 unfold L_plain at hr
 refine rf (fn := Try.f43) ⟨Try.func43, rfl, by kernel_rfl⟩ rfl (fun _ => rfl) fun g0 hg => ?_
 refine rn tk 10 rfl ?_
 refine awpl_adoptC 1003 (o := 3) (j := 1) 85 2 rfl rfl rfl rfl (hO ?_)
 refine rn tk 1 rfl ?_
 refine awpl_adoptC 2003 (o := 3) (j := 1) 85 2 rfl rfl rfl rfl (hO ?_)
 refine rn tk 9 rfl ?_
 refine al1 hr (fun s1 => [(0, .l cS a0), (2, .ptr 2 0), (3, .ptr 3 0), (4, .i s1.1)]) (fun s1 => [(2003, .row 85 false 2 (List.map TRecipient.pc s1.2)), (3, .cells [.s (([115, 64, 120] : Str)), .hs 2003 0, .s (([55] : Str)), .l TField.pc ([]), .l cU ([])]), (2, .cells [.s (([] : Str)), .l TRecipient.pc ([]), .s (([] : Str)), .l TField.pc ([]), .l cU ([])])]) (.exit 0) (fun b2 => [(2, .ptr 2 0), (3, .ptr 3 0)]) (fun b2 => [(2003, .row 85 false 2 (List.map TRecipient.pc b2)), (3, .cells [.s (([115, 64, 120] : Str)), .hs 2003 0, .s (([55] : Str)), .l TField.pc ([]), .l cU ([])]), (2, .cells [.s (([] : Str)), .l TRecipient.pc ([]), .s (([] : Str)), .l TField.pc ([]), .l cU ([])])]) rfl rfl (fun s1 x3 hr => ?_) (fun b2 hr => ?_)
 ·
  unfold L_plain_l1 at hr
  refine rn tk 5 rfl ?_
  refine wn tk rfl rfl rfl ?_
  refine rn tk 3 rfl ?_
  refine ac 10 hr rfl (fun c4 hr => ?_) (fun c4 hr => ?_)
  ·
   refine rn tk 4 rfl ?_
   obtain ⟨v5, h6, hr⟩ := bind_some hr
   refine dr 9 [(21, .l TRecipient.pc (([(TRecipient.mk v5 1)] : List TRecipient))), (20, .agg [.s v5, .i 1]), (19, .s v5), (18, .ep [pS v5]), (17, .i s1.1), (16, .l cS a0), (15, .hs 2003 0), (14, .ptr 3 1), (13, .ptr 3 0)] mixed (by kernel_rfl) rfl rfl (pq tk rfl (.plain rfl) (pq tk rfl (.plain rfl) (pq tk rfl (.plain rfl) (pq tk rfl (.plain rfl) (pq tk rfl (.plain rfl) (.run (.plain rfl) (opG_q (ev_idx (f := cS) rfl rfl ty_s_string ty_string rfl h6)) (pq tk rfl (.plain rfl) (pq tk rfl (.plain rfl) (.run (.plain rfl) (opG_lit (F := TRecipient.pc) (l := ([(TRecipient.mk v5 1)] : List TRecipient)) ty_s_api_Recipient ty_api_Recipient rfl (fun _ => rfl) rfl rfl) .nil))))))))) rfl ?_
   obtain ⟨v7, h8, hr⟩ := bind_some hr
   refine wa tk h8 rfl rfl rfl rfl (fun _ => rfl) rfl rfl ?_
   refine rn tk 11 rfl ?_
   cases hr
   exact atc rfl rfl
  ·
   refine rn tk 2 rfl ?_
   cases hr
   exact ato rfl rfl rfl rfl
 ·
  refine rn tk 8 rfl ?_
  refine awp_pubC (o := 2) (j := 1) (F := TRecipient.pc) (l := b2) rfl rfl rfl (hC ?_)
  refine rn tk 1 rfl ?_
  cases hr
  exact kr tk (.inr rfl) rfl rfl
theorem R_At_run (a0 : Int) (a1 : Int) (r : TFault) (hr : R_At a0 a1 = some r) : Run Try.prog 13 [.i a0, .i a1] (.agg [.i r.Code, .i r.Index]) := by
 unfold R_At at hr
 refine rf (fn := Try.f13) ⟨Try.func13, rfl, by kernel_rfl⟩ rfl (fun _ => rfl) fun g0 hg => ?_
 refine rn tk 14 rfl ?_
 cases hr
 exact kr tk (.inr rfl) rfl rfl
theorem R_SameRecipients_run (a0 : List TRecipient) (a1 : List TRecipient) (r : Bool) (hr : R_SameRecipients a0 a1 = some r) : Run Try.prog 46 [.l TRecipient.pc a0, .l TRecipient.pc a1] (.bo r) := by
 unfold R_SameRecipients at hr
 refine rf (fn := Try.f46) ⟨Try.func46, rfl, by kernel_rfl⟩ rfl (fun _ => rfl) fun g0 hg => ?_
 refine rn tk 9 rfl ?_
 refine wn tk rfl rfl rfl ?_
 refine rn tk 1 rfl ?_
 refine wn tk rfl rfl rfl ?_
 refine rn tk 3 rfl ?_
 refine ac 10 hr rfl (fun c1 hr => ?_) (fun c1 hr => ?_)
 ·
  refine rn tk 7 rfl ?_
  cases hr
  exact kr tk (.inr rfl) rfl rfl
 ·
  refine rn tk 9 rfl ?_
  refine al2 hr (fun s2 => [(0, .l TRecipient.pc a0), (1, .l TRecipient.pc a1), (5, .i s2)]) (fun s2 => []) (.exit 0) (fun b3 => []) (fun b3 => []) .ret (fun b4 => [(4, .bo b4)]) (fun b4 => []) rfl rfl (fun s2 x6 hr => ?_) (fun b3 hr => ?_) (fun b4 hr => ?_)
  ·
   unfold R_SameRecipients_l1 at hr
   refine rn tk 5 rfl ?_
   refine wn tk rfl rfl rfl ?_
   refine rn tk 3 rfl ?_
   refine ac 14 hr rfl (fun c7 hr => ?_) (fun c7 hr => ?_)
   ·
    refine rn tk 5 rfl ?_
    obtain ⟨v8, h9, hr⟩ := bind_some hr
    obtain ⟨v10, h11, hr⟩ := bind_some hr
    refine dr 8 [(24, .agg [.s v10.Address, .i v10.Notify]), (23, .ep [pS v10.Address, pI v10.Notify]), (22, .i s2), (21, .l TRecipient.pc a1), (20, .agg [.s v8.Address, .i v8.Notify]), (19, .ep [pS v8.Address, pI v8.Notify]), (18, .i s2), (17, .l TRecipient.pc a0)] mixed (by kernel_rfl) rfl rfl (pq tk rfl (.plain rfl) (pq tk rfl (.plain rfl) (.run (.plain rfl) (opG_q (ev_idx (f := TRecipient.pc) rfl rfl ty_s_api_Recipient ty_api_Recipient rfl h9)) (pq tk rfl (.plain rfl) (pq tk rfl (.plain rfl) (pq tk rfl (.plain rfl) (.run (.plain rfl) (opG_q (ev_idx (f := TRecipient.pc) rfl rfl ty_s_api_Recipient ty_api_Recipient rfl h11)) (pq tk rfl (.plain rfl) .nil)))))))) rfl ?_
    refine wq (ev_structne rfl rfl ty_api_Recipient cmp_api_Recipient (.str rfl (by decide) ty_string (.int rfl (by decide) ty_int .nil))) rfl rfl rfl ?_
    refine rn tk 2 rfl ?_
    refine ac 25 hr rfl (fun c12 hr => ?_) (fun c12 hr => ?_)
    ·
     refine rn tk 8 rfl ?_
     cases hr
     exact ato rfl rfl rfl rfl
    ·
     refine rn tk 8 rfl ?_
     cases hr
     exact atc rfl rfl
   ·
    refine rn tk 2 rfl ?_
    cases hr
    exact ato rfl rfl rfl rfl
  ·
   refine rn tk 8 rfl ?_
   cases hr
   exact kr tk (.inr rfl) rfl rfl
  ·
   refine rn tk 2 rfl ?_
   cases hr
   exact kr tk (.inr rfl) rfl rfl
theorem basic_Failed_run (a0 : TFault) (r : Bool) (hr : basic_Failed a0 = some r) : Run Try.prog 24 [.agg [.i a0.Code, .i a0.Index]] (.bo r) := by
 unfold basic_Failed at hr
 refine rf (fn := Try.f24) ⟨Try.func24, rfl, by kernel_rfl⟩ rfl (fun _ => rfl) fun g0 hg => ?_
 refine rn tk 15 rfl ?_
 cases hr
 exact kr tk (.inr rfl) rfl rfl
theorem basic_Fault_run (a0 : Int) (a1 : Int) (r : TFault) (hr : basic_Fault a0 a1 = some r) : Run Try.prog 26 [.i a0, .i a1] (.agg [.i r.Code, .i r.Index]) := by
 unfold basic_Fault at hr
 refine rf (fn := Try.f26) ⟨Try.func26, rfl, by kernel_rfl⟩ rfl (fun _ => rfl) fun g0 hg => ?_
 refine rn tk 14 rfl ?_
 cases hr
 exact kr tk (.inr rfl) rfl rfl
theorem basic_None_run  (r : TFault) (hr : basic_None = some r) : Run Try.prog 34 [] (.agg [.i r.Code, .i r.Index]) := by
 unfold basic_None at hr
 refine rf (fn := Try.f34) ⟨Try.func34, rfl, by kernel_rfl⟩ rfl (fun _ => rfl) fun g0 hg => ?_
 refine rn tk 12 rfl ?_
 cases hr
 exact kr tk (.inr rfl) rfl rfl
theorem fold_name_run (a0 : Str) (r : Bool) (hr : fold_name a0 = some r) : Run Try.prog 114 [.s a0] (.bo r) := by
 unfold fold_name at hr
 refine rf (fn := Try.f114) ⟨Try.func114, rfl, by kernel_rfl⟩ rfl (fun _ => rfl) fun g0 hg => ?_
 refine rn tk 5 rfl ?_
 refine jb hr (fun j1 => [(2, .bo j1)]) (fun j1 => []) (fun j1 hr => ?_) (fun j1 hr => ?_)
 ·
  refine rn tk 4 rfl ?_
  refine bs 5 hr rfl (fun c2 hr => ?_) (fun c2 hr => ?_)
  ·
   refine rn tk 5 rfl ?_
   refine bs 10 hr rfl (fun c3 hr => ?_) (fun c3 hr => ?_)
   ·
    refine rn tk 1 rfl ?_
    refine ug rfl rfl rfl ?_
    refine ct hr (fun j4 => [(10, .bo true), (12, .bo j4)]) (fun j4 => []) (fun j4 hr jump4 => ?_) (fun j4 hr => ?_)
    ·
     refine il (fn := Try.f51) (args := [.s a0, .fn (.func 119) [] []]) 400000 499999 [(10, .bo true)] rfl ⟨Try.func51, rfl, by kernel_rfl⟩ rfl rfl rfl fun T4 ds4 => ?_
     refine rn tk 14 rfl ?_
     refine al2 hr (fun s5 => [(0, .s a0), (1, .fn (.func 119) [] []), (7, .i ((a0.length : Int))), (8, .i s5)]) (fun s5 => [(499999, .sus g0.w.heap.size ds4), (400010, .hold (.bo true) (T4.getD 10 undef))]) (.exit 0) (fun b6 => []) (fun b6 => [(499999, .sus g0.w.heap.size ds4), (400010, .hold (.bo true) (T4.getD 10 undef))]) .ret (fun b7 => [(4, .bo false)]) (fun b7 => [(499999, .sus g0.w.heap.size ds4), (400010, .hold (.bo true) (T4.getD 10 undef))]) rfl rfl (fun s5 x9 hr => ?_) (fun b6 hr => ?_) (fun b7 hr => ?_)
     ·
      unfold fold_name_l1 at hr
      refine rn tk 6 rfl ?_
      refine ac 9 hr rfl (fun c10 hr => ?_) (fun c10 hr => ?_)
      ·
       refine rn tk 15 rfl ?_
       obtain ⟨v11, h12, hr⟩ := bind_some hr
       refine ws tk h12 rfl rfl rfl rfl ?_
       refine il (fn := Try.f119) (args := [.u8 v11]) 600000 699999 [(0, .s a0), (1, .fn (.func 119) [] []), (7, .i ((a0.length : Int))), (8, .i s5)] rfl ⟨Try.func119, rfl, by kernel_rfl⟩ rfl rfl rfl fun T6 ds6 => ?_
       refine rn tk 5 rfl ?_
       refine jb hr (fun j13 => [(2, .bo j13)]) (fun j13 => [(699999, .sus g0.w.heap.size ds6), (600000, .hold (.s a0) (T6.getD 0 undef)), (600001, .hold (.fn (.func 119) [] []) (T6.getD 1 undef)), (600007, .hold (.i ((a0.length : Int))) (T6.getD 7 undef)), (600008, .hold (.i s5) (T6.getD 8 undef)), (499999, .sus g0.w.heap.size ds4), (400010, .hold (.bo true) (T4.getD 10 undef))]) (fun j13 hr => ?_) (fun j13 hr => ?_)
       ·
        refine rn tk 4 rfl ?_
        refine bs 5 hr rfl (fun c14 hr => ?_) (fun c14 hr => ?_)
        ·
         refine rn tk 4 rfl ?_
         refine bs 9 hr rfl (fun c15 hr => ?_) (fun c15 hr => ?_)
         ·
          refine rn tk 5 rfl ?_
          cases hr
          exact jn _ rfl rfl rfl
         ·
          refine rn tk 5 rfl ?_
          cases hr
          exact jn _ rfl rfl rfl
        ·
         refine rn tk 9 rfl ?_
         cases hr
         exact jn _ rfl rfl rfl
       ·
        refine rn tk 1 rfl ?_
        refine ie tk [.bo j13] [(0, .s a0), (1, .fn (.func 119) [] []), (7, .i ((a0.length : Int))), (8, .i s5)] [(499999, .sus g0.w.heap.size ds4), (400010, .hold (.bo true) (T4.getD 10 undef))] (.inr rfl) rfl rfl rfl rfl (hO ?_)
        refine rn tk 3 rfl ?_
        refine ac 16 hr rfl (fun c16 hr => ?_) (fun c16 hr => ?_)
        ·
         refine rn tk 8 rfl ?_
         cases hr
         exact ato rfl rfl rfl rfl
        ·
         refine rn tk 7 rfl ?_
         cases hr
         exact atc rfl rfl
      ·
       refine rn tk 2 rfl ?_
       cases hr
       exact ato rfl rfl rfl rfl
     ·
      refine rn tk 8 rfl ?_
      refine ie tk [.bo true] [(10, .bo true)] [] (.inr rfl) rfl rfl rfl rfl ?_
      cases hr
      exact jump4 _ _ rfl rfl
     ·
      refine rn tk 2 rfl ?_
      refine ie tk [.bo false] [(10, .bo true)] [] (.inr rfl) rfl rfl rfl rfl ?_
      cases hr
      exact jump4 _ _ rfl rfl
    ·
     refine rn tk 3 rfl ?_
     cases hr
     exact jn _ rfl rfl rfl
   ·
    refine rn tk 5 rfl ?_
    cases hr
    exact jn _ rfl rfl rfl
  ·
   refine rn tk 10 rfl ?_
   cases hr
   exact jn _ rfl rfl rfl
 ·
  refine rn tk 1 rfl ?_
  cases hr
  exact kr tk (.inr rfl) rfl rfl
theorem basic_Blank_run (a0 : UInt8) (r : Bool) (hr : basic_Blank a0 = some r) : Run Try.prog 121 [.u8 a0] (.bo r) := by
 unfold basic_Blank at hr
 refine rf (fn := Try.f121) ⟨Try.func121, rfl, by kernel_rfl⟩ rfl (fun _ => rfl) fun g0 hg => ?_
 refine rn tk 5 rfl ?_
 refine jb hr (fun j1 => [(2, .bo j1)]) (fun j1 => []) (fun j1 hr => ?_) (fun j1 hr => ?_)
 ·
  refine rn tk 4 rfl ?_
  refine bs 5 hr rfl (fun c2 hr => ?_) (fun c2 hr => ?_)
  ·
   refine rn tk 5 rfl ?_
   cases hr
   exact jn _ rfl rfl rfl
  ·
   refine rn tk 5 rfl ?_
   cases hr
   exact jn _ rfl rfl rfl
 ·
  refine rn tk 1 rfl ?_
  cases hr
  exact kr tk (.inr rfl) rfl rfl
theorem fold_point_run (a0 : Str) (a1 : Int) (r : Int) (hr : fold_point a0 a1 = some r) : Run Try.prog 116 [.s a0, .i a1] (.i r) := by
 unfold fold_point at hr
 refine rf (fn := Try.f116) ⟨Try.func116, rfl, by kernel_rfl⟩ rfl (fun _ => rfl) fun g0 hg => ?_
 refine rn tk 14 rfl ?_
 refine wq (ev_max rfl rfl) rfl rfl rfl ?_
 refine rn tk 4 rfl ?_
 refine al1 hr (fun s1 => [(0, .s a0), (5, .i s1.1), (6, .i s1.2)]) (fun s1 => []) (.exit 0) (fun b2 => [(5, .i b2)]) (fun b2 => []) rfl rfl (fun s1 x3 hr => ?_) (fun b2 hr => ?_)
 ·
  unfold fold_point_l1 at hr
  refine rn tk 9 rfl ?_
  refine ac 12 hr rfl (fun c4 hr => ?_) (fun c4 hr => ?_)
  ·
   refine rn tk 2 rfl ?_
   refine jk (fun j5 => [(0, .s a0), (5, .i j5), (6, .i s1.2)]) (fun j5 => []) (fun j5 => fold_point_k2 s1 j5 = some x3) ?_ ?_
   ·
    refine rn tk 2 rfl ?_
    refine jb hr (fun j6 => [(0, .s a0), (5, .i s1.1), (6, .i s1.2), (26, .bo j6)]) (fun j6 => []) (fun j6 hr => ?_) (fun j6 hr => ?_)
    ·
     refine rn tk 3 rfl ?_
     obtain ⟨v7, h8, hr⟩ := bind_some hr
     refine ws tk h8 rfl rfl rfl rfl ?_
     obtain ⟨v9, h10, hr⟩ := bind_some hr
     refine cl (basic_Blank_run _ _ h10) rfl rfl ?_
     refine rn tk 2 rfl ?_
     refine bs 20 hr rfl (fun c11 hr => ?_) (fun c11 hr => ?_)
     ·
      refine rn tk 7 rfl ?_
      cases hr
      exact jn _ rfl rfl rfl
     ·
      refine rn tk 3 rfl ?_
      obtain ⟨v12, h13, hr⟩ := bind_some hr
      refine ug rfl rfl rfl ?_
      refine ws tk h13 rfl rfl rfl rfl ?_
      obtain ⟨v14, h15, hr⟩ := bind_some hr
      refine ug rfl rfl rfl ?_
      refine cl (basic_Blank_run _ _ h15) rfl rfl ?_
      refine rn tk 2 rfl ?_
      cases hr
      exact jn _ rfl rfl rfl
    ·
     refine ac 26 hr rfl (fun c16 hr => ?_) (fun c16 hr => ?_)
     ·
      refine rn tk 3 rfl ?_
      exact jn s1.1 hr rfl rfl
     ·
      refine rn tk 3 rfl ?_
      refine jb hr (fun j17 => [(0, .s a0), (5, .i s1.1), (6, .i s1.2), (32, .bo j17)]) (fun j17 => []) (fun j17 hr => ?_) (fun j17 hr => ?_)
      ·
       refine rn tk 4 rfl ?_
       refine bs 29 hr rfl (fun c18 hr => ?_) (fun c18 hr => ?_)
       ·
        refine rn tk 4 rfl ?_
        cases hr
        exact jn _ rfl rfl rfl
       ·
        refine rn tk 4 rfl ?_
        cases hr
        exact jn _ rfl rfl rfl
      ·
       refine ac 32 hr rfl (fun c19 hr => ?_) (fun c19 hr => ?_)
       ·
        refine rn tk 4 rfl ?_
        cases hr
        exact ato rfl rfl rfl rfl
       ·
        refine rn tk 7 rfl ?_
        exact jn s1.2 hr rfl rfl
   ·
    intro j5 hr
    unfold fold_point_k2 at hr
    refine rn tk 5 rfl ?_
    cases hr
    exact atc rfl rfl
  ·
   refine rn tk 2 rfl ?_
   cases hr
   exact ato rfl rfl rfl rfl
 ·
  refine rn tk 9 rfl ?_
  cases hr
  exact kr tk (.inr rfl) rfl rfl
end Go.Proofs.Ytkoijpogjobgjaa

/- Library functions compute what their Lean functions do. -/
namespace Go.Proofs.Ytkoijpogjobgjaa
open Go.RowKit
set_option maxRecDepth 100000
theorem old_drewN (g : G) (q : Nat) : Old (fun _ => False) g ⟨g.w.drewN q, g.u, g.loc⟩ :=
  ⟨rfl, rfl, rfl, ⟨Nat.le_refl _, fun _ _ => Nat.le_refl _, fun _ _ _ _ => rfl, fun _ h => h⟩, fun _ _ _ => ⟨rfl, rfl⟩⟩
theorem str_arg {g : G} {s : Str} {v : Value} (h : Rel g (.s s) v) : v = .string (strB s) := rel_b h
theorem strings_IndexByte_run (s : Str) (c : UInt8) (r : Int) (hr : strings_IndexByte s c = some r) : Run Try.prog 99 [.s s, .u8 c] (.i r) := by
  unfold strings_IndexByte at hr
  cases hr
  refine ⟨⟨_, _, ⟨Try.func99, rfl, by kernel_rfl⟩⟩, fun g vs hw hg ha => ?_⟩
  obtain ⟨hsz, hrel⟩ := ha
  obtain ⟨l⟩ := vs
  match l, hsz with
  | [x, y], _ =>
    obtain rfl := str_arg (hrel 0 _ rfl)
    have e2 : y = .int .u8 (c.toNat : Int) := rel_b (hrel 1 _ rfl)
    subst e2
    refine callsIn_wide.2 ((Try.strings_IndexByte (strB s) (c.toNat : Int) g.w).mono ?_)
    rintro e w' ⟨rfl, rfl⟩
    refine ⟨g, _, rfl, rfl, Old.refl _ g, hw, rfl, ?_⟩
    simp [strB]
    exact .pv (.b rfl)
theorem strings_Contains_run (s t : Str) (r : Bool) (hr : strings_Contains s t = some r) : Run Try.prog 54 [.s s, .s t] (.bo r) := by
  unfold strings_Contains at hr
  split at hr
  case isFalse => cases hr
  rename_i hlen
  cases hr
  refine ⟨⟨_, _, ⟨Try.func54, rfl, by kernel_rfl⟩⟩, fun g vs hw hg ha => ?_⟩
  obtain ⟨hsz, hrel⟩ := ha
  obtain ⟨l⟩ := vs
  match l, hsz with
  | [x, y], _ =>
    obtain rfl := str_arg (hrel 0 _ rfl)
    obtain rfl := str_arg (hrel 1 _ rfl)
    obtain ⟨_, _, m, hm⟩ := hg (0, 0) (by simp [globs])
    refine callsIn_wide.2 ((Try.strings_Contains (strB s) (strB t) m g.w (by rw [strB_size]; exact hlen) hm).mono ?_)
    rintro e w' ⟨rfl, rfl⟩
    exact ⟨g, _, rfl, rfl, Old.refl _ g, hw, rfl, .pv (.b rfl)⟩
theorem strings_Cut_run (s t : Str) (r : Str × Str × Bool) (hr : strings_Cut s t = some r) : Run Try.prog 96 [.s s, .s t] (.tup [.s r.1, .s r.2.1, .bo r.2.2]) := by
  unfold strings_Cut at hr
  split at hr
  case isFalse => cases hr
  rename_i hlen
  cases hr
  refine ⟨⟨_, _, ⟨Try.func96, rfl, by kernel_rfl⟩⟩, fun g vs hw hg ha => ?_⟩
  obtain ⟨hsz, hrel⟩ := ha
  obtain ⟨l⟩ := vs
  match l, hsz with
  | [x, y], _ =>
    obtain rfl := str_arg (hrel 0 _ rfl)
    obtain rfl := str_arg (hrel 1 _ rfl)
    obtain ⟨_, _, m, hm⟩ := hg (0, 0) (by simp [globs])
    refine callsIn_wide.2 ((Try.strings_Cut (strB s) (strB t) m g.w (by rw [strB_size]; exact hlen) hm).mono ?_)
    rintro e w' ⟨rfl, q, rfl⟩
    refine ⟨⟨g.w.drewN q, g.u, g.loc⟩, _, rfl, rfl, old_drewN g q, hw, rfl, .tup rfl fun i c hi => ?_⟩
    match i, hi with
    | 0, rfl => exact .pv (.b rfl)
    | 1, rfl => exact .pv (.b rfl)
    | 2, rfl => exact .pv (.b rfl)
end Go.Proofs.Ytkoijpogjobgjaa

namespace Go.Proofs.Ytkoijpogjobgjaa
open Go.RowKit
set_option maxRecDepth 100000
set_option maxHeartbeats 40000000
set_option linter.unusedVariables false
theorem unicode_utf8_ValidRune_run (a0 : Int) (r : Bool) (hr : unicode_utf8_ValidRune a0 = some r) : Run Try.prog 128 [.pv (.b (.int .i32 a0))] (.bo r) := by
 unfold unicode_utf8_ValidRune at hr
 refine rf (fn := Try.f128) ⟨Try.func128, rfl, by kernel_rfl⟩ rfl (fun _ => rfl) fun g0 hg => ?_
 refine rn tk 7 rfl ?_
 refine jb hr (fun j1 => [(0, .pv (.b (.int .i32 a0))), (3, .bo j1)]) (fun j1 => []) (fun j1 hr => ?_) (fun j1 hr => ?_)
 ·
  refine rn tk 4 rfl ?_
  refine bs 6 hr rfl (fun c2 hr => ?_) (fun c2 hr => ?_)
  ·
   refine rn tk 5 rfl ?_
   cases hr
   exact jn _ rfl rfl rfl
  ·
   refine rn tk 5 rfl ?_
   cases hr
   exact jn _ rfl rfl rfl
 ·
  refine ac 3 hr rfl (fun c3 hr => ?_) (fun c3 hr => ?_)
  ·
   refine rn tk 8 rfl ?_
   cases hr
   exact kr tk (.inr rfl) rfl rfl
  ·
   refine jb hr (fun j4 => [(10, .bo j4)]) (fun j4 => []) (fun j4 hr => ?_) (fun j4 hr => ?_)
   ·
    refine rn tk 4 rfl ?_
    refine bs 13 hr rfl (fun c5 hr => ?_) (fun c5 hr => ?_)
    ·
     refine rn tk 5 rfl ?_
     cases hr
     exact jn _ rfl rfl rfl
    ·
     refine rn tk 5 rfl ?_
     cases hr
     exact jn _ rfl rfl rfl
   ·
    refine ac 10 hr rfl (fun c6 hr => ?_) (fun c6 hr => ?_)
    ·
     refine rn tk 8 rfl ?_
     cases hr
     exact kr tk (.inr rfl) rfl rfl
    ·
     refine rn tk 9 rfl ?_
     cases hr
     exact kr tk (.inr rfl) rfl rfl
theorem strings_IndexRune_run (a0 : Str) (a1 : Int) (r : Int) (hr : strings_IndexRune a0 a1 = some r) : Run Try.prog 124 [.s a0, .pv (.b (.int .i32 a1))] (.i r) := by
 unfold strings_IndexRune at hr
 refine rf (fn := Try.f124) ⟨Try.func124, rfl, by kernel_rfl⟩ rfl (fun _ => rfl) fun g0 hg => ?_
 refine rn tk 6 rfl ?_
 refine jb hr (fun j1 => [(0, .s a0), (1, .pv (.b (.int .i32 a1))), (160, .bo j1)]) (fun j1 => []) (fun j1 hr => ?_) (fun j1 hr => ?_)
 ·
  refine rn tk 4 rfl ?_
  refine bs 163 hr rfl (fun c2 hr => ?_) (fun c2 hr => ?_)
  ·
   refine rn tk 5 rfl ?_
   cases hr
   exact jn _ rfl rfl rfl
  ·
   refine rn tk 5 rfl ?_
   cases hr
   exact jn _ rfl rfl rfl
 ·
  refine ac 160 hr rfl (fun c3 hr => ?_) (fun c3 hr => ?_)
  ·
   refine rn tk 5 rfl ?_
   obtain ⟨v4, h5, hr⟩ := bind_some hr
   refine cl (strings_IndexByte_run _ _ _ h5) rfl rfl ?_
   refine rn tk 5 rfl ?_
   cases hr
   exact kr tk (.inr rfl) rfl rfl
  ·
   refine rn tk 7 rfl ?_
   refine ac 171 hr rfl (fun c6 hr => ?_) (fun c6 hr => ?_)
   ·
    refine rn tk 4 rfl ?_
    refine wr 1175 tk rfl rfl rfl rfl ?_
    refine rn tk 3 rfl ?_
    refine al2 hr (fun s7 => [(175, .ptr 1175 0)]) (fun s7 => [(1175, .it (strB a0) s7)]) (.exit 9) (fun b8 => []) (fun b8 => []) .ret (fun b9 => [(4, .i b9)]) (fun b9 => []) rfl rfl (fun s7 x11 hr => ?_) (fun b8 hr => ?_) (fun b9 hr => ?_)
    ·
     unfold strings_IndexRune_l1 at hr
     refine rn tk 2 rfl ?_
     refine wnx hr rfl rfl rfl (fun c12 hr => ?_) (fun c12 hr => ?_)
     ·
      refine rn tk 22 rfl ?_
      refine ac 181 hr rfl (fun c13 hr => ?_) (fun c13 hr => ?_)
      ·
       refine rn tk 8 rfl ?_
       cases hr
       exact ato rfl rfl rfl rfl
      ·
       refine rn tk 2 rfl ?_
       cases hr
       exact atc rfl rfl
     ·
      refine rn tk 7 rfl ?_
      cases hr
      exact ato rfl rfl rfl rfl
    ·
     refine rn tk 9 rfl ?_
     cases hr
     exact kr tk (.inr rfl) rfl rfl
    ·
     refine rn tk 3 rfl ?_
     cases hr
     exact kr tk (.inr rfl) rfl rfl
   ·
    refine rn tk 3 rfl ?_
    obtain ⟨v14, h15, hr⟩ := bind_some hr
    refine cl (unicode_utf8_ValidRune_run _ _ h15) rfl rfl ?_
    refine rn tk 4 rfl ?_
    refine ac 183 hr rfl (fun c16 hr => ?_) (fun c16 hr => ?_)
    ·
     refine rn tk 7 rfl ?_
     cases hr
     exact kr tk (.inr rfl) rfl rfl
    ·
     refine rn tk 29 rfl ?_
     refine al2 hr (fun s17 => [(0, .s a0), (7, .s ((runeS a1))), (8, .i ((w64 ((((runeS a1)).length : Int) - 1)))), (9, .i s17)]) (fun s17 => []) (.exit 1) (fun b18 => []) (fun b18 => []) .ret (fun b19 => [(4, .i b19)]) (fun b19 => []) rfl rfl (fun s17 x21 hr => ?_) (fun b18 hr => ?_) (fun b19 hr => ?_)
     ·
      unfold strings_IndexRune_l2 at hr
      refine rn tk 9 rfl ?_
      refine ac 26 hr rfl (fun c22 hr => ?_) (fun c22 hr => ?_)
      ·
       refine rn tk 4 rfl ?_
       refine jk (fun j23 => [(0, .s a0), (7, .s ((runeS a1))), (8, .i j23.1), (9, .i j23.2)]) (fun j23 => []) (fun j23 => strings_IndexRune_k3 a0 a1 j23 = some x21) ?_ ?_
       ·
        refine rn tk 1 rfl ?_
        obtain ⟨v24, h25, hr⟩ := bind_some hr
        obtain ⟨v26, h27, hr⟩ := bind_some hr
        refine dr 6 [(32, .u8 v26), (31, .i ((w64 ((((runeS a1)).length : Int) - 1)))), (30, .s ((runeS a1))), (29, .u8 v24), (28, .i s17), (27, .s a0)] mixed (by kernel_rfl) rfl rfl (pq tk rfl (.plain rfl) (pq tk rfl (.plain rfl) (.run (.plain rfl) (opG_q (ev_sidx rfl rfl ty_string h25)) (pq tk rfl (.plain rfl) (pq tk rfl (.plain rfl) (.run (.plain rfl) (opG_q (ev_sidx rfl rfl ty_string h27)) .nil)))))) rfl ?_
        refine rn tk 3 rfl ?_
        refine ac 33 hr rfl (fun c28 hr => ?_) (fun c28 hr => ?_)
        ·
         refine rn tk 1 rfl ?_
         obtain ⟨v29, h30, hr⟩ := bind_some hr
         obtain ⟨v31, h32, hr⟩ := bind_some hr
         refine dr 7 [(40, .u8 v31), (39, .i ((w64 ((((runeS a1)).length : Int) - 1)))), (38, .s ((runeS a1))), (37, .s v29), (36, .i ((w64 (s17 + 1)))), (35, .i s17), (34, .s a0)] mixed (by kernel_rfl) rfl rfl (pq tk rfl (.plain rfl) (pq tk rfl (.plain rfl) (pq tk rfl (.plain rfl) (.run (.plain rfl) (opG_q (ev_scutL rfl rfl ty_string h30)) (pq tk rfl (.plain rfl) (pq tk rfl (.plain rfl) (.run (.plain rfl) (opG_q (ev_sidx rfl rfl ty_string h32)) .nil))))))) rfl ?_
         obtain ⟨v33, h34, hr⟩ := bind_some hr
         refine cl (strings_IndexByte_run _ _ _ h34) rfl rfl ?_
         refine rn tk 10 rfl ?_
         refine ac 43 hr rfl (fun c35 hr => ?_) (fun c35 hr => ?_)
         ·
          refine rn tk 10 rfl ?_
          cases hr
          exact ato rfl rfl rfl rfl
         ·
          refine rn tk 9 rfl ?_
          exact jn (((w64 ((((runeS a1)).length : Int) - 1)), (w64 (s17 + (w64 (v33 + 1)))))) hr rfl rfl
        ·
         refine rn tk 1 rfl ?_
         exact jn (((w64 ((((runeS a1)).length : Int) - 1)), s17)) hr rfl rfl
       ·
        intro j23 hr
        unfold strings_IndexRune_k3 at hr
        refine rn tk 7 rfl ?_
        refine al1 hr (fun s36 => [(0, .s a0), (7, .s ((runeS a1))), (8, .i j23.1), (9, .i j23.2), (12, .i s36)]) (fun s36 => []) (.exit 3) (fun b37 => [(8, .i j23.1), (9, .i j23.2)]) (fun b37 => []) rfl rfl (fun s36 x38 hr => ?_) (fun b37 hr => ?_)
        ·
         unfold strings_IndexRune_l4 at hr
         refine rn tk 9 rfl ?_
         refine ac 51 hr rfl (fun c39 hr => ?_) (fun c39 hr => ?_)
         ·
          refine rn tk 5 rfl ?_
          obtain ⟨v40, h41, hr⟩ := bind_some hr
          obtain ⟨v42, h43, hr⟩ := bind_some hr
          refine dr 10 [(63, .u8 v42), (62, .i ((w64 (j23.1 - s36)))), (61, .i s36), (60, .i j23.1), (59, .s ((runeS a1))), (58, .u8 v40), (57, .i ((w64 (j23.2 - s36)))), (56, .i s36), (55, .i j23.2), (54, .s a0)] mixed (by kernel_rfl) rfl rfl (pq tk rfl (.plain rfl) (pq tk rfl (.plain rfl) (pq tk rfl (.plain rfl) (pq tk rfl (.plain rfl) (.run (.plain rfl) (opG_q (ev_sidx rfl rfl ty_string h41)) (pq tk rfl (.plain rfl) (pq tk rfl (.plain rfl) (pq tk rfl (.plain rfl) (pq tk rfl (.plain rfl) (.run (.plain rfl) (opG_q (ev_sidx rfl rfl ty_string h43)) .nil)))))))))) rfl ?_
          refine rn tk 3 rfl ?_
          refine ac 64 hr rfl (fun c44 hr => ?_) (fun c44 hr => ?_)
          ·
           cases hr
          ·
           refine rn tk 8 rfl ?_
           cases hr
           exact atc rfl rfl
         ·
          refine rn tk 2 rfl ?_
          cases hr
          exact ato rfl rfl rfl rfl
        ·
         refine rn tk 15 rfl ?_
         cases hr
         exact ato rfl rfl rfl rfl
      ·
       refine rn tk 2 rfl ?_
       cases hr
       exact ato rfl rfl rfl rfl
     ·
      refine rn tk 12 rfl ?_
      cases hr
      exact kr tk (.inr rfl) rfl rfl
     ·
      refine rn tk 4 rfl ?_
      cases hr
      exact kr tk (.inr rfl) rfl rfl
theorem strings_shouldUseASCIISet_run (a0 : Int) (r : Bool) (hr : strings_shouldUseASCIISet a0 = some r) : Run Try.prog 125 [.i a0] (.bo r) := by
 unfold strings_shouldUseASCIISet at hr
 refine rf (fn := Try.f125) ⟨Try.func125, rfl, by kernel_rfl⟩ rfl (fun _ => rfl) fun g0 hg => ?_
 refine rn tk 13 rfl ?_
 cases hr
 exact kr tk (.inr rfl) rfl rfl
theorem strings_IndexAnyP_run (a0 : Str) (a1 : Str) (r : Int) (hr : strings_IndexAnyP a0 a1 = some r) : Run Try.prog 123 [.s a0, .s a1] (.i r) := by
 unfold strings_IndexAnyP at hr
 refine rf (fn := Try.f123) ⟨Try.func123, rfl, by kernel_rfl⟩ rfl (fun _ => rfl) fun g0 hg => ?_
 refine rn tk 12 rfl ?_
 refine ac 12 hr rfl (fun c1 hr => ?_) (fun c1 hr => ?_)
 ·
  refine rn tk 7 rfl ?_
  cases hr
  exact kr tk (.inr rfl) rfl rfl
 ·
  refine rn tk 10 rfl ?_
  refine ac 15 hr rfl (fun c2 hr => ?_) (fun c2 hr => ?_)
  ·
   refine rn tk 3 rfl ?_
   obtain ⟨v3, h4, hr⟩ := bind_some hr
   refine ws tk h4 rfl rfl rfl rfl ?_
   refine wur tk rfl rfl rfl ?_
   refine rn tk 3 rfl ?_
   refine jb hr (fun j5 => [(0, .s a0), (5, .pv (.b (.int .i32 j5)))]) (fun j5 => []) (fun j5 hr => ?_) (fun j5 hr => ?_)
   ·
    refine rn tk 6 rfl ?_
    refine ac 20 hr rfl (fun c6 hr => ?_) (fun c6 hr => ?_)
    ·
     refine rn tk 3 rfl ?_
     cases hr
     exact jn _ rfl rfl rfl
    ·
     refine rn tk 1 rfl ?_
     cases hr
     exact jn _ rfl rfl rfl
   ·
    refine rn tk 4 rfl ?_
    obtain ⟨v7, h8, hr⟩ := bind_some hr
    refine cl (strings_IndexRune_run _ _ _ h8) rfl rfl ?_
    refine rn tk 5 rfl ?_
    cases hr
    exact kr tk (.inr rfl) rfl rfl
  ·
   refine rn tk 7 rfl ?_
   obtain ⟨v9, h10, hr⟩ := bind_some hr
   refine cl (strings_shouldUseASCIISet_run _ _ h10) rfl rfl ?_
   refine rn tk 2 rfl ?_
   refine ac 26 hr rfl (fun c11 hr => ?_) (fun c11 hr => ?_)
   ·
    refine rn tk 3 rfl ?_
    cases hr
   ·
    refine rn tk 6 rfl ?_
    refine wr 1045 tk rfl rfl rfl rfl ?_
    refine rn tk 3 rfl ?_
    refine al2 hr (fun s12 => [(1, .s a1), (45, .ptr 1045 0)]) (fun s12 => [(1045, .it (strB a0) s12)]) (.exit 2) (fun b13 => []) (fun b13 => []) .ret (fun b14 => [(4, .i b14)]) (fun b14 => []) rfl rfl (fun s12 x16 hr => ?_) (fun b13 hr => ?_) (fun b14 hr => ?_)
    ·
     unfold strings_IndexAnyP_l1 at hr
     refine rn tk 2 rfl ?_
     refine wnx hr rfl rfl rfl (fun c17 hr => ?_) (fun c17 hr => ?_)
     ·
      refine rn tk 20 rfl ?_
      obtain ⟨v18, h19, hr⟩ := bind_some hr
      refine cl (strings_IndexRune_run _ _ _ h19) rfl rfl ?_
      refine rn tk 3 rfl ?_
      refine ac 53 hr rfl (fun c20 hr => ?_) (fun c20 hr => ?_)
      ·
       refine rn tk 8 rfl ?_
       cases hr
       exact ato rfl rfl rfl rfl
      ·
       refine rn tk 2 rfl ?_
       cases hr
       exact atc rfl rfl
     ·
      refine rn tk 7 rfl ?_
      cases hr
      exact ato rfl rfl rfl rfl
    ·
     refine rn tk 8 rfl ?_
     cases hr
     exact kr tk (.inr rfl) rfl rfl
    ·
     refine rn tk 2 rfl ?_
     cases hr
     exact kr tk (.inr rfl) rfl rfl
end Go.Proofs.Ytkoijpogjobgjaa

/- Library functions compute what their Lean functions do. -/
namespace Go.Proofs.Ytkoijpogjobgjaa
open Go.RowKit
set_option maxRecDepth 100000
theorem old_allocL (g : G) (vs : Array Value) (t : TypeId) : Old (fun _ => False) g ⟨g.w.alloc (.cells vs t), fun k => if k = g.w.heap.size then 0 else g.u k, g.loc⟩ := by
  have h := old_alloc g vs t 0 0 (g.loc 0)
  have e : (g.alloc vs t 0 0 (g.loc 0)) = ⟨g.w.alloc (.cells vs t), fun k => if k = g.w.heap.size then 0 else g.u k, g.loc⟩ := by
    unfold G.alloc
    congr 1
    funext k
    split
    · rename_i hk; rw [hk]
    · rfl
  rw [← e]; exact h
theorem wf_allocL {g : G} (h : Wf g) (vs : Array Value) (t : TypeId) : Wf ⟨g.w.alloc (.cells vs t), fun k => if k = g.w.heap.size then 0 else g.u k, g.loc⟩ := by
  intro k hk
  have hk : g.w.heap.size + 1 ≤ k := by simpa using hk
  show (if k = g.w.heap.size then 0 else g.u k) = 0
  rw [if_neg (by omega)]
  exact h k (by omega)
theorem ascii_data {t : Str} (h : asciiL t = true) : ∀ (j : Nat) b, (strB t).data.toList[j]? = some b → b.toNat < 128 := fun j b hb => asciiL_mem h (List.mem_of_getElem? hb)
theorem strings_IndexAny_run (s t : Str) (r : Int) (hr : strings_IndexAny s t = some r) : Run Try.prog 123 [.s s, .s t] (.i r) := by
  unfold strings_IndexAny at hr
  split at hr
  case isFalse => cases hr
  rename_i hc
  obtain ⟨h1, h2, h3, h4⟩ := hc
  by_cases h8 : s.length ≤ 8
  · exact strings_IndexAnyP_run s t r (by rw [IndexAnyP_eq s t h8 h3 h2 h4]; exact hr)
  · cases hr
    refine ⟨⟨_, _, ⟨Try.func123, rfl, by kernel_rfl⟩⟩, fun g vs hw hg ha => ?_⟩
    obtain ⟨hsz, hrel⟩ := ha
    obtain ⟨l⟩ := vs
    match l, hsz with
    | [x, y], _ =>
      obtain rfl := str_arg (hrel 0 _ rfl)
      obtain rfl := str_arg (hrel 1 _ rfl)
      have h116 : (Try.prog.info? 144).map (fun i => (i.zero, i.size)) = some (some (.agg (Array.replicate 256 (.bool false))), 256) := by kernel_rfl
      have hz := (zero_of_info h116).1
      refine callsIn_wide.2 ((Try.strings_IndexAny_long hz (strB s) (strB t) g.w (by rw [strB_size]; exact h3) (by rw [strB_size]; omega) (by rw [strB_size]; exact h1) (by rw [strB_size]; exact h2) (ascii_data h4)).mono ?_)
      rintro e w' ⟨rfl, rfl⟩
      have o1 := old_allocL g (Lib.setCells t) 144
      have w1 := wf_allocL hw (Lib.setCells t) 144
      have o2 := old_allocL ⟨g.w.alloc (.cells (Lib.setCells t) 144), fun k => if k = g.w.heap.size then 0 else g.u k, g.loc⟩ (Lib.setCells t) 144
      have w2 := wf_allocL w1 (Lib.setCells t) 144
      have o3 : Old (fun _ => False) g _ := o1.trans (o2.mono (S' := fun b => False ∨ g.w.heap.size ≤ b) (by intro b _ hf; exact hf.elim))
      exact ⟨⟨_, _, _⟩, _, rfl, (by rfl), o3, w2, (by rfl), .pv (.b rfl)⟩
end Go.Proofs.Ytkoijpogjobgjaa

namespace Go.Proofs.Ytkoijpogjobgjaa
open Go.RowKit
set_option maxRecDepth 100000
set_option maxHeartbeats 40000000
set_option linter.unusedVariables false
theorem strings_ContainsAny_run (a0 : Str) (a1 : Str) (r : Bool) (hr : strings_ContainsAny a0 a1 = some r) : Run Try.prog 122 [.s a0, .s a1] (.bo r) := by
 unfold strings_ContainsAny at hr
 refine rf (fn := Try.f122) ⟨Try.func122, rfl, by kernel_rfl⟩ rfl (fun _ => rfl) fun g0 hg => ?_
 refine rn tk 9 rfl ?_
 obtain ⟨v1, h2, hr⟩ := bind_some hr
 refine cl (strings_IndexAny_run _ _ _ h2) rfl rfl ?_
 refine rn tk 5 rfl ?_
 cases hr
 exact kr tk (.inr rfl) rfl rfl
theorem fold_ends_run (a0 : Str) (r : Bool) (hr : fold_ends a0 = some r) : Run Try.prog 120 [.s a0] (.bo r) := by
 unfold fold_ends at hr
 refine rf (fn := Try.f120) ⟨Try.func120, rfl, by kernel_rfl⟩ rfl (fun _ => rfl) fun g0 hg => ?_
 refine rn tk 8 rfl ?_
 obtain ⟨v1, h2, hr⟩ := bind_some hr
 refine cl (strings_ContainsAny_run _ _ _ h2) rfl rfl ?_
 refine rn tk 4 rfl ?_
 cases hr
 exact kr tk (.inr rfl) rfl rfl
theorem fold_value_run (a0 : Str) (r : Bool) (hr : fold_value a0 = some r) : Run Try.prog 115 [.s a0] (.bo r) := by
 unfold fold_value at hr
 refine rf (fn := Try.f115) ⟨Try.func115, rfl, by kernel_rfl⟩ rfl (fun _ => rfl) fun g0 hg => ?_
 refine rn tk 5 rfl ?_
 refine jb hr (fun j1 => [(2, .bo j1)]) (fun j1 => []) (fun j1 hr => ?_) (fun j1 hr => ?_)
 ·
  refine rn tk 2 rfl ?_
  obtain ⟨v2, h3, hr⟩ := bind_some hr
  refine cl (fold_ends_run _ _ h3) rfl rfl ?_
  refine rn tk 2 rfl ?_
  refine bs 6 hr rfl (fun c4 hr => ?_) (fun c4 hr => ?_)
  ·
   refine rn tk 3 rfl ?_
   refine bs 9 hr rfl (fun c5 hr => ?_) (fun c5 hr => ?_)
   ·
    refine rn tk 17 rfl ?_
    cases hr
    exact jn _ rfl rfl rfl
   ·
    refine rn tk 1 rfl ?_
    obtain ⟨v6, h7, hr⟩ := bind_some hr
    refine ug rfl rfl rfl ?_
    refine ws tk h7 rfl rfl rfl rfl ?_
    obtain ⟨v8, h9, hr⟩ := bind_some hr
    refine ug rfl rfl rfl ?_
    refine cl (basic_Blank_run _ _ h9) rfl rfl ?_
    refine rn tk 2 rfl ?_
    refine bs 14 hr rfl (fun c10 hr => ?_) (fun c10 hr => ?_)
    ·
     refine rn tk 4 rfl ?_
     obtain ⟨v11, h12, hr⟩ := bind_some hr
     refine ug rfl rfl rfl ?_
     refine ws tk h12 rfl rfl rfl rfl ?_
     obtain ⟨v13, h14, hr⟩ := bind_some hr
     refine ug rfl rfl rfl ?_
     refine cl (basic_Blank_run _ _ h14) rfl rfl ?_
     refine rn tk 6 rfl ?_
     cases hr
     exact jn _ rfl rfl rfl
    ·
     refine rn tk 12 rfl ?_
     cases hr
     exact jn _ rfl rfl rfl
  ·
   refine rn tk 20 rfl ?_
   cases hr
   exact jn _ rfl rfl rfl
 ·
  refine rn tk 1 rfl ?_
  cases hr
  exact kr tk (.inr rfl) rfl rfl
theorem fold_Fold_run (a0 : Str) (a1 : Str) (r : (List Str) × TFault) (hr : fold_Fold a0 a1 = some r) : Run Try.prog 104 [.s a0, .s a1] (.tup [.l cS r.1, .agg [.i r.2.Code, .i r.2.Index]]) := by
 unfold fold_Fold at hr
 refine rf (fn := Try.f104) ⟨Try.func104, rfl, by kernel_rfl⟩ rfl (fun _ => rfl) fun g0 hg => ?_
 refine rn tk 11 rfl ?_
 obtain ⟨v1, h2, hr⟩ := bind_some hr
 refine cl (fold_name_run _ _ h2) rfl rfl ?_
 refine rn tk 4 rfl ?_
 refine ac 12 hr rfl (fun c3 hr => ?_) (fun c3 hr => ?_)
 ·
  refine rn tk 2 rfl ?_
  obtain ⟨v4, h5, hr⟩ := bind_some hr
  refine cl (basic_Fault_run _ _ _ h5) rfl rfl ?_
  refine rn tk 7 rfl ?_
  cases hr
  exact kr tk (.inr rfl) rfl rfl
 ·
  refine rn tk 8 rfl ?_
  refine ac 17 hr rfl (fun c6 hr => ?_) (fun c6 hr => ?_)
  ·
   refine rn tk 2 rfl ?_
   obtain ⟨v7, h8, hr⟩ := bind_some hr
   refine cl (basic_Fault_run _ _ _ h8) rfl rfl ?_
   refine rn tk 7 rfl ?_
   cases hr
   exact kr tk (.inr rfl) rfl rfl
  ·
   refine rn tk 3 rfl ?_
   obtain ⟨v9, h10, hr⟩ := bind_some hr
   refine cl (fold_value_run _ _ h10) rfl rfl ?_
   refine rn tk 4 rfl ?_
   refine ac 22 hr rfl (fun c11 hr => ?_) (fun c11 hr => ?_)
   ·
    refine rn tk 2 rfl ?_
    obtain ⟨v12, h13, hr⟩ := bind_some hr
    refine cl (basic_Fault_run _ _ _ h13) rfl rfl ?_
    refine rn tk 7 rfl ?_
    cases hr
    exact kr tk (.inr rfl) rfl rfl
   ·
    refine rn tk 6 rfl ?_
    obtain ⟨v14, h15, hr⟩ := bind_some hr
    refine wc h15 rfl rfl rfl ?_
    refine rn tk 1 rfl ?_
    obtain ⟨v16, h17, hr⟩ := bind_some hr
    refine wc h17 rfl rfl rfl ?_
    refine rn tk 10 rfl ?_
    refine awpl_adopt 1008 (d := 8) 9 1 rfl rfl rfl (hO ?_)
    refine rn tk 4 rfl ?_
    refine al1 hr (fun s18 => [(5, .ptr 5 0), (6, .s s18.1), (7, .i s18.2.1), (8, .hs 1008 0)]) (fun s18 => [(1008, .row 9 false 1 (List.map cS s18.2.2)), (5, .cells [.i 0, .i 0])]) (.exit 1) (fun b19 => [(5, .ptr 5 0), (6, .s b19.1), (8, .hs 1008 0)]) (fun b19 => [(1008, .row 9 false 1 (List.map cS b19.2)), (5, .cells [.i 0, .i 0])]) rfl rfl (fun s18 x20 hr => ?_) (fun b19 hr => ?_)
    ·
     unfold fold_Fold_l1 at hr
     refine rn tk 8 rfl ?_
     refine ac 36 hr rfl (fun c21 hr => ?_) (fun c21 hr => ?_)
     ·
      refine rn tk 7 rfl ?_
      obtain ⟨v22, h23, hr⟩ := bind_some hr
      refine cl (fold_point_run _ _ _ h23) rfl rfl ?_
      refine rn tk 10 rfl ?_
      refine ac 41 hr rfl (fun c24 hr => ?_) (fun c24 hr => ?_)
      ·
       refine rn tk 3 rfl ?_
       cases hr
       exact ato rfl rfl rfl rfl
      ·
       refine rn tk 7 rfl ?_
       obtain ⟨v25, h26, hr⟩ := bind_some hr
       refine wscH tk h26 rfl rfl rfl rfl ?_
       refine wz cS ([v25] : List Str) tk rfl rfl (fun _ => rfl) rfl rfl rfl ?_
       obtain ⟨v27, h28, hr⟩ := bind_some hr
       refine wa tk h28 rfl rfl rfl rfl (fun _ => rfl) rfl rfl ?_
       refine rn tk 6 rfl ?_
       obtain ⟨v29, h30, hr⟩ := bind_some hr
       refine wscL tk h30 rfl rfl rfl rfl ?_
       refine rn tk 4 rfl ?_
       cases hr
       exact atc rfl rfl
     ·
      refine rn tk 2 rfl ?_
      cases hr
      exact ato rfl rfl rfl rfl
    ·
     refine rn tk 6 rfl ?_
     refine wz cS ([b19.1] : List Str) tk rfl rfl (fun _ => rfl) rfl rfl rfl ?_
     obtain ⟨v31, h32, hr⟩ := bind_some hr
     refine wa tk h32 rfl rfl rfl rfl (fun _ => rfl) rfl rfl ?_
     refine rn tk 7 rfl ?_
     refine wnh tk rfl rfl rfl rfl ?_
     refine rn tk 4 rfl ?_
     refine awp_pub (d := 55) (F := cS) (l := v31) rfl rfl (hC ?_)
     refine al2 hr (fun s34 => [(5, .ptr 5 0), (8, .hs 1008 0), (55, .l cS v31), (56, .i ((v31.length : Int))), (57, .i s34)]) (fun s34 => [(1008, .row 9 false 1 (List.map cS v31)), (5, .cells [.i 0, .i 0])]) (.exit 3) (fun b35 => [(5, .ptr 5 0), (8, .hs 1008 0)]) (fun b35 => [(1008, .row 9 false 1 (List.map cS v31)), (5, .cells [.i 0, .i 0])]) .ret (fun b36 => [(4, .l cS b36.1), (5, .ptr 5 0)]) (fun b36 => [(5, .cells [.i b36.2.Code, .i b36.2.Index])]) rfl rfl (fun s34 x38 hr => ?_) (fun b35 hr => ?_) (fun b36 hr => ?_)
     ·
      unfold fold_Fold_l2 at hr
      refine rn tk 6 rfl ?_
      refine ac 58 hr rfl (fun c39 hr => ?_) (fun c39 hr => ?_)
      ·
       refine rn tk 7 rfl ?_
       obtain ⟨v40, h41, hr⟩ := bind_some hr
       refine wi tk h41 rfl rfl rfl rfl rfl ?_
       refine rn tk 12 rfl ?_
       refine ac 64 hr rfl (fun c42 hr => ?_) (fun c42 hr => ?_)
       ·
        refine rn tk 3 rfl ?_
        obtain ⟨v43, h44, hr⟩ := bind_some hr
        refine cl (basic_Fault_run _ _ _ h44) rfl rfl ?_
        refine rn tk 7 rfl ?_
        cases hr
        exact ato rfl rfl rfl rfl
       ·
        refine rn tk 7 rfl ?_
        cases hr
        exact atc rfl rfl
      ·
       refine rn tk 2 rfl ?_
       cases hr
       exact ato rfl rfl rfl rfl
     ·
      refine rn tk 5 rfl ?_
      obtain ⟨v45, h46, hr⟩ := bind_some hr
      refine cl (basic_None_run _ h46) rfl rfl ?_
      refine rn tk 4 rfl ?_
      refine awp_pub (d := 4) (F := cS) (l := v31) rfl rfl (hC ?_)
      refine rn tk 1 rfl ?_
      cases hr
      exact kr tk (.inr rfl) rfl rfl
     ·
      refine rn tk 2 rfl ?_
      cases hr
      exact kr tk (.inr rfl) rfl rfl
theorem header_Validate_run (a0 : List TField) (r : TFault) (hr : header_Validate a0 = some r) : Run Try.prog 87 [.l TField.pc a0] (.agg [.i r.Code, .i r.Index]) := by
 unfold header_Validate at hr
 refine rf (fn := Try.f87) ⟨Try.func87, rfl, by kernel_rfl⟩ rfl (fun _ => rfl) fun g0 hg => ?_
 refine rn tk 9 rfl ?_
 refine wn tk rfl rfl rfl ?_
 refine rn tk 3 rfl ?_
 refine ac 9 hr rfl (fun c1 hr => ?_) (fun c1 hr => ?_)
 ·
  refine rn tk 2 rfl ?_
  obtain ⟨v2, h3, hr⟩ := bind_some hr
  refine cl (basic_Fault_run _ _ _ h3) rfl rfl ?_
  refine rn tk 5 rfl ?_
  cases hr
  exact kr tk (.inr rfl) rfl rfl
 ·
  refine rn tk 6 rfl ?_
  refine wn tk rfl rfl rfl ?_
  refine rn tk 4 rfl ?_
  refine al2 hr (fun s4 => [(2, .ptr 2 0), (11, .l TField.pc a0), (12, .i ((a0.length : Int))), (13, .i s4)]) (fun s4 => [(2, .cells [.i 0, .i 0])]) (.exit 0) (fun b5 => [(2, .ptr 2 0)]) (fun b5 => [(2, .cells [.i 0, .i 0])]) .ret (fun b6 => [(2, .ptr 2 0)]) (fun b6 => [(2, .cells [.i b6.Code, .i b6.Index])]) rfl rfl (fun s4 x8 hr => ?_) (fun b5 hr => ?_) (fun b6 hr => ?_)
  ·
   unfold header_Validate_l1 at hr
   refine rn tk 6 rfl ?_
   refine ac 14 hr rfl (fun c9 hr => ?_) (fun c9 hr => ?_)
   ·
    refine rn tk 7 rfl ?_
    obtain ⟨v10, h11, hr⟩ := bind_some hr
    refine wi tk h11 rfl rfl rfl rfl rfl ?_
    refine rn tk 12 rfl ?_
    obtain ⟨v12, h13, hr⟩ := bind_some hr
    refine cl (fold_Fold_run _ _ _ h13) rfl rfl ?_
    refine rn tk 11 rfl ?_
    obtain ⟨v14, h15, hr⟩ := bind_some hr
    refine cl (basic_Failed_run _ _ h15) rfl rfl ?_
    refine rn tk 2 rfl ?_
    refine ac 27 hr rfl (fun c16 hr => ?_) (fun c16 hr => ?_)
    ·
     refine rn tk 5 rfl ?_
     obtain ⟨v17, h18, hr⟩ := bind_some hr
     refine cl (basic_Fault_run _ _ _ h18) rfl rfl ?_
     refine rn tk 6 rfl ?_
     cases hr
     exact ato rfl rfl rfl rfl
    ·
     refine rn tk 7 rfl ?_
     cases hr
     exact atc rfl rfl
   ·
    refine rn tk 2 rfl ?_
    cases hr
    exact ato rfl rfl rfl rfl
  ·
   refine rn tk 4 rfl ?_
   obtain ⟨v19, h20, hr⟩ := bind_some hr
   refine cl (basic_None_run _ h20) rfl rfl ?_
   refine rn tk 4 rfl ?_
   cases hr
   exact kr tk (.inr rfl) rfl rfl
  ·
   refine rn tk 2 rfl ?_
   cases hr
   exact kr tk (.inr rfl) rfl rfl
theorem basic_Body_run (a0 : List UInt8) (r : Int) (hr : basic_Body a0 = some r) : Run Try.prog 105 [.l cU a0] (.i r) := by
 unfold basic_Body at hr
 refine rf (fn := Try.f105) ⟨Try.func105, rfl, by kernel_rfl⟩ rfl (fun _ => rfl) fun g0 hg => ?_
 refine rn tk 17 rfl ?_
 refine al2 hr (fun s1 => [(0, .l cU a0), (3, .i s1.1), (4, .i s1.2)]) (fun s1 => []) (.exit 0) (fun b2 => []) (fun b2 => []) .ret (fun b3 => [(2, .i b3)]) (fun b3 => []) rfl rfl (fun s1 x5 hr => ?_) (fun b2 hr => ?_) (fun b3 hr => ?_)
 ·
  unfold basic_Body_l1 at hr
  refine rn tk 5 rfl ?_
  refine wn tk rfl rfl rfl ?_
  refine rn tk 3 rfl ?_
  refine ac 9 hr rfl (fun c6 hr => ?_) (fun c6 hr => ?_)
  ·
   refine rn tk 2 rfl ?_
   refine jk (fun j7 => [(0, .l cU a0), (3, .i j7.1), (4, .i j7.2)]) (fun j7 => []) (fun j7 => basic_Body_k2  j7 = some x5) ?_ ?_
   ·
    refine rn tk 5 rfl ?_
    obtain ⟨v8, h9, hr⟩ := bind_some hr
    refine wi tk h9 rfl rfl rfl rfl rfl ?_
    refine rn tk 5 rfl ?_
    refine jb hr (fun j10 => [(0, .l cU a0), (3, .i s1.1), (4, .i s1.2), (5, .u8 v8), (32, .bo j10)]) (fun j10 => []) (fun j10 hr => ?_) (fun j10 hr => ?_)
    ·
     refine rn tk 4 rfl ?_
     refine bs 18 hr rfl (fun c11 hr => ?_) (fun c11 hr => ?_)
     ·
      refine rn tk 3 rfl ?_
      refine ug rfl rfl rfl ?_
      refine wn tk rfl rfl rfl ?_
      refine rn tk 3 rfl ?_
      refine bs 25 hr rfl (fun c12 hr => ?_) (fun c12 hr => ?_)
      ·
       refine rn tk 3 rfl ?_
       obtain ⟨v13, h14, hr⟩ := bind_some hr
       refine ug rfl rfl rfl ?_
       refine wi tk h14 rfl rfl rfl rfl rfl ?_
       refine rn tk 4 rfl ?_
       cases hr
       exact jn _ rfl rfl rfl
      ·
       refine rn tk 8 rfl ?_
       cases hr
       exact jn _ rfl rfl rfl
     ·
      refine rn tk 15 rfl ?_
      cases hr
      exact jn _ rfl rfl rfl
    ·
     refine ac 32 hr rfl (fun c15 hr => ?_) (fun c15 hr => ?_)
     ·
      refine rn tk 15 rfl ?_
      exact jn ((0, (w64 (s1.2 + 1)))) hr rfl rfl
     ·
      refine rn tk 3 rfl ?_
      refine jb hr (fun j16 => [(0, .l cU a0), (3, .i s1.1), (4, .i s1.2), (40, .bo j16)]) (fun j16 => []) (fun j16 hr => ?_) (fun j16 hr => ?_)
      ·
       refine rn tk 4 rfl ?_
       refine bs 37 hr rfl (fun c17 hr => ?_) (fun c17 hr => ?_)
       ·
        refine rn tk 4 rfl ?_
        cases hr
        exact jn _ rfl rfl rfl
       ·
        refine rn tk 4 rfl ?_
        cases hr
        exact jn _ rfl rfl rfl
      ·
       refine ac 40 hr rfl (fun c18 hr => ?_) (fun c18 hr => ?_)
       ·
        refine rn tk 9 rfl ?_
        cases hr
        exact ato rfl rfl rfl rfl
       ·
        refine rn tk 15 rfl ?_
        refine ac 44 hr rfl (fun c19 hr => ?_) (fun c19 hr => ?_)
        ·
         refine rn tk 8 rfl ?_
         cases hr
         exact ato rfl rfl rfl rfl
        ·
         refine rn tk 2 rfl ?_
         exact jn (((w64 (s1.1 + 1)), s1.2)) hr rfl rfl
   ·
    intro j7 hr
    unfold basic_Body_k2 at hr
    refine rn tk 5 rfl ?_
    cases hr
    exact atc rfl rfl
  ·
   refine rn tk 2 rfl ?_
   cases hr
   exact ato rfl rfl rfl rfl
 ·
  refine rn tk 8 rfl ?_
  cases hr
  exact kr tk (.inr rfl) rfl rfl
 ·
  refine rn tk 2 rfl ?_
  cases hr
  exact kr tk (.inr rfl) rfl rfl
theorem message_body_run (a0 : List UInt8) (r : TFault) (hr : message_body a0 = some r) : Run Try.prog 89 [.l cU a0] (.agg [.i r.Code, .i r.Index]) := by
 unfold message_body at hr
 refine rf (fn := Try.f89) ⟨Try.func89, rfl, by kernel_rfl⟩ rfl (fun _ => rfl) fun g0 hg => ?_
 refine rn tk 9 rfl ?_
 obtain ⟨v1, h2, hr⟩ := bind_some hr
 refine cl (basic_Body_run _ _ h2) rfl rfl ?_
 refine rn tk 9 rfl ?_
 refine ac 5 hr rfl (fun c3 hr => ?_) (fun c3 hr => ?_)
 ·
  refine rn tk 2 rfl ?_
  obtain ⟨v4, h5, hr⟩ := bind_some hr
  refine cl (basic_Fault_run _ _ _ h5) rfl rfl ?_
  refine rn tk 6 rfl ?_
  cases hr
  exact kr tk (.inr rfl) rfl rfl
 ·
  refine rn tk 6 rfl ?_
  refine ac 8 hr rfl (fun c6 hr => ?_) (fun c6 hr => ?_)
  ·
   refine rn tk 2 rfl ?_
   obtain ⟨v7, h8, hr⟩ := bind_some hr
   refine cl (basic_Fault_run _ _ _ h8) rfl rfl ?_
   refine rn tk 6 rfl ?_
   cases hr
   exact kr tk (.inr rfl) rfl rfl
  ·
   refine rn tk 5 rfl ?_
   obtain ⟨v9, h10, hr⟩ := bind_some hr
   refine cl (basic_None_run _ h10) rfl rfl ?_
   refine rn tk 4 rfl ?_
   cases hr
   exact kr tk (.inr rfl) rfl rfl
theorem message_write_run (a0 : TMessage) (r : List UInt8) (hr : message_write a0 = some r) : Run Try.prog 88 [.agg [.l TField.pc a0.Fields, .l cU a0.Body]] (.l cU r) := by
 unfold message_write at hr
 refine rf (fn := Try.f88) ⟨Try.func88, rfl, by kernel_rfl⟩ rfl (fun _ => rfl) fun g0 hg => ?_
 refine rn tk 9 rfl ?_
 refine awpl_adopt 1003 (d := 3) 5 1 rfl rfl rfl (hO ?_)
 refine rn tk 7 rfl ?_
 refine wn tk rfl rfl rfl ?_
 refine rn tk 4 rfl ?_
 refine al1 hr (fun s1 => [(1, .ptr 1 0), (3, .hs 1003 0), (11, .l TField.pc a0.Fields), (12, .i ((a0.Fields.length : Int))), (13, .i s1.1)]) (fun s1 => [(1003, .row 5 false 1 (List.map cU s1.2)), (1, .cells [.l TField.pc a0.Fields, .l cU a0.Body])]) (.exit 0) (fun b2 => [(1, .ptr 1 0), (3, .hs 1003 0)]) (fun b2 => [(1003, .row 5 false 1 (List.map cU b2)), (1, .cells [.l TField.pc a0.Fields, .l cU a0.Body])]) rfl rfl (fun s1 x3 hr => ?_) (fun b2 hr => ?_)
 ·
  unfold message_write_l1 at hr
  refine rn tk 6 rfl ?_
  refine ac 14 hr rfl (fun c4 hr => ?_) (fun c4 hr => ?_)
  ·
   refine rn tk 6 rfl ?_
   obtain ⟨v5, h6, hr⟩ := bind_some hr
   refine wi tk h6 rfl rfl rfl rfl rfl ?_
   refine rn tk 11 rfl ?_
   obtain ⟨v7, h8, hr⟩ := bind_some hr
   refine cl (fold_Fold_run _ _ _ h8) rfl rfl ?_
   refine rn tk 11 rfl ?_
   refine wn tk rfl rfl rfl ?_
   refine rn tk 4 rfl ?_
   refine al1 hr (fun s9 => [(1, .ptr 1 0), (3, .hs 1003 0), (11, .l TField.pc a0.Fields), (12, .i ((a0.Fields.length : Int))), (13, .i s1.1), (25, .l cS v7.1), (26, .i ((v7.1.length : Int))), (27, .i s9.1)]) (fun s9 => [(1003, .row 5 false 1 (List.map cU s9.2)), (1, .cells [.l TField.pc a0.Fields, .l cU a0.Body])]) (.exit 2) (fun b10 => [(1, .ptr 1 0), (3, .hs 1003 0), (11, .l TField.pc a0.Fields), (12, .i ((a0.Fields.length : Int))), (13, .i s1.1)]) (fun b10 => [(1003, .row 5 false 1 (List.map cU b10)), (1, .cells [.l TField.pc a0.Fields, .l cU a0.Body])]) rfl rfl (fun s9 x11 hr => ?_) (fun b10 hr => ?_)
   ·
    unfold message_write_l2 at hr
    refine rn tk 6 rfl ?_
    refine ac 28 hr rfl (fun c12 hr => ?_) (fun c12 hr => ?_)
    ·
     refine rn tk 6 rfl ?_
     obtain ⟨v13, h14, hr⟩ := bind_some hr
     refine wi tk h14 rfl rfl rfl rfl rfl ?_
     refine rn tk 7 rfl ?_
     obtain ⟨v15, h16, hr⟩ := bind_some hr
     refine wo (opTo_appends (k := 33) (l := s9.2) (s := v13) (lim := 140737488355328) rfl rfl rfl rfl ty_s_uint8 ty_string.u ty_uint8 rfl h16) rfl ?_
     refine wz cU ([(13 : UInt8), (10 : UInt8)] : List UInt8) tk rfl rfl (fun _ => rfl) rfl rfl rfl ?_
     obtain ⟨v17, h18, hr⟩ := bind_some hr
     refine wa tk h18 rfl rfl rfl rfl (fun _ => rfl) rfl rfl ?_
     refine rn tk 8 rfl ?_
     cases hr
     exact atc rfl rfl
    ·
     refine rn tk 2 rfl ?_
     cases hr
     exact ato rfl rfl rfl rfl
   ·
    refine rn tk 7 rfl ?_
    cases hr
    exact atc rfl rfl
  ·
   refine rn tk 2 rfl ?_
   cases hr
   exact ato rfl rfl rfl rfl
 ·
  refine rn tk 3 rfl ?_
  obtain ⟨v19, h20, hr⟩ := bind_some hr
  obtain ⟨v21, h22, hr⟩ := bind_some hr
  refine awp_explore [([false, false, false, false, false, false, false], [(1, .ptr 1 0), (3, .hs 1003 0)], [(1003, .row 5 false 1 (List.map cU b2)), (1, .cells [.l TField.pc a0.Fields, .l cU a0.Body])]), ([true, false, false, false, false, false, false], [(1, .ptr 1 0), (3, .hs 1003 0), (38, .hs 1003 0)], [(1003, .row 5 false 1 (List.map cU b2)), (1, .cells [.l TField.pc a0.Fields, .l cU a0.Body])]), ([false, true, false, false, false, false, false], [(1, .ptr 1 0), (3, .hs 1003 0), (39, .l cU (([(13 : UInt8), (10 : UInt8)] : List UInt8)))], [(1003, .row 5 false 1 (List.map cU b2)), (1, .cells [.l TField.pc a0.Fields, .l cU a0.Body])]), ([false, false, false, true, false, false, false], [(1, .ptr 1 0), (3, .hs 1003 0), (41, .ptr 1 1)], [(1003, .row 5 false 1 (List.map cU b2)), (1, .cells [.l TField.pc a0.Fields, .l cU a0.Body])]), ([true, true, false, false, false, false, false], [(1, .ptr 1 0), (3, .hs 1003 0), (38, .hs 1003 0), (39, .l cU (([(13 : UInt8), (10 : UInt8)] : List UInt8)))], [(1003, .row 5 false 1 (List.map cU b2)), (1, .cells [.l TField.pc a0.Fields, .l cU a0.Body])]), ([true, false, false, true, false, false, false], [(1, .ptr 1 0), (3, .hs 1003 0), (38, .hs 1003 0), (41, .ptr 1 1)], [(1003, .row 5 false 1 (List.map cU b2)), (1, .cells [.l TField.pc a0.Fields, .l cU a0.Body])]), ([false, true, false, true, false, false, false], [(1, .ptr 1 0), (3, .hs 1003 0), (39, .l cU (([(13 : UInt8), (10 : UInt8)] : List UInt8))), (41, .ptr 1 1)], [(1003, .row 5 false 1 (List.map cU b2)), (1, .cells [.l TField.pc a0.Fields, .l cU a0.Body])]), ([false, false, false, true, true, false, false], [(1, .ptr 1 0), (3, .hs 1003 0), (41, .ptr 1 1), (42, .l cU a0.Body)], [(1003, .row 5 false 1 (List.map cU b2)), (1, .cells [.l TField.pc a0.Fields, .l cU a0.Body])]), ([true, true, true, false, false, false, false], [(1, .ptr 1 0), (39, .l cU (([(13 : UInt8), (10 : UInt8)] : List UInt8))), (40, .hs 1003 0)], [(1003, .row 5 false 1 (List.map cU v19)), (1, .cells [.l TField.pc a0.Fields, .l cU a0.Body])]), ([true, true, false, true, false, false, false], [(1, .ptr 1 0), (3, .hs 1003 0), (38, .hs 1003 0), (39, .l cU (([(13 : UInt8), (10 : UInt8)] : List UInt8))), (41, .ptr 1 1)], [(1003, .row 5 false 1 (List.map cU b2)), (1, .cells [.l TField.pc a0.Fields, .l cU a0.Body])]), ([true, false, false, true, true, false, false], [(1, .ptr 1 0), (3, .hs 1003 0), (38, .hs 1003 0), (41, .ptr 1 1), (42, .l cU a0.Body)], [(1003, .row 5 false 1 (List.map cU b2)), (1, .cells [.l TField.pc a0.Fields, .l cU a0.Body])]), ([false, true, false, true, true, false, false], [(1, .ptr 1 0), (3, .hs 1003 0), (39, .l cU (([(13 : UInt8), (10 : UInt8)] : List UInt8))), (41, .ptr 1 1), (42, .l cU a0.Body)], [(1003, .row 5 false 1 (List.map cU b2)), (1, .cells [.l TField.pc a0.Fields, .l cU a0.Body])]), ([true, true, true, true, false, false, false], [(1, .ptr 1 0), (39, .l cU (([(13 : UInt8), (10 : UInt8)] : List UInt8))), (40, .hs 1003 0), (41, .ptr 1 1)], [(1003, .row 5 false 1 (List.map cU v19)), (1, .cells [.l TField.pc a0.Fields, .l cU a0.Body])]), ([true, true, false, true, true, false, false], [(1, .ptr 1 0), (3, .hs 1003 0), (38, .hs 1003 0), (39, .l cU (([(13 : UInt8), (10 : UInt8)] : List UInt8))), (41, .ptr 1 1), (42, .l cU a0.Body)], [(1003, .row 5 false 1 (List.map cU b2)), (1, .cells [.l TField.pc a0.Fields, .l cU a0.Body])]), ([true, true, true, true, true, false, false], [(1, .ptr 1 0), (39, .l cU (([(13 : UInt8), (10 : UInt8)] : List UInt8))), (40, .hs 1003 0), (41, .ptr 1 1), (42, .l cU a0.Body)], [(1003, .row 5 false 1 (List.map cU v19)), (1, .cells [.l TField.pc a0.Fields, .l cU a0.Body])]), ([true, true, true, true, true, true, false], [(1, .ptr 1 0), (39, .l cU (([(13 : UInt8), (10 : UInt8)] : List UInt8))), (41, .ptr 1 1), (42, .l cU a0.Body), (43, .hs 1003 0)], [(1003, .row 5 false 1 (List.map cU v21)), (1, .cells [.l TField.pc a0.Fields, .l cU a0.Body])]), ([true, true, true, true, true, true, true], [(1, .ptr 1 0), (2, .hs 1003 0), (39, .l cU (([(13 : UInt8), (10 : UInt8)] : List UInt8))), (41, .ptr 1 1), (42, .l cU a0.Body), (43, .hs 1003 0)], [(1003, .row 5 false 1 (List.map cU v21)), (1, .cells [.l TField.pc a0.Fields, .l cU a0.Body])])] mixed (by kernel_rfl) rfl rfl (frLe_cons rfl (frLe_cons rfl frLe_nil)) (stoLe_cons rfl (stoLe_cons rfl stoLe_nil)) (.cons (.step [0, 1, 3] (by kernel_rfl) rfl (.cons (.yes 1 rfl (wanted_plain rfl) (opTo_q (d := 38) rfl rfl ev_move) rfl (frLe_cons rfl (frLe_cons rfl (frLe_cons rfl frLe_nil))) (stoLe_cons rfl (stoLe_cons rfl stoLe_nil))) (.cons (.yes 2 rfl (wanted_plain rfl) (opTo_g (d := 39) rfl rfl (opG_lit (F := cU) (l := ([(13 : UInt8), (10 : UInt8)] : List UInt8)) ty_s_uint8 ty_uint8 rfl (fun _ => rfl) rfl rfl)) rfl (frLe_cons rfl (frLe_cons rfl (frLe_cons rfl frLe_nil))) (stoLe_cons rfl (stoLe_cons rfl stoLe_nil))) (.cons (.yes 3 rfl (wanted_plain rfl) (opTo_q (d := 41) rfl rfl (ev_fieldAddr rfl ty_api_Message.u rfl ty_s_uint8 rfl)) rfl (frLe_cons rfl (frLe_cons rfl (frLe_cons rfl frLe_nil))) (stoLe_cons rfl (stoLe_cons rfl stoLe_nil))) .nil)))) (.cons (.step [1, 3] (by kernel_rfl) rfl (.cons (.yes 4 rfl (wanted_plain rfl) (opTo_g (d := 39) rfl rfl (opG_lit (F := cU) (l := ([(13 : UInt8), (10 : UInt8)] : List UInt8)) ty_s_uint8 ty_uint8 rfl (fun _ => rfl) rfl rfl)) rfl (frLe_cons rfl (frLe_cons rfl (frLe_cons rfl (frLe_cons rfl frLe_nil)))) (stoLe_cons rfl (stoLe_cons rfl stoLe_nil))) (.cons (.yes 5 rfl (wanted_plain rfl) (opTo_q (d := 41) rfl rfl (ev_fieldAddr rfl ty_api_Message.u rfl ty_s_uint8 rfl)) rfl (frLe_cons rfl (frLe_cons rfl (frLe_cons rfl (frLe_cons rfl frLe_nil)))) (stoLe_cons rfl (stoLe_cons rfl stoLe_nil))) .nil))) (.cons (.step [0, 3] (by kernel_rfl) rfl (.cons (.yes 4 rfl (wanted_plain rfl) (opTo_q (d := 38) rfl rfl ev_move) rfl (frLe_cons rfl (frLe_cons rfl (frLe_cons rfl (frLe_cons rfl frLe_nil)))) (stoLe_cons rfl (stoLe_cons rfl stoLe_nil))) (.cons (.yes 6 rfl (wanted_plain rfl) (opTo_q (d := 41) rfl rfl (ev_fieldAddr rfl ty_api_Message.u rfl ty_s_uint8 rfl)) rfl (frLe_cons rfl (frLe_cons rfl (frLe_cons rfl (frLe_cons rfl frLe_nil)))) (stoLe_cons rfl (stoLe_cons rfl stoLe_nil))) .nil))) (.cons (.step [0, 1, 4] (by kernel_rfl) rfl (.cons (.yes 5 rfl (wanted_plain rfl) (opTo_q (d := 38) rfl rfl ev_move) rfl (frLe_cons rfl (frLe_cons rfl (frLe_cons rfl (frLe_cons rfl frLe_nil)))) (stoLe_cons rfl (stoLe_cons rfl stoLe_nil))) (.cons (.yes 6 rfl (wanted_plain rfl) (opTo_g (d := 39) rfl rfl (opG_lit (F := cU) (l := ([(13 : UInt8), (10 : UInt8)] : List UInt8)) ty_s_uint8 ty_uint8 rfl (fun _ => rfl) rfl rfl)) rfl (frLe_cons rfl (frLe_cons rfl (frLe_cons rfl (frLe_cons rfl frLe_nil)))) (stoLe_cons rfl (stoLe_cons rfl stoLe_nil))) (.cons (.yes 7 rfl (wanted_plain rfl) (opTo_q (d := 42) rfl rfl (ev_load rfl rfl ty_s_uint8 rfl rfl)) rfl (frLe_cons rfl (frLe_cons rfl (frLe_cons rfl (frLe_cons rfl frLe_nil)))) (stoLe_cons rfl (stoLe_cons rfl stoLe_nil))) .nil)))) (.cons (.step [2, 3] (by kernel_rfl) rfl (.cons (.yes 8 rfl (wanted_plain rfl) (opTo_append (k := 40) (F := cU) (l := b2) (xs := (([(13 : UInt8), (10 : UInt8)] : List UInt8))) (lim := 140737488355328) rfl rfl rfl rfl ty_s_uint8 ty_uint8 rfl rfl (fun _ => rfl) rfl h20) rfl (frLe_cons rfl (frLe_cons rfl (frLe_cons rfl frLe_nil))) (stoLe_cons rfl (stoLe_cons rfl stoLe_nil))) (.cons (.yes 9 rfl (wanted_plain rfl) (opTo_q (d := 41) rfl rfl (ev_fieldAddr rfl ty_api_Message.u rfl ty_s_uint8 rfl)) rfl (frLe_cons rfl (frLe_cons rfl (frLe_cons rfl (frLe_cons rfl (frLe_cons rfl frLe_nil))))) (stoLe_cons rfl (stoLe_cons rfl stoLe_nil))) .nil))) (.cons (.step [1, 4] (by kernel_rfl) rfl (.cons (.yes 9 rfl (wanted_plain rfl) (opTo_g (d := 39) rfl rfl (opG_lit (F := cU) (l := ([(13 : UInt8), (10 : UInt8)] : List UInt8)) ty_s_uint8 ty_uint8 rfl (fun _ => rfl) rfl rfl)) rfl (frLe_cons rfl (frLe_cons rfl (frLe_cons rfl (frLe_cons rfl (frLe_cons rfl frLe_nil))))) (stoLe_cons rfl (stoLe_cons rfl stoLe_nil))) (.cons (.yes 10 rfl (wanted_plain rfl) (opTo_q (d := 42) rfl rfl (ev_load rfl rfl ty_s_uint8 rfl rfl)) rfl (frLe_cons rfl (frLe_cons rfl (frLe_cons rfl (frLe_cons rfl (frLe_cons rfl frLe_nil))))) (stoLe_cons rfl (stoLe_cons rfl stoLe_nil))) .nil))) (.cons (.step [0, 4] (by kernel_rfl) rfl (.cons (.yes 9 rfl (wanted_plain rfl) (opTo_q (d := 38) rfl rfl ev_move) rfl (frLe_cons rfl (frLe_cons rfl (frLe_cons rfl (frLe_cons rfl (frLe_cons rfl frLe_nil))))) (stoLe_cons rfl (stoLe_cons rfl stoLe_nil))) (.cons (.yes 11 rfl (wanted_plain rfl) (opTo_q (d := 42) rfl rfl (ev_load rfl rfl ty_s_uint8 rfl rfl)) rfl (frLe_cons rfl (frLe_cons rfl (frLe_cons rfl (frLe_cons rfl (frLe_cons rfl frLe_nil))))) (stoLe_cons rfl (stoLe_cons rfl stoLe_nil))) .nil))) (.cons (.step [0, 1] (by kernel_rfl) rfl (.cons (.yes 10 rfl (wanted_plain rfl) (opTo_q (d := 38) rfl rfl ev_move) rfl (frLe_cons rfl (frLe_cons rfl (frLe_cons rfl (frLe_cons rfl (frLe_cons rfl frLe_nil))))) (stoLe_cons rfl (stoLe_cons rfl stoLe_nil))) (.cons (.yes 11 rfl (wanted_plain rfl) (opTo_g (d := 39) rfl rfl (opG_lit (F := cU) (l := ([(13 : UInt8), (10 : UInt8)] : List UInt8)) ty_s_uint8 ty_uint8 rfl (fun _ => rfl) rfl rfl)) rfl (frLe_cons rfl (frLe_cons rfl (frLe_cons rfl (frLe_cons rfl (frLe_cons rfl frLe_nil))))) (stoLe_cons rfl (stoLe_cons rfl stoLe_nil))) .nil))) (.cons (.step [3] (by kernel_rfl) rfl (.cons (.yes 12 rfl (wanted_plain rfl) (opTo_q (d := 41) rfl rfl (ev_fieldAddr rfl ty_api_Message.u rfl ty_s_uint8 rfl)) rfl (frLe_cons rfl (frLe_cons rfl (frLe_cons rfl (frLe_cons rfl frLe_nil)))) (stoLe_cons rfl (stoLe_cons rfl stoLe_nil))) .nil)) (.cons (.step [2, 4] (by kernel_rfl) rfl (.cons (.yes 12 rfl (wanted_plain rfl) (opTo_append (k := 40) (F := cU) (l := b2) (xs := (([(13 : UInt8), (10 : UInt8)] : List UInt8))) (lim := 140737488355328) rfl rfl rfl rfl ty_s_uint8 ty_uint8 rfl rfl (fun _ => rfl) rfl h20) rfl (frLe_cons rfl (frLe_cons rfl (frLe_cons rfl (frLe_cons rfl frLe_nil)))) (stoLe_cons rfl (stoLe_cons rfl stoLe_nil))) (.cons (.yes 13 rfl (wanted_plain rfl) (opTo_q (d := 42) rfl rfl (ev_load rfl rfl ty_s_uint8 rfl rfl)) rfl (frLe_cons rfl (frLe_cons rfl (frLe_cons rfl (frLe_cons rfl (frLe_cons rfl (frLe_cons rfl frLe_nil)))))) (stoLe_cons rfl (stoLe_cons rfl stoLe_nil))) .nil))) (.cons (.step [1] (by kernel_rfl) rfl (.cons (.yes 13 rfl (wanted_plain rfl) (opTo_g (d := 39) rfl rfl (opG_lit (F := cU) (l := ([(13 : UInt8), (10 : UInt8)] : List UInt8)) ty_s_uint8 ty_uint8 rfl (fun _ => rfl) rfl rfl)) rfl (frLe_cons rfl (frLe_cons rfl (frLe_cons rfl (frLe_cons rfl (frLe_cons rfl (frLe_cons rfl frLe_nil)))))) (stoLe_cons rfl (stoLe_cons rfl stoLe_nil))) .nil)) (.cons (.step [0] (by kernel_rfl) rfl (.cons (.yes 13 rfl (wanted_plain rfl) (opTo_q (d := 38) rfl rfl ev_move) rfl (frLe_cons rfl (frLe_cons rfl (frLe_cons rfl (frLe_cons rfl (frLe_cons rfl (frLe_cons rfl frLe_nil)))))) (stoLe_cons rfl (stoLe_cons rfl stoLe_nil))) .nil)) (.cons (.step [4] (by kernel_rfl) rfl (.cons (.yes 14 rfl (wanted_plain rfl) (opTo_q (d := 42) rfl rfl (ev_load rfl rfl ty_s_uint8 rfl rfl)) rfl (frLe_cons rfl (frLe_cons rfl (frLe_cons rfl (frLe_cons rfl (frLe_cons rfl frLe_nil))))) (stoLe_cons rfl (stoLe_cons rfl stoLe_nil))) .nil)) (.cons (.step [2] (by kernel_rfl) rfl (.cons (.yes 14 rfl (wanted_plain rfl) (opTo_append (k := 40) (F := cU) (l := b2) (xs := (([(13 : UInt8), (10 : UInt8)] : List UInt8))) (lim := 140737488355328) rfl rfl rfl rfl ty_s_uint8 ty_uint8 rfl rfl (fun _ => rfl) rfl h20) rfl (frLe_cons rfl (frLe_cons rfl (frLe_cons rfl (frLe_cons rfl (frLe_cons rfl frLe_nil))))) (stoLe_cons rfl (stoLe_cons rfl stoLe_nil))) .nil)) (.cons (.step [5] (by kernel_rfl) rfl (.cons (.yes 15 rfl (wanted_plain rfl) (opTo_append (k := 43) (F := cU) (l := v19) (xs := a0.Body) (lim := 140737488355328) rfl rfl rfl rfl ty_s_uint8 ty_uint8 rfl rfl (fun _ => rfl) rfl h22) rfl (frLe_cons rfl (frLe_cons rfl (frLe_cons rfl (frLe_cons rfl (frLe_cons rfl frLe_nil))))) (stoLe_cons rfl (stoLe_cons rfl stoLe_nil))) .nil)) (.cons (.step [6] (by kernel_rfl) rfl (.cons (.yes 16 rfl (wanted_plain rfl) (opTo_q (d := 2) rfl rfl ev_assign) rfl (frLe_cons rfl (frLe_cons rfl (frLe_cons rfl (frLe_cons rfl (frLe_cons rfl (frLe_cons rfl frLe_nil)))))) (stoLe_cons rfl (stoLe_cons rfl stoLe_nil))) .nil)) (.cons (.full (by kernel_rfl) (hA ?_)) .nil)))))))))))))))))
  refine rn tk 1 rfl ?_
  refine awp_pub (d := 2) (F := cU) (l := v21) rfl rfl (hC ?_)
  refine rn tk 1 rfl ?_
  cases hr
  exact kr tk (.inr rfl) rfl rfl
theorem message_Validate_run (a0 : TMessage) (r : TFault) (hr : message_Validate a0 = some r) : Run Try.prog 64 [.agg [.l TField.pc a0.Fields, .l cU a0.Body]] (.agg [.i r.Code, .i r.Index]) := by
 unfold message_Validate at hr
 refine rf (fn := Try.f64) ⟨Try.func64, rfl, by kernel_rfl⟩ rfl (fun _ => rfl) fun g0 hg => ?_
 refine rn tk 11 rfl ?_
 obtain ⟨v1, h2, hr⟩ := bind_some hr
 refine cl (header_Validate_run _ _ h2) rfl rfl ?_
 refine rn tk 7 rfl ?_
 obtain ⟨v3, h4, hr⟩ := bind_some hr
 refine cl (basic_Failed_run _ _ h4) rfl rfl ?_
 refine rn tk 2 rfl ?_
 refine ac 8 hr rfl (fun c5 hr => ?_) (fun c5 hr => ?_)
 ·
  refine rn tk 8 rfl ?_
  cases hr
  exact kr tk (.inr rfl) rfl rfl
 ·
  refine rn tk 6 rfl ?_
  obtain ⟨v6, h7, hr⟩ := bind_some hr
  refine cl (message_write_run _ _ h7) rfl rfl ?_
  refine wn tk rfl rfl rfl ?_
  refine rn tk 3 rfl ?_
  refine ac 13 hr rfl (fun c8 hr => ?_) (fun c8 hr => ?_)
  ·
   refine rn tk 2 rfl ?_
   obtain ⟨v9, h10, hr⟩ := bind_some hr
   refine cl (basic_Fault_run _ _ _ h10) rfl rfl ?_
   refine rn tk 5 rfl ?_
   cases hr
   exact kr tk (.inr rfl) rfl rfl
  ·
   refine rn tk 6 rfl ?_
   obtain ⟨v11, h12, hr⟩ := bind_some hr
   refine cl (message_body_run _ _ h12) rfl rfl ?_
   refine rn tk 4 rfl ?_
   cases hr
   exact kr tk (.inr rfl) rfl rfl
theorem slices_Concat_api_Field_api_Field_run (a0 : List (List TField)) (r : List TField) (hr : slices_Concat_api_Field_api_Field a0 = some r) : Run Try.prog 93 [.l (cL TField.pc) a0] (.l TField.pc r) := by
 unfold slices_Concat_api_Field_api_Field at hr
 refine rf (fn := Try.f93) ⟨Try.func93, rfl, by kernel_rfl⟩ rfl (fun _ => rfl) fun g0 hg => ?_
 refine rn tk 14 rfl ?_
 refine wn tk rfl rfl rfl ?_
 refine rn tk 4 rfl ?_
 refine al1 hr (fun s1 => [(0, .l (cL TField.pc) a0), (3, .i s1.1), (9, .l (cL TField.pc) a0), (10, .i ((a0.length : Int))), (11, .i s1.2)]) (fun s1 => []) (.exit 0) (fun b2 => [(0, .l (cL TField.pc) a0), (3, .i b2)]) (fun b2 => []) rfl rfl (fun s1 x3 hr => ?_) (fun b2 hr => ?_)
 ·
  unfold slices_Concat_api_Field_api_Field_l1 at hr
  refine rn tk 6 rfl ?_
  refine ac 12 hr rfl (fun c4 hr => ?_) (fun c4 hr => ?_)
  ·
   refine rn tk 6 rfl ?_
   obtain ⟨v5, h6, hr⟩ := bind_some hr
   refine wi tk h6 rfl rfl rfl rfl rfl ?_
   refine rn tk 8 rfl ?_
   refine wn tk rfl rfl rfl ?_
   refine rn tk 10 rfl ?_
   refine ac 20 hr rfl (fun c7 hr => ?_) (fun c7 hr => ?_)
   ·
    refine rn tk 1 rfl ?_
    cases hr
   ·
    refine rn tk 7 rfl ?_
    cases hr
    exact atc rfl rfl
  ·
   refine rn tk 2 rfl ?_
   cases hr
   exact ato rfl rfl rfl rfl
 ·
  refine rn tk 5 rfl ?_
  refine il (fn := Try.f106) (args := [.pv (.sl (some true) []), .i b2]) 100000 199999 [(0, .l (cL TField.pc) a0)] rfl ⟨Try.func106, rfl, by kernel_rfl⟩ rfl rfl rfl fun T1 ds1 => ?_
  refine rn tk 12 rfl ?_
  refine ac 6 hr rfl (fun c8 hr => ?_) (fun c8 hr => ?_)
  ·
   refine rn tk 1 rfl ?_
   cases hr
  ·
   refine rn tk 7 rfl ?_
   refine wq (ev_capnil rfl ty_s_api_Field.u) rfl rfl rfl ?_
   refine rn tk 1 rfl ?_
   refine wq (ev_lennil rfl ty_s_api_Field.u) rfl rfl rfl ?_
   refine rn tk 11 rfl ?_
   refine ac 16 hr rfl (fun c9 hr => ?_) (fun c9 hr => ?_)
   ·
    refine rn tk 3 rfl ?_
    refine wq (ev_capnil rfl ty_s_api_Field.u) rfl rfl rfl ?_
    refine wq (ev_slnil rfl rfl ty_s_api_Field ty_api_Field) rfl rfl rfl ?_
    refine rn tk 1 rfl ?_
    obtain ⟨v10, h11, hr⟩ := bind_some hr
    refine wo (opTo_appendn (k := 22) (F := TField.pc) (z := ((TField.mk (([] : Str)) (([] : Str))) : TField)) (lim := 4398046511104) 1022 rfl rfl rfl rfl rfl ty_s_api_Field ty_int ty_api_Field rfl rfl rfl h11) rfl ?_
    refine rn tk 1 rfl ?_
    refine wq (ev_lennil rfl ty_s_api_Field.u) rfl rfl rfl ?_
    obtain ⟨v12, h13, hr⟩ := bind_some hr
    refine wo (opTo_hcutH (k := 25) (F := TField.pc) (l := v10) rfl rfl rfl rfl ty_s_api_Field ty_api_Field h13) rfl ?_
    refine rn tk 10 rfl ?_
    refine ie tk [.hs 1022 0] [(0, .l (cL TField.pc) a0)] [(1022, .row 103 true 2 (List.map TField.pc v12))] (.inr rfl) rfl rfl rfl rfl (hO ?_)
    refine rn tk 7 rfl ?_
    refine wn tk rfl rfl rfl ?_
    refine rn tk 4 rfl ?_
    refine al1 hr (fun s14 => [(6, .hs 1022 0), (25, .l (cL TField.pc) a0), (26, .i ((a0.length : Int))), (27, .i s14.1)]) (fun s14 => [(1022, .row 103 true 2 (List.map TField.pc s14.2))]) (.exit 2) (fun b15 => [(6, .hs 1022 0)]) (fun b15 => [(1022, .row 103 true 2 (List.map TField.pc b15))]) rfl rfl (fun s14 x16 hr => ?_) (fun b15 hr => ?_)
    ·
     unfold slices_Concat_api_Field_api_Field_l2 at hr
     refine rn tk 6 rfl ?_
     refine ac 28 hr rfl (fun c17 hr => ?_) (fun c17 hr => ?_)
     ·
      refine rn tk 6 rfl ?_
      obtain ⟨v18, h19, hr⟩ := bind_some hr
      refine wi tk h19 rfl rfl rfl rfl rfl ?_
      refine rn tk 7 rfl ?_
      obtain ⟨v20, h21, hr⟩ := bind_some hr
      refine wa tk h21 rfl rfl rfl rfl (fun _ => rfl) rfl rfl ?_
      refine rn tk 8 rfl ?_
      cases hr
      exact atc rfl rfl
     ·
      refine rn tk 2 rfl ?_
      cases hr
      exact ato rfl rfl rfl rfl
    ·
     refine rn tk 8 rfl ?_
     refine awp_unmu 1022 rfl (hC ?_)
     refine awp_pub (d := 2) (F := TField.pc) (l := b15) rfl rfl (hC ?_)
     refine rn tk 1 rfl ?_
     cases hr
     exact kr tk (.inr rfl) rfl rfl
   ·
    refine rn tk 5 rfl ?_
    refine awpl_adopt 1026 (d := 26) 103 2 rfl rfl rfl (hO ?_)
    refine rn tk 4 rfl ?_
    refine ie tk [.hs 1026 0] [(0, .l (cL TField.pc) a0)] [(1026, .row 103 false 2 (List.map TField.pc (([] : List TField))))] (.inr rfl) rfl rfl rfl rfl (hO ?_)
    refine rn tk 7 rfl ?_
    refine wn tk rfl rfl rfl ?_
    refine rn tk 4 rfl ?_
    refine al1 hr (fun s22 => [(6, .hs 1026 0), (25, .l (cL TField.pc) a0), (26, .i ((a0.length : Int))), (27, .i s22.1)]) (fun s22 => [(1026, .row 103 false 2 (List.map TField.pc s22.2))]) (.exit 2) (fun b23 => [(6, .hs 1026 0)]) (fun b23 => [(1026, .row 103 false 2 (List.map TField.pc b23))]) rfl rfl (fun s22 x24 hr => ?_) (fun b23 hr => ?_)
    ·
     unfold slices_Concat_api_Field_api_Field_l3 at hr
     refine rn tk 6 rfl ?_
     refine ac 28 hr rfl (fun c25 hr => ?_) (fun c25 hr => ?_)
     ·
      refine rn tk 6 rfl ?_
      obtain ⟨v26, h27, hr⟩ := bind_some hr
      refine wi tk h27 rfl rfl rfl rfl rfl ?_
      refine rn tk 7 rfl ?_
      obtain ⟨v28, h29, hr⟩ := bind_some hr
      refine wa tk h29 rfl rfl rfl rfl (fun _ => rfl) rfl rfl ?_
      refine rn tk 8 rfl ?_
      cases hr
      exact atc rfl rfl
     ·
      refine rn tk 2 rfl ?_
      cases hr
      exact ato rfl rfl rfl rfl
    ·
     refine rn tk 8 rfl ?_
     refine awp_pub (d := 2) (F := TField.pc) (l := b23) rfl rfl (hC ?_)
     refine rn tk 1 rfl ?_
     cases hr
     exact kr tk (.inr rfl) rfl rfl
theorem trace_Front_run (a0 : TMessage) (a1 : Str) (a2 : Str) (r : TMessage) (hr : trace_Front a0 a1 a2 = some r) : Run Try.prog 71 [.agg [.l TField.pc a0.Fields, .l cU a0.Body], .s a1, .s a2] (.agg [.l TField.pc r.Fields, .l cU r.Body]) := by
 unfold trace_Front at hr
 refine rf (fn := Try.f71) ⟨Try.func71, rfl, by kernel_rfl⟩ rfl (fun _ => rfl) fun g0 hg => ?_
 refine rn tk 7 rfl ?_
 obtain ⟨v1, h2, hr⟩ := bind_some hr
 refine dr 10 [(16, .l cU a0.Body), (15, .ptr 3 1), (14, .l TField.pc v1), (13, .l (cL TField.pc) (([([(TField.mk a1 a2)] : List TField), a0.Fields] : List (List TField)))), (12, .l TField.pc a0.Fields), (11, .ptr 3 0), (10, .l TField.pc (([(TField.mk a1 a2)] : List TField))), (9, .agg [.s a1, .s a2]), (8, .s a2), (7, .s a1)] mixed (by kernel_rfl) rfl rfl (pq tk rfl (.plain rfl) (pq tk rfl (.plain rfl) (pq tk rfl (.plain rfl) (.run (.plain rfl) (opG_lit (F := TField.pc) (l := ([(TField.mk a1 a2)] : List TField)) ty_s_api_Field ty_api_Field rfl (fun _ => rfl) rfl rfl) (pq tk rfl (.plain rfl) (pq tk rfl (.plain rfl) (.run (.plain rfl) (opG_lit (F := (cL TField.pc)) (l := ([([(TField.mk a1 a2)] : List TField), a0.Fields] : List (List TField))) ty_s_s_api_Field ty_s_api_Field rfl (fun _ => rfl) rfl rfl) (.run (.plain rfl) (opG_call (slices_Concat_api_Field_api_Field_run (([([(TField.mk a1 a2)] : List TField), a0.Fields] : List (List TField))) v1 h2) rfl) (pq tk rfl (.plain rfl) (pq tk rfl (.plain rfl) .nil)))))))))) rfl ?_
 refine ct hr (fun j3 => [(6, .ptr 6 0), (14, .l TField.pc v1), (17, .l cU j3)]) (fun j3 => [(6, .cells [.l TField.pc ([]), .l cU ([])])]) (fun j3 hr jump1 => ?_) (fun j3 hr => ?_)
 ·
  refine il (fn := Try.f74) (args := [.l cU a0.Body]) 100000 199999 [(6, .ptr 6 0), (14, .l TField.pc v1)] rfl ⟨Try.func74, rfl, by kernel_rfl⟩ rfl rfl rfl fun T1 ds1 => ?_
  refine rn tk 9 rfl ?_
  refine awpl_isnil (d := 3) (F := cU) (l := a0.Body) rfl rfl rfl ty_s_uint8 (fun c4 => hO ?_) (hO ?_)
  ·
   replace hr := nilE_nil c4 hr
   refine rn tk 10 rfl ?_
   refine ie tk [.pv (.sl (some true) [])] [(6, .ptr 6 0), (14, .l TField.pc v1)] [(6, .cells [.pv (.sl (some true) []), .pv (.sl (some true) [])]), (3, .cells [.l TField.pc a0.Fields, .l cU a0.Body])] (.inr rfl) rfl rfl rfl rfl ?_
   cases hr
   exact jump1 _ _ rfl rfl
  ·
   replace hr := nilE_not hr
   refine rn tk 7 rfl ?_
   refine wo (opTo_litz (k := 5) rfl ty_s_uint8 ty_uint8) rfl ?_
   refine rn tk 1 rfl ?_
   obtain ⟨v5, h6, hr⟩ := bind_some hr
   refine wo (opTo_appendz (k := 7) (F := cU) (xs := a0.Body) (lim := 140737488355328) 1002 rfl rfl rfl ty_s_uint8 ty_uint8 rfl rfl (fun _ => rfl) rfl rfl rfl h6) rfl ?_
   refine rn tk 3 rfl ?_
   refine awp_unmu 1002 rfl (hC ?_)
   refine awp_pub (d := 2) (F := cU) (l := v5) rfl rfl (hC ?_)
   refine rn tk 1 rfl ?_
   refine ie tk [.l cU v5] [(6, .ptr 6 0), (14, .l TField.pc v1)] [(1002, .row 5 false 1 (List.map cU v5)), (6, .cells [.pv (.sl (some true) []), .pv (.sl (some true) [])]), (3, .cells [.l TField.pc a0.Fields, .l cU a0.Body])] (.inr rfl) rfl rfl rfl rfl ?_
   cases hr
   exact jump1 _ _ rfl rfl
 ·
  refine rn tk 5 rfl ?_
  cases hr
  exact kr tk (.inr rfl) rfl rfl
theorem lists_mail_run (a0 : TList) (a1 : TMail) (a2 : List Str) (a3 : Str) (r : (List TMail) × TFault) (hr : lists_mail a0 a1 a2 a3 = some r) : Run Try.prog 41 [.agg [.s a0.Address, .s a0.Owner, .bo a0.Open, .l cS a0.Subscribers, .l cS a0.Moderators, .l THeld.pc a0.Held, .i a0.Next], .agg [.s a1.Envelope.From, .l TRecipient.pc a1.Envelope.To, .s a1.Envelope.Id, .l TField.pc a1.Message.Fields, .l cU a1.Message.Body], .l cS a2, .s a3] (.tup [.l TMail.pc r.1, .agg [.i r.2.Code, .i r.2.Index]]) := by
 unfold lists_mail at hr
 refine rf (fn := Try.f41) ⟨Try.func41, rfl, by kernel_rfl⟩ rfl (fun _ => rfl) fun g0 hg => ?_
 refine rn tk 12 rfl ?_
 refine wn tk rfl rfl rfl ?_
 refine rn tk 3 rfl ?_
 refine ac 16 hr rfl (fun c1 hr => ?_) (fun c1 hr => ?_)
 ·
  refine rn tk 2 rfl ?_
  obtain ⟨v2, h3, hr⟩ := bind_some hr
  refine cl (basic_None_run _ h3) rfl rfl ?_
  refine rn tk 6 rfl ?_
  cases hr
  exact kr tk (.inr rfl) rfl rfl
 ·
  refine rn tk 3 rfl ?_
  obtain ⟨v4, h5, hr⟩ := bind_some hr
  refine drA 14 [(10, .ptr 10 0), (30, .agg [.s a0.Owner, .pv (.sl (some true) []), .s a1.Envelope.Id, .l TField.pc v4.Fields, .l cU v4.Body]), (29, .agg [.l TField.pc v4.Fields, .l cU v4.Body]), (28, .s a0.Address), (27, .ptr 4 0), (26, .s a3), (25, .agg [.l TField.pc a1.Message.Fields, .l cU a1.Message.Body]), (24, .ptr 5 3), (23, .agg [.s a0.Owner, .pv (.sl (some true) []), .s a1.Envelope.Id]), (22, .s a1.Envelope.Id), (21, .ptr 5 2), (20, .ptr 5 0), (19, .s a0.Owner), (18, .ptr 4 1)] mixed (by kernel_rfl) rfl rfl (pqA tk rfl (.plain rfl) (pqA tk rfl (.plain rfl) (pqA tk rfl (.plain rfl) (pqA tk rfl (.plain rfl) (pqA tk rfl (.plain rfl) (pqA tk rfl (.plain rfl) (pqA tk rfl (.plain rfl) (pqA tk rfl (.plain rfl) (pqA tk rfl (.plain rfl) (pqA tk rfl (.plain rfl) (pqA tk rfl (.plain rfl) (.run (.plain rfl) (opG_call (trace_Front_run a1.Message a3 a0.Address v4 h5) rfl) (pqA tk rfl (.plain rfl) (pnA 10 tk rfl rfl rfl (.plain rfl) .nil)))))))))))))) rfl rfl rfl ?_
  refine awpl_adoptC 1010 (o := 10) (j := 1) 85 2 rfl rfl rfl rfl (hO ?_)
  refine rn tk 1 rfl ?_
  refine awpl_adoptC 2010 (o := 10) (j := 1) 85 2 rfl rfl rfl rfl (hO ?_)
  refine rn tk 6 rfl ?_
  refine wn tk rfl rfl rfl ?_
  refine rn tk 4 rfl ?_
  refine al1 hr (fun s6 => [(9, .ptr 9 0), (10, .ptr 10 0), (31, .l cS a2), (32, .i ((a2.length : Int))), (33, .i s6.1)]) (fun s6 => [(2010, .row 85 false 2 (List.map TRecipient.pc s6.2)), (10, .cells [.s a0.Owner, .hs 2010 0, .s a1.Envelope.Id, .l TField.pc v4.Fields, .l cU v4.Body]), (9, .cells [.i 0, .i 0])]) (.exit 0) (fun b7 => [(9, .ptr 9 0), (10, .ptr 10 0)]) (fun b7 => [(2010, .row 85 false 2 (List.map TRecipient.pc b7)), (10, .cells [.s a0.Owner, .hs 2010 0, .s a1.Envelope.Id, .l TField.pc v4.Fields, .l cU v4.Body]), (9, .cells [.i 0, .i 0])]) rfl rfl (fun s6 x8 hr => ?_) (fun b7 hr => ?_)
  ·
   unfold lists_mail_l1 at hr
   refine rn tk 6 rfl ?_
   refine ac 34 hr rfl (fun c9 hr => ?_) (fun c9 hr => ?_)
   ·
    refine rn tk 6 rfl ?_
    obtain ⟨v10, h11, hr⟩ := bind_some hr
    refine wi tk h11 rfl rfl rfl rfl rfl ?_
    refine rn tk 10 rfl ?_
    refine wz TRecipient.pc ([(TRecipient.mk v10 0)] : List TRecipient) tk rfl rfl (fun _ => rfl) rfl rfl rfl ?_
    obtain ⟨v12, h13, hr⟩ := bind_some hr
    refine wa tk h13 rfl rfl rfl rfl (fun _ => rfl) rfl rfl ?_
    refine rn tk 10 rfl ?_
    cases hr
    exact atc rfl rfl
   ·
    refine rn tk 2 rfl ?_
    cases hr
    exact ato rfl rfl rfl rfl
  ·
   refine rn tk 7 rfl ?_
   obtain ⟨v14, h15, hr⟩ := bind_some hr
   refine cl (message_Validate_run _ _ h15) rfl rfl ?_
   refine rn tk 7 rfl ?_
   obtain ⟨v16, h17, hr⟩ := bind_some hr
   refine cl (basic_Failed_run _ _ h17) rfl rfl ?_
   refine rn tk 2 rfl ?_
   refine ac 51 hr rfl (fun c18 hr => ?_) (fun c18 hr => ?_)
   ·
    refine rn tk 4 rfl ?_
    obtain ⟨v19, h20, hr⟩ := bind_some hr
    refine cl (basic_Fault_run _ _ _ h20) rfl rfl ?_
    refine rn tk 6 rfl ?_
    cases hr
    exact kr tk (.inr rfl) rfl rfl
   ·
    refine rn tk 3 rfl ?_
    refine awp_pubC (o := 10) (j := 1) (F := TRecipient.pc) (l := b7) rfl rfl rfl (hC ?_)
    obtain ⟨v21, h22, hr⟩ := bind_some hr
    refine dr 3 [(57, .agg [.i v21.Code, .i v21.Index]), (56, .l TMail.pc (([(TMail.mk ((TEnvelope.mk a0.Owner b7 a1.Envelope.Id)) v4)] : List TMail))), (55, .agg [.s a0.Owner, .l TRecipient.pc b7, .s a1.Envelope.Id, .l TField.pc v4.Fields, .l cU v4.Body])] mixed (by kernel_rfl) rfl rfl (pq tk rfl (.plain rfl) (.run (.plain rfl) (opG_lit (F := TMail.pc) (l := ([(TMail.mk ((TEnvelope.mk a0.Owner b7 a1.Envelope.Id)) v4)] : List TMail)) ty_s_api_Mail ty_api_Mail rfl (fun _ => rfl) rfl rfl) (.run (.plain rfl) (opG_call (basic_None_run  v21 h22) rfl) .nil))) rfl ?_
    refine rn tk 5 rfl ?_
    cases hr
    exact kr tk (.inr rfl) rfl rfl
theorem lists_distribute_run (a0 : TList) (a1 : TMail) (r : (List TMail) × TFault) (hr : lists_distribute a0 a1 = some r) : Run Try.prog 40 [.agg [.s a0.Address, .s a0.Owner, .bo a0.Open, .l cS a0.Subscribers, .l cS a0.Moderators, .l THeld.pc a0.Held, .i a0.Next], .agg [.s a1.Envelope.From, .l TRecipient.pc a1.Envelope.To, .s a1.Envelope.Id, .l TField.pc a1.Message.Fields, .l cU a1.Message.Body]] (.tup [.l TMail.pc r.1, .agg [.i r.2.Code, .i r.2.Index]]) := by
 unfold lists_distribute at hr
 refine rf (fn := Try.f40) ⟨Try.func40, rfl, by kernel_rfl⟩ rfl (fun _ => rfl) fun g0 hg => ?_
 refine rn tk 12 rfl ?_
 refine ct hr (fun j1 => [(2, .ptr 2 0), (3, .ptr 3 0), (5, .ptr 5 0), (9, .hs 2002 0)]) (fun j1 => [(2002, .row 9 true 1 (List.map cS j1)), (5, .cells [.i 0, .i 0]), (3, .cells [.s a1.Envelope.From, .l TRecipient.pc a1.Envelope.To, .s a1.Envelope.Id, .l TField.pc a1.Message.Fields, .l cU a1.Message.Body]), (2, .cells [.s a0.Address, .s a0.Owner, .bo a0.Open, .l cS a0.Subscribers, .l cS a0.Moderators, .l THeld.pc a0.Held, .i a0.Next])]) (fun j1 hr jump1 => ?_) (fun j1 hr => ?_)
 ·
  refine il (fn := Try.f67) (args := [.l cS a0.Subscribers]) 100000 199999 [(2, .ptr 2 0), (3, .ptr 3 0), (5, .ptr 5 0)] rfl ⟨Try.func67, rfl, by kernel_rfl⟩ rfl rfl rfl fun T1 ds1 => ?_
  refine rn tk 3 rfl ?_
  refine awpl_adoptM 1002 (d := 2) 9 1 rfl rfl rfl (hO ?_)
  refine rn tk 6 rfl ?_
  refine awpl_isnil (d := 3) (F := cS) (l := a0.Subscribers) rfl rfl rfl ty_s_string (fun c2 => hO ?_) (hO ?_)
  ·
   replace hr := nilE_nil c2 hr
   refine rn tk 6 rfl ?_
   refine awpl_adoptM 2002 (d := 2) 9 1 rfl rfl rfl (hO ?_)
   refine rn tk 4 rfl ?_
   refine ie tk [.hs 2002 0] [(2, .ptr 2 0), (3, .ptr 3 0), (5, .ptr 5 0)] [(2002, .row 9 true 1 (List.map cS (([] : List Str)))), (1002, .row 9 true 1 (List.map cS (([] : List Str)))), (5, .cells [.i 0, .i 0]), (3, .cells [.s a1.Envelope.From, .l TRecipient.pc a1.Envelope.To, .s a1.Envelope.Id, .l TField.pc a1.Message.Fields, .l cU a1.Message.Body]), (2, .cells [.s a0.Address, .s a0.Owner, .bo a0.Open, .l cS a0.Subscribers, .l cS a0.Moderators, .l THeld.pc a0.Held, .i a0.Next])] (.inr rfl) rfl rfl rfl rfl ?_
   cases hr
   exact jump1 _ _ rfl rfl
  ·
   replace hr := nilE_not hr
   refine rn tk 7 rfl ?_
   refine wo (opTo_litz (k := 5) rfl ty_s_string ty_string) rfl ?_
   refine rn tk 1 rfl ?_
   obtain ⟨v3, h4, hr⟩ := bind_some hr
   refine wo (opTo_appendz (k := 7) (F := cS) (xs := a0.Subscribers) (lim := 8796093022208) 2002 rfl rfl rfl ty_s_string ty_string rfl rfl (fun _ => rfl) rfl rfl rfl h4) rfl ?_
   refine rn tk 4 rfl ?_
   refine ie tk [.hs 2002 0] [(2, .ptr 2 0), (3, .ptr 3 0), (5, .ptr 5 0)] [(2002, .row 9 true 1 (List.map cS v3)), (1002, .row 9 true 1 (List.map cS (([] : List Str)))), (5, .cells [.i 0, .i 0]), (3, .cells [.s a1.Envelope.From, .l TRecipient.pc a1.Envelope.To, .s a1.Envelope.Id, .l TField.pc a1.Message.Fields, .l cU a1.Message.Body]), (2, .cells [.s a0.Address, .s a0.Owner, .bo a0.Open, .l cS a0.Subscribers, .l cS a0.Moderators, .l THeld.pc a0.Held, .i a0.Next])] (.inr rfl) rfl rfl rfl rfl ?_
   cases hr
   exact jump1 _ _ rfl rfl
 ·
  refine rn tk 1 rfl ?_
  refine ct hr (fun j5 => [(2, .ptr 2 0), (3, .ptr 3 0), (5, .ptr 5 0), (11, .l cS j5)]) (fun j5 => [(5, .cells [.i 0, .i 0]), (3, .cells [.s a1.Envelope.From, .l TRecipient.pc a1.Envelope.To, .s a1.Envelope.Id, .l TField.pc a1.Message.Fields, .l cU a1.Message.Body]), (2, .cells [.s a0.Address, .s a0.Owner, .bo a0.Open, .l cS a0.Subscribers, .l cS a0.Moderators, .l THeld.pc a0.Held, .i a0.Next])]) (fun j5 hr jump2 => ?_) (fun j5 hr => ?_)
  ·
   refine il (fn := Try.f69) (args := [.hs 2002 0, .fn (.func 70) [] [.ptr 3 0]]) 200000 299999 [(2, .ptr 2 0), (3, .ptr 3 0), (5, .ptr 5 0)] rfl ⟨Try.func69, rfl, by kernel_rfl⟩ rfl rfl rfl fun T2 ds2 => ?_
   refine rn tk 9 rfl ?_
   refine ct hr (fun j6 => [(0, .hs 2002 0), (1, .fn (.func 70) [] [.ptr 3 0]), (10, .i j6)]) (fun j6 => [(299999, .sus g0.w.heap.size ds2), (200002, .hold (.ptr 2 0) (T2.getD 2 undef)), (200003, .hold (.ptr 3 0) (T2.getD 3 undef)), (200005, .hold (.ptr 5 0) (T2.getD 5 undef)), (2002, .row 9 true 1 (List.map cS j1)), (5, .cells [.i 0, .i 0]), (3, .cells [.s a1.Envelope.From, .l TRecipient.pc a1.Envelope.To, .s a1.Envelope.Id, .l TField.pc a1.Message.Fields, .l cU a1.Message.Body]), (2, .cells [.s a0.Address, .s a0.Owner, .bo a0.Open, .l cS a0.Subscribers, .l cS a0.Moderators, .l THeld.pc a0.Held, .i a0.Next])]) (fun j6 hr jump3 => ?_) (fun j6 hr => ?_)
   ·
    refine il (fn := Try.f92) (args := [.hs 2002 0, .fn (.func 70) [] [.ptr 3 0]]) 300000 399999 [(0, .hs 2002 0), (1, .fn (.func 70) [] [.ptr 3 0])] rfl ⟨Try.func92, rfl, by kernel_rfl⟩ rfl rfl rfl fun T3 ds3 => ?_
    refine rn tk 9 rfl ?_
    refine wnh tk rfl rfl rfl rfl ?_
    refine rn tk 4 rfl ?_
    refine al2 hr (fun s7 => [(0, .hs 2002 0), (1, .fn (.func 70) [] [.ptr 3 0]), (7, .i ((j1.length : Int))), (8, .i s7)]) (fun s7 => [(399999, .sus g0.w.heap.size ds3), (300000, .hold (.hs 2002 0) (T3.getD 0 undef)), (300001, .hold (.fn (.func 70) [] [.ptr 3 0]) (T3.getD 1 undef)), (299999, .sus g0.w.heap.size ds2), (200002, .hold (.ptr 2 0) (T2.getD 2 undef)), (200003, .hold (.ptr 3 0) (T2.getD 3 undef)), (200005, .hold (.ptr 5 0) (T2.getD 5 undef)), (2002, .row 9 true 1 (List.map cS j1)), (5, .cells [.i 0, .i 0]), (3, .cells [.s a1.Envelope.From, .l TRecipient.pc a1.Envelope.To, .s a1.Envelope.Id, .l TField.pc a1.Message.Fields, .l cU a1.Message.Body]), (2, .cells [.s a0.Address, .s a0.Owner, .bo a0.Open, .l cS a0.Subscribers, .l cS a0.Moderators, .l THeld.pc a0.Held, .i a0.Next])]) (.exit 0) (fun b8 => []) (fun b8 => [(399999, .sus g0.w.heap.size ds3), (300000, .hold (.hs 2002 0) (T3.getD 0 undef)), (300001, .hold (.fn (.func 70) [] [.ptr 3 0]) (T3.getD 1 undef)), (299999, .sus g0.w.heap.size ds2), (200002, .hold (.ptr 2 0) (T2.getD 2 undef)), (200003, .hold (.ptr 3 0) (T2.getD 3 undef)), (200005, .hold (.ptr 5 0) (T2.getD 5 undef)), (2002, .row 9 true 1 (List.map cS j1)), (5, .cells [.i 0, .i 0]), (3, .cells [.s a1.Envelope.From, .l TRecipient.pc a1.Envelope.To, .s a1.Envelope.Id, .l TField.pc a1.Message.Fields, .l cU a1.Message.Body]), (2, .cells [.s a0.Address, .s a0.Owner, .bo a0.Open, .l cS a0.Subscribers, .l cS a0.Moderators, .l THeld.pc a0.Held, .i a0.Next])]) .ret (fun b9 => [(4, .i b9)]) (fun b9 => [(399999, .sus g0.w.heap.size ds3), (300000, .hold (.hs 2002 0) (T3.getD 0 undef)), (300001, .hold (.fn (.func 70) [] [.ptr 3 0]) (T3.getD 1 undef)), (299999, .sus g0.w.heap.size ds2), (200002, .hold (.ptr 2 0) (T2.getD 2 undef)), (200003, .hold (.ptr 3 0) (T2.getD 3 undef)), (200005, .hold (.ptr 5 0) (T2.getD 5 undef)), (2002, .row 9 true 1 (List.map cS j1)), (5, .cells [.i 0, .i 0]), (3, .cells [.s a1.Envelope.From, .l TRecipient.pc a1.Envelope.To, .s a1.Envelope.Id, .l TField.pc a1.Message.Fields, .l cU a1.Message.Body]), (2, .cells [.s a0.Address, .s a0.Owner, .bo a0.Open, .l cS a0.Subscribers, .l cS a0.Moderators, .l THeld.pc a0.Held, .i a0.Next])]) rfl rfl (fun s7 x11 hr => ?_) (fun b8 hr => ?_) (fun b9 hr => ?_)
    ·
     unfold lists_distribute_l1 at hr
     refine rn tk 6 rfl ?_
     refine ac 9 hr rfl (fun c12 hr => ?_) (fun c12 hr => ?_)
     ·
      refine rn tk 15 rfl ?_
      obtain ⟨v13, h14, hr⟩ := bind_some hr
      refine wih tk h14 rfl rfl rfl rfl rfl ?_
      obtain ⟨v15, h16, hr⟩ := bind_some hr
      refine wq (ev_hload (F := cS) (l := j1) (n := s7) (j := 0) rfl rfl ty_string rfl h16 rfl) rfl rfl rfl ?_
      refine il (fn := Try.f70) (args := [.s v15, .ptr 3 0]) 500000 599999 [(0, .hs 2002 0), (1, .fn (.func 70) [] [.ptr 3 0]), (5, .i s7), (7, .i ((j1.length : Int))), (8, .i s7)] rfl ⟨Try.func70, rfl, by kernel_rfl⟩ rfl rfl rfl fun T5 ds5 => ?_
      refine rn tk 16 rfl ?_
      refine ie tk [.bo ((v15 == a1.Envelope.From))] [(0, .hs 2002 0), (1, .fn (.func 70) [] [.ptr 3 0]), (5, .i s7), (7, .i ((j1.length : Int))), (8, .i s7)] [(399999, .sus g0.w.heap.size ds3), (300000, .hold (.hs 2002 0) (T3.getD 0 undef)), (300001, .hold (.fn (.func 70) [] [.ptr 3 0]) (T3.getD 1 undef)), (299999, .sus g0.w.heap.size ds2), (200002, .hold (.ptr 2 0) (T2.getD 2 undef)), (200003, .hold (.ptr 3 0) (T2.getD 3 undef)), (200005, .hold (.ptr 5 0) (T2.getD 5 undef)), (2002, .row 9 true 1 (List.map cS j1)), (5, .cells [.i 0, .i 0]), (3, .cells [.s a1.Envelope.From, .l TRecipient.pc a1.Envelope.To, .s a1.Envelope.Id, .l TField.pc a1.Message.Fields, .l cU a1.Message.Body]), (2, .cells [.s a0.Address, .s a0.Owner, .bo a0.Open, .l cS a0.Subscribers, .l cS a0.Moderators, .l THeld.pc a0.Held, .i a0.Next])] (.inr rfl) rfl rfl rfl rfl (hO ?_)
      refine rn tk 2 rfl ?_
      refine ac 16 hr rfl (fun c17 hr => ?_) (fun c17 hr => ?_)
      ·
       refine rn tk 9 rfl ?_
       cases hr
       exact ato rfl rfl rfl rfl
      ·
       refine rn tk 7 rfl ?_
       cases hr
       exact atc rfl rfl
     ·
      refine rn tk 2 rfl ?_
      cases hr
      exact ato rfl rfl rfl rfl
    ·
     refine rn tk 8 rfl ?_
     refine ie tk [.i ((-1))] [(0, .hs 2002 0), (1, .fn (.func 70) [] [.ptr 3 0])] [(299999, .sus g0.w.heap.size ds2), (200002, .hold (.ptr 2 0) (T2.getD 2 undef)), (200003, .hold (.ptr 3 0) (T2.getD 3 undef)), (200005, .hold (.ptr 5 0) (T2.getD 5 undef)), (2002, .row 9 true 1 (List.map cS j1)), (5, .cells [.i 0, .i 0]), (3, .cells [.s a1.Envelope.From, .l TRecipient.pc a1.Envelope.To, .s a1.Envelope.Id, .l TField.pc a1.Message.Fields, .l cU a1.Message.Body]), (2, .cells [.s a0.Address, .s a0.Owner, .bo a0.Open, .l cS a0.Subscribers, .l cS a0.Moderators, .l THeld.pc a0.Held, .i a0.Next])] (.inr rfl) rfl rfl rfl rfl ?_
     cases hr
     exact jump3 _ _ rfl rfl
    ·
     refine rn tk 2 rfl ?_
     refine ie tk [.i b9] [(0, .hs 2002 0), (1, .fn (.func 70) [] [.ptr 3 0])] [(299999, .sus g0.w.heap.size ds2), (200002, .hold (.ptr 2 0) (T2.getD 2 undef)), (200003, .hold (.ptr 3 0) (T2.getD 3 undef)), (200005, .hold (.ptr 5 0) (T2.getD 5 undef)), (2002, .row 9 true 1 (List.map cS j1)), (5, .cells [.i 0, .i 0]), (3, .cells [.s a1.Envelope.From, .l TRecipient.pc a1.Envelope.To, .s a1.Envelope.Id, .l TField.pc a1.Message.Fields, .l cU a1.Message.Body]), (2, .cells [.s a0.Address, .s a0.Owner, .bo a0.Open, .l cS a0.Subscribers, .l cS a0.Moderators, .l THeld.pc a0.Held, .i a0.Next])] (.inr rfl) rfl rfl rfl rfl ?_
     cases hr
     exact jump3 _ _ rfl rfl
   ·
    refine rn tk 10 rfl ?_
    refine ac 12 hr rfl (fun c18 hr => ?_) (fun c18 hr => ?_)
    ·
     refine rn tk 6 rfl ?_
     refine awp_unmu 2002 rfl (hC ?_)
     refine awp_pub (d := 4) (F := cS) (l := j1) rfl rfl (hC ?_)
     refine rn tk 2 rfl ?_
     refine ie tk [.l cS j1] [(2, .ptr 2 0), (3, .ptr 3 0), (5, .ptr 5 0)] [(2002, .row 9 false 1 (List.map cS j1)), (5, .cells [.i 0, .i 0]), (3, .cells [.s a1.Envelope.From, .l TRecipient.pc a1.Envelope.To, .s a1.Envelope.Id, .l TField.pc a1.Message.Fields, .l cU a1.Message.Body]), (2, .cells [.s a0.Address, .s a0.Owner, .bo a0.Open, .l cS a0.Subscribers, .l cS a0.Moderators, .l THeld.pc a0.Held, .i a0.Next])] (.inr rfl) rfl rfl rfl rfl ?_
     cases hr
     exact jump2 _ _ rfl rfl
    ·
     refine rn tk 11 rfl ?_
     refine al1 hr (fun s19 => [(0, .hs 2002 0), (1, .fn (.func 70) [] [.ptr 3 0]), (5, .i s19.1), (6, .i s19.2.1)]) (fun s19 => [(299999, .sus g0.w.heap.size ds2), (200002, .hold (.ptr 2 0) (T2.getD 2 undef)), (200003, .hold (.ptr 3 0) (T2.getD 3 undef)), (200005, .hold (.ptr 5 0) (T2.getD 5 undef)), (2002, .row 9 true 1 (List.map cS s19.2.2)), (5, .cells [.i 0, .i 0]), (3, .cells [.s a1.Envelope.From, .l TRecipient.pc a1.Envelope.To, .s a1.Envelope.Id, .l TField.pc a1.Message.Fields, .l cU a1.Message.Body]), (2, .cells [.s a0.Address, .s a0.Owner, .bo a0.Open, .l cS a0.Subscribers, .l cS a0.Moderators, .l THeld.pc a0.Held, .i a0.Next])]) (.exit 0) (fun b20 => [(0, .hs 2002 0), (5, .i b20.1)]) (fun b20 => [(299999, .sus g0.w.heap.size ds2), (200002, .hold (.ptr 2 0) (T2.getD 2 undef)), (200003, .hold (.ptr 3 0) (T2.getD 3 undef)), (200005, .hold (.ptr 5 0) (T2.getD 5 undef)), (2002, .row 9 true 1 (List.map cS b20.2)), (5, .cells [.i 0, .i 0]), (3, .cells [.s a1.Envelope.From, .l TRecipient.pc a1.Envelope.To, .s a1.Envelope.Id, .l TField.pc a1.Message.Fields, .l cU a1.Message.Body]), (2, .cells [.s a0.Address, .s a0.Owner, .bo a0.Open, .l cS a0.Subscribers, .l cS a0.Moderators, .l THeld.pc a0.Held, .i a0.Next])]) rfl rfl (fun s19 x21 hr => ?_) (fun b20 hr => ?_)
     ·
      unfold lists_distribute_l2 at hr
      refine rn tk 5 rfl ?_
      refine wnh tk rfl rfl rfl rfl ?_
      refine rn tk 3 rfl ?_
      refine ac 19 hr rfl (fun c22 hr => ?_) (fun c22 hr => ?_)
      ·
       refine rn tk 2 rfl ?_
       refine jb hr (fun j23 => [(0, .hs 2002 0), (1, .fn (.func 70) [] [.ptr 3 0]), (5, .i j23.1), (6, .i s19.2.1)]) (fun j23 => [(299999, .sus g0.w.heap.size ds2), (200002, .hold (.ptr 2 0) (T2.getD 2 undef)), (200003, .hold (.ptr 3 0) (T2.getD 3 undef)), (200005, .hold (.ptr 5 0) (T2.getD 5 undef)), (2002, .row 9 true 1 (List.map cS j23.2)), (5, .cells [.i 0, .i 0]), (3, .cells [.s a1.Envelope.From, .l TRecipient.pc a1.Envelope.To, .s a1.Envelope.Id, .l TField.pc a1.Message.Fields, .l cU a1.Message.Body]), (2, .cells [.s a0.Address, .s a0.Owner, .bo a0.Open, .l cS a0.Subscribers, .l cS a0.Moderators, .l THeld.pc a0.Held, .i a0.Next])]) (fun j23 hr => ?_) (fun j23 hr => ?_)
       ·
        refine rn tk 5 rfl ?_
        obtain ⟨v24, h25, hr⟩ := bind_some hr
        refine wih tk h25 rfl rfl rfl rfl rfl ?_
        obtain ⟨v26, h27, hr⟩ := bind_some hr
        refine wq (ev_hload (F := cS) (l := s19.2.2) (n := s19.2.1) (j := 0) rfl rfl ty_string rfl h27 rfl) rfl rfl rfl ?_
        refine rn tk 7 rfl ?_
        refine il (fn := Try.f70) (args := [.s v26, .ptr 3 0]) 1100000 1199999 [(0, .hs 2002 0), (1, .fn (.func 70) [] [.ptr 3 0]), (5, .i s19.1), (6, .i s19.2.1), (7, .s v26)] rfl ⟨Try.func70, rfl, by kernel_rfl⟩ rfl rfl rfl fun T11 ds11 => ?_
        refine rn tk 16 rfl ?_
        refine ie tk [.bo ((v26 == a1.Envelope.From))] [(0, .hs 2002 0), (1, .fn (.func 70) [] [.ptr 3 0]), (5, .i s19.1), (6, .i s19.2.1), (7, .s v26)] [(299999, .sus g0.w.heap.size ds2), (200002, .hold (.ptr 2 0) (T2.getD 2 undef)), (200003, .hold (.ptr 3 0) (T2.getD 3 undef)), (200005, .hold (.ptr 5 0) (T2.getD 5 undef)), (2002, .row 9 true 1 (List.map cS s19.2.2)), (5, .cells [.i 0, .i 0]), (3, .cells [.s a1.Envelope.From, .l TRecipient.pc a1.Envelope.To, .s a1.Envelope.Id, .l TField.pc a1.Message.Fields, .l cU a1.Message.Body]), (2, .cells [.s a0.Address, .s a0.Owner, .bo a0.Open, .l cS a0.Subscribers, .l cS a0.Moderators, .l THeld.pc a0.Held, .i a0.Next])] (.inr rfl) rfl rfl rfl rfl (hO ?_)
        refine rn tk 3 rfl ?_
        refine ac 29 hr rfl (fun c28 hr => ?_) (fun c28 hr => ?_)
        ·
         refine rn tk 5 rfl ?_
         obtain ⟨v29, h30, hr⟩ := bind_some hr
         refine wih tk h30 rfl rfl rfl rfl rfl ?_
         obtain ⟨v31, h32, hr⟩ := bind_some hr
         refine wo (opTo_hstore (F := cS) (l := s19.2.2) (n := s19.1) (j := 0) (v := v31) (v' := v26) (pcs := [pS v26]) rfl rfl rfl ty_string rfl h32 rfl rfl) rfl ?_
         refine rn tk 8 rfl ?_
         cases hr
         exact jn _ rfl rfl rfl
        ·
         refine rn tk 2 rfl ?_
         cases hr
         exact jn _ rfl rfl rfl
       ·
        refine rn tk 5 rfl ?_
        cases hr
        exact atc rfl rfl
      ·
       refine rn tk 2 rfl ?_
       cases hr
       exact ato rfl rfl rfl rfl
     ·
      refine rn tk 6 rfl ?_
      obtain ⟨v33, h34, hr⟩ := bind_some hr
      refine wq (ev_hsub (F := cS) (l := b20.2) (p := b20.1) rfl rfl rfl ty_s_string ty_string h34) rfl rfl rfl ?_
      refine wo (opTo_clear (F := cS) (l := b20.2) (z := (([] : Str))) rfl rfl ty_s_string ty_string rfl rfl) rfl ?_
      refine rn tk 6 rfl ?_
      refine awpl_unmu 2002 rfl (hO ?_)
      refine awpl_pub (d := 39) (F := cS) (l := ((clr0 b20.2 (Int.toNat b20.1) (([] : Str))))) rfl rfl (hO ?_)
      obtain ⟨v35, h36, hr⟩ := bind_some hr
      refine wlH tk h36 rfl rfl rfl (fun _ => rfl) rfl ?_
      refine rn tk 4 rfl ?_
      refine ie tk [.l cS v35] [(2, .ptr 2 0), (3, .ptr 3 0), (5, .ptr 5 0)] [(2002, .row 9 false 1 (List.map cS ((clr0 b20.2 (Int.toNat b20.1) (([] : Str)))))), (5, .cells [.i 0, .i 0]), (3, .cells [.s a1.Envelope.From, .l TRecipient.pc a1.Envelope.To, .s a1.Envelope.Id, .l TField.pc a1.Message.Fields, .l cU a1.Message.Body]), (2, .cells [.s a0.Address, .s a0.Owner, .bo a0.Open, .l cS a0.Subscribers, .l cS a0.Moderators, .l THeld.pc a0.Held, .i a0.Next])] (.inr rfl) rfl rfl rfl rfl ?_
      cases hr
      exact jump2 _ _ rfl rfl
  ·
   refine rn tk 8 rfl ?_
   obtain ⟨v37, h38, hr⟩ := bind_some hr
   refine cl (lists_mail_run _ _ _ _ _ h38) rfl rfl ?_
   refine rn tk 7 rfl ?_
   cases hr
   exact kr tk (.inr rfl) rfl rfl
theorem basic_Letter_run (a0 : UInt8) (r : Bool) (hr : basic_Letter a0 = some r) : Run Try.prog 98 [.u8 a0] (.bo r) := by
 unfold basic_Letter at hr
 refine rf (fn := Try.f98) ⟨Try.func98, rfl, by kernel_rfl⟩ rfl (fun _ => rfl) fun g0 hg => ?_
 refine rn tk 5 rfl ?_
 refine jb hr (fun j1 => [(2, .bo j1)]) (fun j1 => []) (fun j1 hr => ?_) (fun j1 hr => ?_)
 ·
  refine rn tk 4 rfl ?_
  refine bs 5 hr rfl (fun c2 hr => ?_) (fun c2 hr => ?_)
  ·
   refine rn tk 4 rfl ?_
   refine bs 9 hr rfl (fun c3 hr => ?_) (fun c3 hr => ?_)
   ·
    refine rn tk 17 rfl ?_
    cases hr
    exact jn _ rfl rfl rfl
   ·
    refine rn tk 3 rfl ?_
    refine bs 12 hr rfl (fun c4 hr => ?_) (fun c4 hr => ?_)
    ·
     refine rn tk 5 rfl ?_
     refine bs 17 hr rfl (fun c5 hr => ?_) (fun c5 hr => ?_)
     ·
      refine rn tk 9 rfl ?_
      cases hr
      exact jn _ rfl rfl rfl
     ·
      refine rn tk 3 rfl ?_
      refine bs 20 hr rfl (fun c6 hr => ?_) (fun c6 hr => ?_)
      ·
       refine rn tk 6 rfl ?_
       cases hr
       exact jn _ rfl rfl rfl
      ·
       refine rn tk 6 rfl ?_
       cases hr
       exact jn _ rfl rfl rfl
    ·
     refine rn tk 8 rfl ?_
     refine bs 20 hr rfl (fun c7 hr => ?_) (fun c7 hr => ?_)
     ·
      refine rn tk 6 rfl ?_
      cases hr
      exact jn _ rfl rfl rfl
     ·
      refine rn tk 6 rfl ?_
      cases hr
      exact jn _ rfl rfl rfl
  ·
   refine rn tk 7 rfl ?_
   refine bs 12 hr rfl (fun c8 hr => ?_) (fun c8 hr => ?_)
   ·
    refine rn tk 5 rfl ?_
    refine bs 17 hr rfl (fun c9 hr => ?_) (fun c9 hr => ?_)
    ·
     refine rn tk 9 rfl ?_
     cases hr
     exact jn _ rfl rfl rfl
    ·
     refine rn tk 3 rfl ?_
     refine bs 20 hr rfl (fun c10 hr => ?_) (fun c10 hr => ?_)
     ·
      refine rn tk 6 rfl ?_
      cases hr
      exact jn _ rfl rfl rfl
     ·
      refine rn tk 6 rfl ?_
      cases hr
      exact jn _ rfl rfl rfl
   ·
    refine rn tk 8 rfl ?_
    refine bs 20 hr rfl (fun c11 hr => ?_) (fun c11 hr => ?_)
    ·
     refine rn tk 6 rfl ?_
     cases hr
     exact jn _ rfl rfl rfl
    ·
     refine rn tk 6 rfl ?_
     cases hr
     exact jn _ rfl rfl rfl
 ·
  refine rn tk 1 rfl ?_
  cases hr
  exact kr tk (.inr rfl) rfl rfl
theorem internal_stringslite_HasPrefix_run (a0 : Str) (a1 : Str) (r : Bool) (hr : internal_stringslite_HasPrefix a0 a1 = some r) : Run Try.prog 78 [.s a0, .s a1] (.bo r) := by
 unfold internal_stringslite_HasPrefix at hr
 refine rf (fn := Try.f78) ⟨Try.func78, rfl, by kernel_rfl⟩ rfl (fun _ => rfl) fun g0 hg => ?_
 refine rn tk 5 rfl ?_
 refine jb hr (fun j1 => [(4, .bo j1)]) (fun j1 => []) (fun j1 hr => ?_) (fun j1 hr => ?_)
 ·
  refine rn tk 7 rfl ?_
  refine bs 10 hr rfl (fun c2 hr => ?_) (fun c2 hr => ?_)
  ·
   refine rn tk 3 rfl ?_
   obtain ⟨v3, h4, hr⟩ := bind_some hr
   refine ug rfl rfl rfl ?_
   refine wscH tk h4 rfl rfl rfl rfl ?_
   refine rn tk 5 rfl ?_
   cases hr
   exact jn _ rfl rfl rfl
  ·
   refine rn tk 9 rfl ?_
   cases hr
   exact jn _ rfl rfl rfl
 ·
  refine rn tk 1 rfl ?_
  cases hr
  exact kr tk (.inr rfl) rfl rfl
theorem strings_HasPrefix_run (a0 : Str) (a1 : Str) (r : Bool) (hr : strings_HasPrefix a0 a1 = some r) : Run Try.prog 52 [.s a0, .s a1] (.bo r) := by
 unfold strings_HasPrefix at hr
 refine rf (fn := Try.f52) ⟨Try.func52, rfl, by kernel_rfl⟩ rfl (fun _ => rfl) fun g0 hg => ?_
 refine rn tk 9 rfl ?_
 obtain ⟨v1, h2, hr⟩ := bind_some hr
 refine cl (internal_stringslite_HasPrefix_run _ _ _ h2) rfl rfl ?_
 refine rn tk 4 rfl ?_
 cases hr
 exact kr tk (.inr rfl) rfl rfl
theorem internal_stringslite_HasSuffix_run (a0 : Str) (a1 : Str) (r : Bool) (hr : internal_stringslite_HasSuffix a0 a1 = some r) : Run Try.prog 79 [.s a0, .s a1] (.bo r) := by
 unfold internal_stringslite_HasSuffix at hr
 refine rf (fn := Try.f79) ⟨Try.func79, rfl, by kernel_rfl⟩ rfl (fun _ => rfl) fun g0 hg => ?_
 refine rn tk 5 rfl ?_
 refine jb hr (fun j1 => [(4, .bo j1)]) (fun j1 => []) (fun j1 hr => ?_) (fun j1 hr => ?_)
 ·
  refine rn tk 7 rfl ?_
  refine bs 10 hr rfl (fun c2 hr => ?_) (fun c2 hr => ?_)
  ·
   refine rn tk 6 rfl ?_
   obtain ⟨v3, h4, hr⟩ := bind_some hr
   refine ug rfl rfl rfl ?_
   refine wscL tk h4 rfl rfl rfl rfl ?_
   refine rn tk 5 rfl ?_
   cases hr
   exact jn _ rfl rfl rfl
  ·
   refine rn tk 12 rfl ?_
   cases hr
   exact jn _ rfl rfl rfl
 ·
  refine rn tk 1 rfl ?_
  cases hr
  exact kr tk (.inr rfl) rfl rfl
theorem strings_HasSuffix_run (a0 : Str) (a1 : Str) (r : Bool) (hr : strings_HasSuffix a0 a1 = some r) : Run Try.prog 53 [.s a0, .s a1] (.bo r) := by
 unfold strings_HasSuffix at hr
 refine rf (fn := Try.f53) ⟨Try.func53, rfl, by kernel_rfl⟩ rfl (fun _ => rfl) fun g0 hg => ?_
 refine rn tk 9 rfl ?_
 obtain ⟨v1, h2, hr⟩ := bind_some hr
 refine cl (internal_stringslite_HasSuffix_run _ _ _ h2) rfl rfl ?_
 refine rn tk 4 rfl ?_
 cases hr
 exact kr tk (.inr rfl) rfl rfl
theorem envelope_Domain_run (a0 : Str) (r : Bool) (hr : envelope_Domain a0 = some r) : Run Try.prog 25 [.s a0] (.bo r) := by
 unfold envelope_Domain at hr
 refine rf (fn := Try.f25) ⟨Try.func25, rfl, by kernel_rfl⟩ rfl (fun _ => rfl) fun g0 hg => ?_
 refine rn tk 10 rfl ?_
 refine jb hr (fun j1 => [(2, .bo j1)]) (fun j1 => []) (fun j1 hr => ?_) (fun j1 hr => ?_)
 ·
  refine rn tk 4 rfl ?_
  refine bs 6 hr rfl (fun c2 hr => ?_) (fun c2 hr => ?_)
  ·
   refine rn tk 5 rfl ?_
   refine bs 11 hr rfl (fun c3 hr => ?_) (fun c3 hr => ?_)
   ·
    refine rn tk 2 rfl ?_
    refine ug rfl rfl rfl ?_
    refine ct hr (fun j4 => [(0, .s a0), (11, .bo true), (14, .bo j4)]) (fun j4 => []) (fun j4 hr jump4 => ?_) (fun j4 hr => ?_)
    ·
     refine il (fn := Try.f51) (args := [.s a0, .fn (.func 50) [] []]) 400000 499999 [(0, .s a0), (11, .bo true)] rfl ⟨Try.func51, rfl, by kernel_rfl⟩ rfl rfl rfl fun T4 ds4 => ?_
     refine rn tk 14 rfl ?_
     refine al2 hr (fun s5 => [(0, .s a0), (1, .fn (.func 50) [] []), (7, .i ((a0.length : Int))), (8, .i s5)]) (fun s5 => [(499999, .sus g0.w.heap.size ds4), (400000, .hold (.s a0) (T4.getD 0 undef)), (400011, .hold (.bo true) (T4.getD 11 undef))]) (.exit 0) (fun b6 => []) (fun b6 => [(499999, .sus g0.w.heap.size ds4), (400000, .hold (.s a0) (T4.getD 0 undef)), (400011, .hold (.bo true) (T4.getD 11 undef))]) .ret (fun b7 => [(4, .bo false)]) (fun b7 => [(499999, .sus g0.w.heap.size ds4), (400000, .hold (.s a0) (T4.getD 0 undef)), (400011, .hold (.bo true) (T4.getD 11 undef))]) rfl rfl (fun s5 x9 hr => ?_) (fun b6 hr => ?_) (fun b7 hr => ?_)
     ·
      unfold envelope_Domain_l1 at hr
      refine rn tk 6 rfl ?_
      refine ac 9 hr rfl (fun c10 hr => ?_) (fun c10 hr => ?_)
      ·
       refine rn tk 15 rfl ?_
       obtain ⟨v11, h12, hr⟩ := bind_some hr
       refine ws tk h12 rfl rfl rfl rfl ?_
       refine il (fn := Try.f50) (args := [.u8 v11]) 600000 699999 [(0, .s a0), (1, .fn (.func 50) [] []), (7, .i ((a0.length : Int))), (8, .i s5)] rfl ⟨Try.func50, rfl, by kernel_rfl⟩ rfl rfl rfl fun T6 ds6 => ?_
       refine rn tk 5 rfl ?_
       refine jb hr (fun j13 => [(2, .bo j13)]) (fun j13 => [(699999, .sus g0.w.heap.size ds6), (600000, .hold (.s a0) (T6.getD 0 undef)), (600001, .hold (.fn (.func 50) [] []) (T6.getD 1 undef)), (600007, .hold (.i ((a0.length : Int))) (T6.getD 7 undef)), (600008, .hold (.i s5) (T6.getD 8 undef)), (499999, .sus g0.w.heap.size ds4), (400000, .hold (.s a0) (T4.getD 0 undef)), (400011, .hold (.bo true) (T4.getD 11 undef))]) (fun j13 hr => ?_) (fun j13 hr => ?_)
       ·
        refine rn tk 4 rfl ?_
        refine bs 5 hr rfl (fun c14 hr => ?_) (fun c14 hr => ?_)
        ·
         refine rn tk 4 rfl ?_
         refine bs 9 hr rfl (fun c15 hr => ?_) (fun c15 hr => ?_)
         ·
          refine rn tk 17 rfl ?_
          cases hr
          exact jn _ rfl rfl rfl
         ·
          refine rn tk 3 rfl ?_
          refine bs 12 hr rfl (fun c16 hr => ?_) (fun c16 hr => ?_)
          ·
           refine rn tk 5 rfl ?_
           refine bs 17 hr rfl (fun c17 hr => ?_) (fun c17 hr => ?_)
           ·
            refine rn tk 9 rfl ?_
            cases hr
            exact jn _ rfl rfl rfl
           ·
            refine rn tk 4 rfl ?_
            refine bs 21 hr rfl (fun c18 hr => ?_) (fun c18 hr => ?_)
            ·
             refine rn tk 5 rfl ?_
             cases hr
             exact jn _ rfl rfl rfl
            ·
             refine rn tk 5 rfl ?_
             cases hr
             exact jn _ rfl rfl rfl
          ·
           refine rn tk 9 rfl ?_
           refine bs 21 hr rfl (fun c19 hr => ?_) (fun c19 hr => ?_)
           ·
            refine rn tk 5 rfl ?_
            cases hr
            exact jn _ rfl rfl rfl
           ·
            refine rn tk 5 rfl ?_
            cases hr
            exact jn _ rfl rfl rfl
        ·
         refine rn tk 7 rfl ?_
         refine bs 12 hr rfl (fun c20 hr => ?_) (fun c20 hr => ?_)
         ·
          refine rn tk 5 rfl ?_
          refine bs 17 hr rfl (fun c21 hr => ?_) (fun c21 hr => ?_)
          ·
           refine rn tk 9 rfl ?_
           cases hr
           exact jn _ rfl rfl rfl
          ·
           refine rn tk 4 rfl ?_
           refine bs 21 hr rfl (fun c22 hr => ?_) (fun c22 hr => ?_)
           ·
            refine rn tk 5 rfl ?_
            cases hr
            exact jn _ rfl rfl rfl
           ·
            refine rn tk 5 rfl ?_
            cases hr
            exact jn _ rfl rfl rfl
         ·
          refine rn tk 9 rfl ?_
          refine bs 21 hr rfl (fun c23 hr => ?_) (fun c23 hr => ?_)
          ·
           refine rn tk 5 rfl ?_
           cases hr
           exact jn _ rfl rfl rfl
          ·
           refine rn tk 5 rfl ?_
           cases hr
           exact jn _ rfl rfl rfl
       ·
        refine rn tk 1 rfl ?_
        refine ie tk [.bo j13] [(0, .s a0), (1, .fn (.func 50) [] []), (7, .i ((a0.length : Int))), (8, .i s5)] [(499999, .sus g0.w.heap.size ds4), (400000, .hold (.s a0) (T4.getD 0 undef)), (400011, .hold (.bo true) (T4.getD 11 undef))] (.inr rfl) rfl rfl rfl rfl (hO ?_)
        refine rn tk 3 rfl ?_
        refine ac 16 hr rfl (fun c24 hr => ?_) (fun c24 hr => ?_)
        ·
         refine rn tk 8 rfl ?_
         cases hr
         exact ato rfl rfl rfl rfl
        ·
         refine rn tk 7 rfl ?_
         cases hr
         exact atc rfl rfl
      ·
       refine rn tk 2 rfl ?_
       cases hr
       exact ato rfl rfl rfl rfl
     ·
      refine rn tk 8 rfl ?_
      refine ie tk [.bo true] [(0, .s a0), (11, .bo true)] [] (.inr rfl) rfl rfl rfl rfl ?_
      cases hr
      exact jump4 _ _ rfl rfl
     ·
      refine rn tk 2 rfl ?_
      refine ie tk [.bo false] [(0, .s a0), (11, .bo true)] [] (.inr rfl) rfl rfl rfl rfl ?_
      cases hr
      exact jump4 _ _ rfl rfl
    ·
     refine rn tk 2 rfl ?_
     refine bs 16 hr rfl (fun c25 hr => ?_) (fun c25 hr => ?_)
     ·
      refine rn tk 1 rfl ?_
      obtain ⟨v26, h27, hr⟩ := bind_some hr
      refine ug rfl rfl rfl ?_
      refine cl (strings_HasPrefix_run _ _ _ h27) rfl rfl ?_
      refine rn tk 3 rfl ?_
      refine bs 21 hr rfl (fun c28 hr => ?_) (fun c28 hr => ?_)
      ·
       refine rn tk 1 rfl ?_
       obtain ⟨v29, h30, hr⟩ := bind_some hr
       refine ug rfl rfl rfl ?_
       refine cl (strings_HasSuffix_run _ _ _ h30) rfl rfl ?_
       refine rn tk 3 rfl ?_
       refine bs 26 hr rfl (fun c31 hr => ?_) (fun c31 hr => ?_)
       ·
        refine rn tk 1 rfl ?_
        obtain ⟨v32, h33, hr⟩ := bind_some hr
        refine ug rfl rfl rfl ?_
        refine cl (strings_Contains_run _ _ _ h33) rfl rfl ?_
        refine rn tk 4 rfl ?_
        cases hr
        exact jn _ rfl rfl rfl
       ·
        refine rn tk 6 rfl ?_
        cases hr
        exact jn _ rfl rfl rfl
      ·
       refine rn tk 11 rfl ?_
       cases hr
       exact jn _ rfl rfl rfl
     ·
      refine rn tk 16 rfl ?_
      cases hr
      exact jn _ rfl rfl rfl
   ·
    refine rn tk 21 rfl ?_
    cases hr
    exact jn _ rfl rfl rfl
  ·
   refine rn tk 26 rfl ?_
   cases hr
   exact jn _ rfl rfl rfl
 ·
  refine rn tk 1 rfl ?_
  cases hr
  exact kr tk (.inr rfl) rfl rfl
theorem envelope_Split_run (a0 : Str) (r : Str × Str × Bool) (hr : envelope_Split a0 = some r) : Run Try.prog 84 [.s a0] (.tup [.s r.1, .s r.2.1, .bo r.2.2]) := by
 unfold envelope_Split at hr
 refine rf (fn := Try.f84) ⟨Try.func84, rfl, by kernel_rfl⟩ rfl (fun _ => rfl) fun g0 hg => ?_
 refine rn tk 10 rfl ?_
 obtain ⟨v1, h2, hr⟩ := bind_some hr
 refine cl (strings_Cut_run _ _ _ h2) rfl rfl ?_
 refine rn tk 14 rfl ?_
 refine jb hr (fun j3 => [(2, .s v1.1), (3, .s v1.2.1), (4, .bo j3)]) (fun j3 => []) (fun j3 hr => ?_) (fun j3 hr => ?_)
 ·
  refine rn tk 5 rfl ?_
  refine bs 15 hr rfl (fun c4 hr => ?_) (fun c4 hr => ?_)
  ·
   refine rn tk 4 rfl ?_
   refine bs 19 hr rfl (fun c5 hr => ?_) (fun c5 hr => ?_)
   ·
    refine rn tk 5 rfl ?_
    refine bs 24 hr rfl (fun c6 hr => ?_) (fun c6 hr => ?_)
    ·
     refine rn tk 2 rfl ?_
     refine ug rfl rfl rfl ?_
     refine ct hr (fun j7 => [(3, .s v1.2.1), (12, .s v1.1), (13, .s v1.2.1), (24, .bo true), (27, .bo j7)]) (fun j7 => []) (fun j7 hr jump4 => ?_) (fun j7 hr => ?_)
     ·
      refine il (fn := Try.f51) (args := [.s v1.1, .fn (.func 97) [] []]) 400000 499999 [(3, .s v1.2.1), (12, .s v1.1), (13, .s v1.2.1), (24, .bo true)] rfl ⟨Try.func51, rfl, by kernel_rfl⟩ rfl rfl rfl fun T4 ds4 => ?_
      refine rn tk 14 rfl ?_
      refine al2 hr (fun s8 => [(0, .s v1.1), (1, .fn (.func 97) [] []), (7, .i ((v1.1.length : Int))), (8, .i s8)]) (fun s8 => [(499999, .sus g0.w.heap.size ds4), (400003, .hold (.s v1.2.1) (T4.getD 3 undef)), (400012, .hold (.s v1.1) (T4.getD 12 undef)), (400013, .hold (.s v1.2.1) (T4.getD 13 undef)), (400024, .hold (.bo true) (T4.getD 24 undef))]) (.exit 0) (fun b9 => []) (fun b9 => [(499999, .sus g0.w.heap.size ds4), (400003, .hold (.s v1.2.1) (T4.getD 3 undef)), (400012, .hold (.s v1.1) (T4.getD 12 undef)), (400013, .hold (.s v1.2.1) (T4.getD 13 undef)), (400024, .hold (.bo true) (T4.getD 24 undef))]) .ret (fun b10 => [(4, .bo false)]) (fun b10 => [(499999, .sus g0.w.heap.size ds4), (400003, .hold (.s v1.2.1) (T4.getD 3 undef)), (400012, .hold (.s v1.1) (T4.getD 12 undef)), (400013, .hold (.s v1.2.1) (T4.getD 13 undef)), (400024, .hold (.bo true) (T4.getD 24 undef))]) rfl rfl (fun s8 x12 hr => ?_) (fun b9 hr => ?_) (fun b10 hr => ?_)
      ·
       unfold envelope_Split_l1 at hr
       refine rn tk 6 rfl ?_
       refine ac 9 hr rfl (fun c13 hr => ?_) (fun c13 hr => ?_)
       ·
        refine rn tk 15 rfl ?_
        obtain ⟨v14, h15, hr⟩ := bind_some hr
        refine ws tk h15 rfl rfl rfl rfl ?_
        refine il (fn := Try.f97) (args := [.u8 v14]) 600000 699999 [(0, .s v1.1), (1, .fn (.func 97) [] []), (7, .i ((v1.1.length : Int))), (8, .i s8)] rfl ⟨Try.func97, rfl, by kernel_rfl⟩ rfl rfl rfl fun T6 ds6 => ?_
        refine rn tk 5 rfl ?_
        refine jb hr (fun j16 => [(2, .bo j16)]) (fun j16 => [(699999, .sus g0.w.heap.size ds6), (600000, .hold (.s v1.1) (T6.getD 0 undef)), (600001, .hold (.fn (.func 97) [] []) (T6.getD 1 undef)), (600007, .hold (.i ((v1.1.length : Int))) (T6.getD 7 undef)), (600008, .hold (.i s8) (T6.getD 8 undef)), (499999, .sus g0.w.heap.size ds4), (400003, .hold (.s v1.2.1) (T4.getD 3 undef)), (400012, .hold (.s v1.1) (T4.getD 12 undef)), (400013, .hold (.s v1.2.1) (T4.getD 13 undef)), (400024, .hold (.bo true) (T4.getD 24 undef))]) (fun j16 hr => ?_) (fun j16 hr => ?_)
        ·
         refine rn tk 2 rfl ?_
         obtain ⟨v17, h18, hr⟩ := bind_some hr
         refine cl (basic_Letter_run _ _ h18) rfl rfl ?_
         refine rn tk 1 rfl ?_
         refine bs 5 hr rfl (fun c19 hr => ?_) (fun c19 hr => ?_)
         ·
          refine rn tk 6 rfl ?_
          cases hr
          exact jn _ rfl rfl rfl
         ·
          refine rn tk 1 rfl ?_
          obtain ⟨v20, h21, hr⟩ := bind_some hr
          refine ug rfl rfl rfl ?_
          refine cl (strings_IndexByte_run _ _ _ h21) rfl rfl ?_
          refine rn tk 4 rfl ?_
          cases hr
          exact jn _ rfl rfl rfl
        ·
         refine rn tk 1 rfl ?_
         refine ie tk [.bo j16] [(0, .s v1.1), (1, .fn (.func 97) [] []), (7, .i ((v1.1.length : Int))), (8, .i s8)] [(499999, .sus g0.w.heap.size ds4), (400003, .hold (.s v1.2.1) (T4.getD 3 undef)), (400012, .hold (.s v1.1) (T4.getD 12 undef)), (400013, .hold (.s v1.2.1) (T4.getD 13 undef)), (400024, .hold (.bo true) (T4.getD 24 undef))] (.inr rfl) rfl rfl rfl rfl (hO ?_)
         refine rn tk 3 rfl ?_
         refine ac 16 hr rfl (fun c22 hr => ?_) (fun c22 hr => ?_)
         ·
          refine rn tk 8 rfl ?_
          cases hr
          exact ato rfl rfl rfl rfl
         ·
          refine rn tk 7 rfl ?_
          cases hr
          exact atc rfl rfl
       ·
        refine rn tk 2 rfl ?_
        cases hr
        exact ato rfl rfl rfl rfl
      ·
       refine rn tk 8 rfl ?_
       refine ie tk [.bo true] [(3, .s v1.2.1), (12, .s v1.1), (13, .s v1.2.1), (24, .bo true)] [] (.inr rfl) rfl rfl rfl rfl ?_
       cases hr
       exact jump4 _ _ rfl rfl
      ·
       refine rn tk 2 rfl ?_
       refine ie tk [.bo false] [(3, .s v1.2.1), (12, .s v1.1), (13, .s v1.2.1), (24, .bo true)] [] (.inr rfl) rfl rfl rfl rfl ?_
       cases hr
       exact jump4 _ _ rfl rfl
     ·
      refine rn tk 2 rfl ?_
      refine bs 29 hr rfl (fun c23 hr => ?_) (fun c23 hr => ?_)
      ·
       refine rn tk 1 rfl ?_
       obtain ⟨v24, h25, hr⟩ := bind_some hr
       refine ug rfl rfl rfl ?_
       refine cl (envelope_Domain_run _ _ h25) rfl rfl ?_
       refine rn tk 5 rfl ?_
       cases hr
       exact jn _ rfl rfl rfl
      ·
       refine rn tk 7 rfl ?_
       cases hr
       exact jn _ rfl rfl rfl
    ·
     refine rn tk 12 rfl ?_
     cases hr
     exact jn _ rfl rfl rfl
   ·
    refine rn tk 17 rfl ?_
    cases hr
    exact jn _ rfl rfl rfl
  ·
   refine rn tk 21 rfl ?_
   cases hr
   exact jn _ rfl rfl rfl
 ·
  refine rn tk 1 rfl ?_
  cases hr
  exact kr tk (.inr rfl) rfl rfl
theorem envelope_Address_run (a0 : Str) (r : Bool) (hr : envelope_Address a0 = some r) : Run Try.prog 60 [.s a0] (.bo r) := by
 unfold envelope_Address at hr
 refine rf (fn := Try.f60) ⟨Try.func60, rfl, by kernel_rfl⟩ rfl (fun _ => rfl) fun g0 hg => ?_
 refine rn tk 8 rfl ?_
 obtain ⟨v1, h2, hr⟩ := bind_some hr
 refine cl (envelope_Split_run _ _ h2) rfl rfl ?_
 refine rn tk 16 rfl ?_
 cases hr
 exact kr tk (.inr rfl) rfl rfl
theorem basic_Name_run (a0 : Str) (r : Bool) (hr : basic_Name a0 = some r) : Run Try.prog 85 [.s a0] (.bo r) := by
 unfold basic_Name at hr
 refine rf (fn := Try.f85) ⟨Try.func85, rfl, by kernel_rfl⟩ rfl (fun _ => rfl) fun g0 hg => ?_
 refine rn tk 5 rfl ?_
 refine jb hr (fun j1 => [(2, .bo j1)]) (fun j1 => []) (fun j1 hr => ?_) (fun j1 hr => ?_)
 ·
  refine rn tk 4 rfl ?_
  refine bs 5 hr rfl (fun c2 hr => ?_) (fun c2 hr => ?_)
  ·
   refine rn tk 5 rfl ?_
   refine bs 10 hr rfl (fun c3 hr => ?_) (fun c3 hr => ?_)
   ·
    refine rn tk 1 rfl ?_
    refine ug rfl rfl rfl ?_
    refine ct hr (fun j4 => [(10, .bo true), (12, .bo j4)]) (fun j4 => []) (fun j4 hr jump4 => ?_) (fun j4 hr => ?_)
    ·
     refine il (fn := Try.f51) (args := [.s a0, .fn (.func 100) [] []]) 400000 499999 [(10, .bo true)] rfl ⟨Try.func51, rfl, by kernel_rfl⟩ rfl rfl rfl fun T4 ds4 => ?_
     refine rn tk 14 rfl ?_
     refine al2 hr (fun s5 => [(0, .s a0), (1, .fn (.func 100) [] []), (7, .i ((a0.length : Int))), (8, .i s5)]) (fun s5 => [(499999, .sus g0.w.heap.size ds4), (400010, .hold (.bo true) (T4.getD 10 undef))]) (.exit 0) (fun b6 => []) (fun b6 => [(499999, .sus g0.w.heap.size ds4), (400010, .hold (.bo true) (T4.getD 10 undef))]) .ret (fun b7 => [(4, .bo false)]) (fun b7 => [(499999, .sus g0.w.heap.size ds4), (400010, .hold (.bo true) (T4.getD 10 undef))]) rfl rfl (fun s5 x9 hr => ?_) (fun b6 hr => ?_) (fun b7 hr => ?_)
     ·
      unfold basic_Name_l1 at hr
      refine rn tk 6 rfl ?_
      refine ac 9 hr rfl (fun c10 hr => ?_) (fun c10 hr => ?_)
      ·
       refine rn tk 15 rfl ?_
       obtain ⟨v11, h12, hr⟩ := bind_some hr
       refine ws tk h12 rfl rfl rfl rfl ?_
       refine il (fn := Try.f100) (args := [.u8 v11]) 600000 699999 [(0, .s a0), (1, .fn (.func 100) [] []), (7, .i ((a0.length : Int))), (8, .i s5)] rfl ⟨Try.func100, rfl, by kernel_rfl⟩ rfl rfl rfl fun T6 ds6 => ?_
       refine rn tk 5 rfl ?_
       refine jb hr (fun j13 => [(2, .bo j13)]) (fun j13 => [(699999, .sus g0.w.heap.size ds6), (600000, .hold (.s a0) (T6.getD 0 undef)), (600001, .hold (.fn (.func 100) [] []) (T6.getD 1 undef)), (600007, .hold (.i ((a0.length : Int))) (T6.getD 7 undef)), (600008, .hold (.i s5) (T6.getD 8 undef)), (499999, .sus g0.w.heap.size ds4), (400010, .hold (.bo true) (T4.getD 10 undef))]) (fun j13 hr => ?_) (fun j13 hr => ?_)
       ·
        refine rn tk 2 rfl ?_
        obtain ⟨v14, h15, hr⟩ := bind_some hr
        refine cl (basic_Letter_run _ _ h15) rfl rfl ?_
        refine rn tk 1 rfl ?_
        refine bs 5 hr rfl (fun c16 hr => ?_) (fun c16 hr => ?_)
        ·
         refine rn tk 13 rfl ?_
         cases hr
         exact jn _ rfl rfl rfl
        ·
         refine rn tk 4 rfl ?_
         refine bs 9 hr rfl (fun c17 hr => ?_) (fun c17 hr => ?_)
         ·
          refine rn tk 9 rfl ?_
          cases hr
          exact jn _ rfl rfl rfl
         ·
          refine rn tk 4 rfl ?_
          refine bs 13 hr rfl (fun c18 hr => ?_) (fun c18 hr => ?_)
          ·
           refine rn tk 5 rfl ?_
           cases hr
           exact jn _ rfl rfl rfl
          ·
           refine rn tk 5 rfl ?_
           cases hr
           exact jn _ rfl rfl rfl
       ·
        refine rn tk 1 rfl ?_
        refine ie tk [.bo j13] [(0, .s a0), (1, .fn (.func 100) [] []), (7, .i ((a0.length : Int))), (8, .i s5)] [(499999, .sus g0.w.heap.size ds4), (400010, .hold (.bo true) (T4.getD 10 undef))] (.inr rfl) rfl rfl rfl rfl (hO ?_)
        refine rn tk 3 rfl ?_
        refine ac 16 hr rfl (fun c19 hr => ?_) (fun c19 hr => ?_)
        ·
         refine rn tk 8 rfl ?_
         cases hr
         exact ato rfl rfl rfl rfl
        ·
         refine rn tk 7 rfl ?_
         cases hr
         exact atc rfl rfl
      ·
       refine rn tk 2 rfl ?_
       cases hr
       exact ato rfl rfl rfl rfl
     ·
      refine rn tk 8 rfl ?_
      refine ie tk [.bo true] [(10, .bo true)] [] (.inr rfl) rfl rfl rfl rfl ?_
      cases hr
      exact jump4 _ _ rfl rfl
     ·
      refine rn tk 2 rfl ?_
      refine ie tk [.bo false] [(10, .bo true)] [] (.inr rfl) rfl rfl rfl rfl ?_
      cases hr
      exact jump4 _ _ rfl rfl
    ·
     refine rn tk 3 rfl ?_
     cases hr
     exact jn _ rfl rfl rfl
   ·
    refine rn tk 5 rfl ?_
    cases hr
    exact jn _ rfl rfl rfl
  ·
   refine rn tk 10 rfl ?_
   cases hr
   exact jn _ rfl rfl rfl
 ·
  refine rn tk 1 rfl ?_
  cases hr
  exact kr tk (.inr rfl) rfl rfl
theorem envelope_Notify_run (a0 : Int) (r : Bool) (hr : envelope_Notify a0 = some r) : Run Try.prog 101 [.i a0] (.bo r) := by
 unfold envelope_Notify at hr
 refine rf (fn := Try.f101) ⟨Try.func101, rfl, by kernel_rfl⟩ rfl (fun _ => rfl) fun g0 hg => ?_
 refine rn tk 5 rfl ?_
 refine jb hr (fun j1 => [(2, .bo j1)]) (fun j1 => []) (fun j1 hr => ?_) (fun j1 hr => ?_)
 ·
  refine rn tk 4 rfl ?_
  refine bs 5 hr rfl (fun c2 hr => ?_) (fun c2 hr => ?_)
  ·
   refine rn tk 5 rfl ?_
   cases hr
   exact jn _ rfl rfl rfl
  ·
   refine rn tk 5 rfl ?_
   cases hr
   exact jn _ rfl rfl rfl
 ·
  refine rn tk 1 rfl ?_
  cases hr
  exact kr tk (.inr rfl) rfl rfl
theorem envelope_Recipients_run (a0 : List TRecipient) (r : TFault) (hr : envelope_Recipients a0 = some r) : Run Try.prog 86 [.l TRecipient.pc a0] (.agg [.i r.Code, .i r.Index]) := by
 unfold envelope_Recipients at hr
 refine rf (fn := Try.f86) ⟨Try.func86, rfl, by kernel_rfl⟩ rfl (fun _ => rfl) fun g0 hg => ?_
 refine rn tk 9 rfl ?_
 refine wn tk rfl rfl rfl ?_
 refine rn tk 4 rfl ?_
 refine al2 hr (fun s1 => [(0, .l TRecipient.pc a0), (2, .ptr 2 0), (5, .l TRecipient.pc a0), (6, .i ((a0.length : Int))), (7, .i s1)]) (fun s1 => [(2, .cells [.i 0, .i 0])]) (.exit 0) (fun b2 => [(2, .ptr 2 0)]) (fun b2 => [(2, .cells [.i 0, .i 0])]) .ret (fun b3 => [(2, .ptr 2 0)]) (fun b3 => [(2, .cells [.i b3.Code, .i b3.Index])]) rfl rfl (fun s1 x5 hr => ?_) (fun b2 hr => ?_) (fun b3 hr => ?_)
 ·
  unfold envelope_Recipients_l1 at hr
  refine rn tk 6 rfl ?_
  refine ac 8 hr rfl (fun c6 hr => ?_) (fun c6 hr => ?_)
  ·
   refine rn tk 7 rfl ?_
   obtain ⟨v7, h8, hr⟩ := bind_some hr
   refine wi tk h8 rfl rfl rfl rfl rfl ?_
   refine rn tk 11 rfl ?_
   obtain ⟨v9, h10, hr⟩ := bind_some hr
   refine cl (envelope_Address_run _ _ h10) rfl rfl ?_
   refine rn tk 4 rfl ?_
   refine ac 12 hr rfl (fun c11 hr => ?_) (fun c11 hr => ?_)
   ·
    refine rn tk 3 rfl ?_
    obtain ⟨v12, h13, hr⟩ := bind_some hr
    refine cl (basic_Fault_run _ _ _ h13) rfl rfl ?_
    refine rn tk 7 rfl ?_
    cases hr
    exact ato rfl rfl rfl rfl
   ·
    refine rn tk 4 rfl ?_
    obtain ⟨v14, h15, hr⟩ := bind_some hr
    refine cl (envelope_Notify_run _ _ h15) rfl rfl ?_
    refine rn tk 4 rfl ?_
    refine ac 19 hr rfl (fun c16 hr => ?_) (fun c16 hr => ?_)
    ·
     refine rn tk 3 rfl ?_
     obtain ⟨v17, h18, hr⟩ := bind_some hr
     refine cl (basic_Fault_run _ _ _ h18) rfl rfl ?_
     refine rn tk 7 rfl ?_
     cases hr
     exact ato rfl rfl rfl rfl
    ·
     refine rn tk 4 rfl ?_
     obtain ⟨v19, h20, hr⟩ := bind_some hr
     refine wlH tk h20 rfl rfl rfl (fun _ => rfl) rfl ?_
     refine rn tk 1 rfl ?_
     refine il (fn := Try.f102) (args := [.l TRecipient.pc v19, .fn (.func 103) [] [.ptr 4 0]]) 500000 599999 [(0, .l TRecipient.pc a0), (2, .ptr 2 0), (3, .i s1), (5, .l TRecipient.pc a0), (6, .i ((a0.length : Int))), (7, .i s1)] rfl ⟨Try.func102, rfl, by kernel_rfl⟩ rfl rfl rfl fun T5 ds5 => ?_
     refine rn tk 9 rfl ?_
     refine ct hr (fun j21 => [(7, .i j21)]) (fun j21 => [(599999, .sus g0.w.heap.size ds5), (500000, .hold (.l TRecipient.pc a0) (T5.getD 0 undef)), (500002, .hold (.ptr 2 0) (T5.getD 2 undef)), (500005, .hold (.l TRecipient.pc a0) (T5.getD 5 undef)), (500006, .hold (.i ((a0.length : Int))) (T5.getD 6 undef)), (500007, .hold (.i s1) (T5.getD 7 undef)), (500003, .hold (.i s1) (T5.getD 3 undef)), (2, .cells [.i 0, .i 0])]) (fun j21 hr jump6 => ?_) (fun j21 hr => ?_)
     ·
      refine il (fn := Try.f113) (args := [.l TRecipient.pc v19, .fn (.func 103) [] [.ptr 4 0]]) 600000 699999 [] rfl ⟨Try.func113, rfl, by kernel_rfl⟩ rfl rfl rfl fun T6 ds6 => ?_
      refine rn tk 9 rfl ?_
      refine wn tk rfl rfl rfl ?_
      refine rn tk 4 rfl ?_
      refine al2 hr (fun s22 => [(0, .l TRecipient.pc v19), (1, .fn (.func 103) [] [.ptr 4 0]), (7, .i ((v19.length : Int))), (8, .i s22)]) (fun s22 => [(699999, .sus g0.w.heap.size ds6), (599999, .sus g0.w.heap.size ds5), (500000, .hold (.l TRecipient.pc a0) (T5.getD 0 undef)), (500002, .hold (.ptr 2 0) (T5.getD 2 undef)), (500005, .hold (.l TRecipient.pc a0) (T5.getD 5 undef)), (500006, .hold (.i ((a0.length : Int))) (T5.getD 6 undef)), (500007, .hold (.i s1) (T5.getD 7 undef)), (500003, .hold (.i s1) (T5.getD 3 undef)), (4, .cells [.s v7.Address, .i v7.Notify]), (2, .cells [.i 0, .i 0])]) (.exit 0) (fun b23 => []) (fun b23 => [(699999, .sus g0.w.heap.size ds6), (599999, .sus g0.w.heap.size ds5), (500000, .hold (.l TRecipient.pc a0) (T5.getD 0 undef)), (500002, .hold (.ptr 2 0) (T5.getD 2 undef)), (500005, .hold (.l TRecipient.pc a0) (T5.getD 5 undef)), (500006, .hold (.i ((a0.length : Int))) (T5.getD 6 undef)), (500007, .hold (.i s1) (T5.getD 7 undef)), (500003, .hold (.i s1) (T5.getD 3 undef)), (2, .cells [.i 0, .i 0])]) .ret (fun b24 => [(4, .i b24)]) (fun b24 => [(699999, .sus g0.w.heap.size ds6), (599999, .sus g0.w.heap.size ds5), (500000, .hold (.l TRecipient.pc a0) (T5.getD 0 undef)), (500002, .hold (.ptr 2 0) (T5.getD 2 undef)), (500005, .hold (.l TRecipient.pc a0) (T5.getD 5 undef)), (500006, .hold (.i ((a0.length : Int))) (T5.getD 6 undef)), (500007, .hold (.i s1) (T5.getD 7 undef)), (500003, .hold (.i s1) (T5.getD 3 undef)), (2, .cells [.i 0, .i 0])]) rfl rfl (fun s22 x26 hr => ?_) (fun b23 hr => ?_) (fun b24 hr => ?_)
      ·
       unfold envelope_Recipients_l2 at hr
       refine rn tk 6 rfl ?_
       refine ac 9 hr rfl (fun c27 hr => ?_) (fun c27 hr => ?_)
       ·
        refine rn tk 15 rfl ?_
        obtain ⟨v28, h29, hr⟩ := bind_some hr
        refine wi tk h29 rfl rfl rfl rfl rfl ?_
        refine rn tk 1 rfl ?_
        refine il (fn := Try.f103) (args := [.agg [.s v28.Address, .i v28.Notify], .ptr 4 0]) 800000 899999 [(0, .l TRecipient.pc v19), (1, .fn (.func 103) [] [.ptr 4 0]), (5, .i s22), (7, .i ((v19.length : Int))), (8, .i s22)] rfl ⟨Try.func103, rfl, by kernel_rfl⟩ rfl rfl rfl fun T8 ds8 => ?_
        refine rn tk 2 rfl ?_
        refine wo (opTo_box (k := 2) 1002 rfl rfl rfl rfl rfl) rfl ?_
        refine rn tk 14 rfl ?_
        refine ie tk [.bo ((v28.Address == v7.Address))] [(0, .l TRecipient.pc v19), (1, .fn (.func 103) [] [.ptr 4 0]), (5, .i s22), (7, .i ((v19.length : Int))), (8, .i s22)] [(1002, .cells [.s v28.Address, .i v28.Notify]), (699999, .sus g0.w.heap.size ds6), (599999, .sus g0.w.heap.size ds5), (500000, .hold (.l TRecipient.pc a0) (T5.getD 0 undef)), (500002, .hold (.ptr 2 0) (T5.getD 2 undef)), (500005, .hold (.l TRecipient.pc a0) (T5.getD 5 undef)), (500006, .hold (.i ((a0.length : Int))) (T5.getD 6 undef)), (500007, .hold (.i s1) (T5.getD 7 undef)), (500003, .hold (.i s1) (T5.getD 3 undef)), (4, .cells [.s v7.Address, .i v7.Notify]), (2, .cells [.i 0, .i 0])] (.inr rfl) rfl rfl rfl rfl (hO ?_)
        refine rn tk 2 rfl ?_
        refine ac 16 hr rfl (fun c30 hr => ?_) (fun c30 hr => ?_)
        ·
         refine rn tk 9 rfl ?_
         cases hr
         exact ato rfl rfl rfl rfl
        ·
         refine rn tk 7 rfl ?_
         cases hr
         exact atc rfl rfl
       ·
        refine rn tk 2 rfl ?_
        cases hr
        exact ato rfl rfl rfl rfl
      ·
       refine rn tk 8 rfl ?_
       refine ie tk [.i ((-1))] [] [(599999, .sus g0.w.heap.size ds5), (500000, .hold (.l TRecipient.pc a0) (T5.getD 0 undef)), (500002, .hold (.ptr 2 0) (T5.getD 2 undef)), (500005, .hold (.l TRecipient.pc a0) (T5.getD 5 undef)), (500006, .hold (.i ((a0.length : Int))) (T5.getD 6 undef)), (500007, .hold (.i s1) (T5.getD 7 undef)), (500003, .hold (.i s1) (T5.getD 3 undef)), (2, .cells [.i 0, .i 0])] (.inr rfl) rfl rfl rfl rfl ?_
       cases hr
       exact jump6 _ _ rfl rfl
      ·
       refine rn tk 2 rfl ?_
       refine ie tk [.i b24] [] [(599999, .sus g0.w.heap.size ds5), (500000, .hold (.l TRecipient.pc a0) (T5.getD 0 undef)), (500002, .hold (.ptr 2 0) (T5.getD 2 undef)), (500005, .hold (.l TRecipient.pc a0) (T5.getD 5 undef)), (500006, .hold (.i ((a0.length : Int))) (T5.getD 6 undef)), (500007, .hold (.i s1) (T5.getD 7 undef)), (500003, .hold (.i s1) (T5.getD 3 undef)), (2, .cells [.i 0, .i 0])] (.inr rfl) rfl rfl rfl rfl ?_
       cases hr
       exact jump6 _ _ rfl rfl
     ·
      refine rn tk 5 rfl ?_
      refine ie tk [.bo (decide (0 ≤ j21))] [(0, .l TRecipient.pc a0), (2, .ptr 2 0), (3, .i s1), (5, .l TRecipient.pc a0), (6, .i ((a0.length : Int))), (7, .i s1)] [(2, .cells [.i 0, .i 0])] (.inr rfl) rfl rfl rfl rfl (hO ?_)
      refine rn tk 3 rfl ?_
      refine ac 26 hr rfl (fun c31 hr => ?_) (fun c31 hr => ?_)
      ·
       refine rn tk 3 rfl ?_
       obtain ⟨v32, h33, hr⟩ := bind_some hr
       refine cl (basic_Fault_run _ _ _ h33) rfl rfl ?_
       refine rn tk 7 rfl ?_
       cases hr
       exact ato rfl rfl rfl rfl
      ·
       refine rn tk 8 rfl ?_
       cases hr
       exact atc rfl rfl
  ·
   refine rn tk 2 rfl ?_
   cases hr
   exact ato rfl rfl rfl rfl
 ·
  refine rn tk 4 rfl ?_
  obtain ⟨v34, h35, hr⟩ := bind_some hr
  refine cl (basic_None_run _ h35) rfl rfl ?_
  refine rn tk 4 rfl ?_
  cases hr
  exact kr tk (.inr rfl) rfl rfl
 ·
  refine rn tk 2 rfl ?_
  cases hr
  exact kr tk (.inr rfl) rfl rfl
theorem envelope_Validate_run (a0 : TEnvelope) (r : TFault) (hr : envelope_Validate a0 = some r) : Run Try.prog 63 [.agg [.s a0.From, .l TRecipient.pc a0.To, .s a0.Id]] (.agg [.i r.Code, .i r.Index]) := by
 unfold envelope_Validate at hr
 refine rf (fn := Try.f63) ⟨Try.func63, rfl, by kernel_rfl⟩ rfl (fun _ => rfl) fun g0 hg => ?_
 refine rn tk 8 rfl ?_
 refine jb hr (fun j1 => [(1, .ptr 1 0), (2, .ptr 2 0), (3, .bo j1)]) (fun j1 => [(2, .cells [.i 0, .i 0]), (1, .cells [.s a0.From, .l TRecipient.pc a0.To, .s a0.Id])]) (fun j1 hr => ?_) (fun j1 hr => ?_)
 ·
  refine rn tk 5 rfl ?_
  refine bs 7 hr rfl (fun c2 hr => ?_) (fun c2 hr => ?_)
  ·
   refine rn tk 2 rfl ?_
   obtain ⟨v3, h4, hr⟩ := bind_some hr
   refine ug rfl rfl rfl ?_
   refine cl (envelope_Address_run _ _ h4) rfl rfl ?_
   refine rn tk 4 rfl ?_
   cases hr
   exact jn _ rfl rfl rfl
  ·
   refine rn tk 7 rfl ?_
   cases hr
   exact jn _ rfl rfl rfl
 ·
  refine ac 3 hr rfl (fun c5 hr => ?_) (fun c5 hr => ?_)
  ·
   refine rn tk 2 rfl ?_
   obtain ⟨v6, h7, hr⟩ := bind_some hr
   refine cl (basic_Fault_run _ _ _ h7) rfl rfl ?_
   refine rn tk 6 rfl ?_
   cases hr
   exact kr tk (.inr rfl) rfl rfl
  ·
   refine jb hr (fun j8 => [(1, .ptr 1 0), (2, .ptr 2 0), (14, .bo j8)]) (fun j8 => [(2, .cells [.i 0, .i 0]), (1, .cells [.s a0.From, .l TRecipient.pc a0.To, .s a0.Id])]) (fun j8 hr => ?_) (fun j8 hr => ?_)
   ·
    refine rn tk 3 rfl ?_
    refine wn tk rfl rfl rfl ?_
    refine rn tk 2 rfl ?_
    refine bs 19 hr rfl (fun c9 hr => ?_) (fun c9 hr => ?_)
    ·
     refine rn tk 7 rfl ?_
     cases hr
     exact jn _ rfl rfl rfl
    ·
     refine rn tk 2 rfl ?_
     refine ug rfl rfl rfl ?_
     refine wn tk rfl rfl rfl ?_
     refine rn tk 4 rfl ?_
     cases hr
     exact jn _ rfl rfl rfl
   ·
    refine ac 14 hr rfl (fun c10 hr => ?_) (fun c10 hr => ?_)
    ·
     refine rn tk 2 rfl ?_
     obtain ⟨v11, h12, hr⟩ := bind_some hr
     refine cl (basic_Fault_run _ _ _ h12) rfl rfl ?_
     refine rn tk 6 rfl ?_
     cases hr
     exact kr tk (.inr rfl) rfl rfl
    ·
     refine jb hr (fun j13 => [(1, .ptr 1 0), (2, .ptr 2 0), (26, .bo j13)]) (fun j13 => [(2, .cells [.i 0, .i 0]), (1, .cells [.s a0.From, .l TRecipient.pc a0.To, .s a0.Id])]) (fun j13 hr => ?_) (fun j13 hr => ?_)
     ·
      refine rn tk 5 rfl ?_
      refine bs 30 hr rfl (fun c14 hr => ?_) (fun c14 hr => ?_)
      ·
       refine rn tk 2 rfl ?_
       obtain ⟨v15, h16, hr⟩ := bind_some hr
       refine ug rfl rfl rfl ?_
       refine cl (basic_Name_run _ _ h16) rfl rfl ?_
       refine rn tk 4 rfl ?_
       cases hr
       exact jn _ rfl rfl rfl
      ·
       refine rn tk 7 rfl ?_
       cases hr
       exact jn _ rfl rfl rfl
     ·
      refine ac 26 hr rfl (fun c17 hr => ?_) (fun c17 hr => ?_)
      ·
       refine rn tk 2 rfl ?_
       obtain ⟨v18, h19, hr⟩ := bind_some hr
       refine cl (basic_Fault_run _ _ _ h19) rfl rfl ?_
       refine rn tk 6 rfl ?_
       cases hr
       exact kr tk (.inr rfl) rfl rfl
      ·
       refine rn tk 7 rfl ?_
       obtain ⟨v20, h21, hr⟩ := bind_some hr
       refine cl (envelope_Recipients_run _ _ h21) rfl rfl ?_
       refine rn tk 4 rfl ?_
       cases hr
       exact kr tk (.inr rfl) rfl rfl
theorem envelope_Check_run (a0 : TMail) (r : TFault) (hr : envelope_Check a0 = some r) : Run Try.prog 37 [.agg [.s a0.Envelope.From, .l TRecipient.pc a0.Envelope.To, .s a0.Envelope.Id, .l TField.pc a0.Message.Fields, .l cU a0.Message.Body]] (.agg [.i r.Code, .i r.Index]) := by
 unfold envelope_Check at hr
 refine rf (fn := Try.f37) ⟨Try.func37, rfl, by kernel_rfl⟩ rfl (fun _ => rfl) fun g0 hg => ?_
 refine rn tk 11 rfl ?_
 obtain ⟨v1, h2, hr⟩ := bind_some hr
 refine cl (envelope_Validate_run _ _ h2) rfl rfl ?_
 refine rn tk 7 rfl ?_
 obtain ⟨v3, h4, hr⟩ := bind_some hr
 refine cl (basic_Failed_run _ _ h4) rfl rfl ?_
 refine rn tk 2 rfl ?_
 refine ac 9 hr rfl (fun c5 hr => ?_) (fun c5 hr => ?_)
 ·
  refine rn tk 8 rfl ?_
  cases hr
  exact kr tk (.inr rfl) rfl rfl
 ·
  refine rn tk 7 rfl ?_
  obtain ⟨v6, h7, hr⟩ := bind_some hr
  refine cl (message_Validate_run _ _ h7) rfl rfl ?_
  refine rn tk 7 rfl ?_
  obtain ⟨v8, h9, hr⟩ := bind_some hr
  refine cl (basic_Failed_run _ _ h9) rfl rfl ?_
  refine rn tk 2 rfl ?_
  refine ac 15 hr rfl (fun c10 hr => ?_) (fun c10 hr => ?_)
  ·
   refine rn tk 4 rfl ?_
   obtain ⟨v11, h12, hr⟩ := bind_some hr
   refine cl (basic_Fault_run _ _ _ h12) rfl rfl ?_
   refine rn tk 5 rfl ?_
   cases hr
   exact kr tk (.inr rfl) rfl rfl
  ·
   refine rn tk 4 rfl ?_
   obtain ⟨v13, h14, hr⟩ := bind_some hr
   refine cl (basic_None_run _ h14) rfl rfl ?_
   refine rn tk 4 rfl ?_
   cases hr
   exact kr tk (.inr rfl) rfl rfl
theorem lists_held_run (a0 : TList) (r : TFault) (hr : lists_held a0 = some r) : Run Try.prog 62 [.agg [.s a0.Address, .s a0.Owner, .bo a0.Open, .l cS a0.Subscribers, .l cS a0.Moderators, .l THeld.pc a0.Held, .i a0.Next]] (.agg [.i r.Code, .i r.Index]) := by
 unfold lists_held at hr
 refine rf (fn := Try.f62) ⟨Try.func62, rfl, by kernel_rfl⟩ rfl (fun _ => rfl) fun g0 hg => ?_
 refine rn tk 11 rfl ?_
 refine wn tk rfl rfl rfl ?_
 refine rn tk 3 rfl ?_
 refine ac 10 hr rfl (fun c1 hr => ?_) (fun c1 hr => ?_)
 ·
  refine rn tk 2 rfl ?_
  obtain ⟨v2, h3, hr⟩ := bind_some hr
  refine cl (basic_Fault_run _ _ _ h3) rfl rfl ?_
  refine rn tk 5 rfl ?_
  cases hr
  exact kr tk (.inr rfl) rfl rfl
 ·
  refine rn tk 3 rfl ?_
  refine jb hr (fun j4 => [(1, .ptr 1 0), (2, .ptr 2 0), (19, .bo j4)]) (fun j4 => [(2, .cells [.i 0, .i 0]), (1, .cells [.s a0.Address, .s a0.Owner, .bo a0.Open, .l cS a0.Subscribers, .l cS a0.Moderators, .l THeld.pc a0.Held, .i a0.Next])]) (fun j4 hr => ?_) (fun j4 hr => ?_)
  ·
   refine rn tk 5 rfl ?_
   refine bs 15 hr rfl (fun c5 hr => ?_) (fun c5 hr => ?_)
   ·
    refine rn tk 5 rfl ?_
    cases hr
    exact jn _ rfl rfl rfl
   ·
    refine rn tk 5 rfl ?_
    cases hr
    exact jn _ rfl rfl rfl
  ·
   refine ac 19 hr rfl (fun c6 hr => ?_) (fun c6 hr => ?_)
   ·
    refine rn tk 2 rfl ?_
    obtain ⟨v7, h8, hr⟩ := bind_some hr
    refine cl (basic_Fault_run _ _ _ h8) rfl rfl ?_
    refine rn tk 5 rfl ?_
    cases hr
    exact kr tk (.inr rfl) rfl rfl
   ·
    refine rn tk 12 rfl ?_
    refine wn tk rfl rfl rfl ?_
    refine rn tk 4 rfl ?_
    refine al2 hr (fun s9 => [(1, .ptr 1 0), (2, .ptr 2 0), (3, .i s9.1), (22, .l THeld.pc a0.Held), (23, .i ((a0.Held.length : Int))), (24, .i s9.2)]) (fun s9 => [(2, .cells [.i 0, .i 0]), (1, .cells [.s a0.Address, .s a0.Owner, .bo a0.Open, .l cS a0.Subscribers, .l cS a0.Moderators, .l THeld.pc a0.Held, .i a0.Next])]) (.exit 0) (fun b10 => [(2, .ptr 2 0)]) (fun b10 => [(2, .cells [.i 0, .i 0])]) .ret (fun b11 => [(2, .ptr 2 0)]) (fun b11 => [(2, .cells [.i b11.Code, .i b11.Index])]) rfl rfl (fun s9 x13 hr => ?_) (fun b10 hr => ?_) (fun b11 hr => ?_)
    ·
     unfold lists_held_l1 at hr
     refine rn tk 6 rfl ?_
     refine ac 25 hr rfl (fun c14 hr => ?_) (fun c14 hr => ?_)
     ·
      refine rn tk 7 rfl ?_
      obtain ⟨v15, h16, hr⟩ := bind_some hr
      refine wi tk h16 rfl rfl rfl rfl rfl ?_
      refine rn tk 7 rfl ?_
      refine jb hr (fun j17 => [(1, .ptr 1 0), (2, .ptr 2 0), (4, .i s9.2), (5, .ptr 5 0), (22, .l THeld.pc a0.Held), (23, .i ((a0.Held.length : Int))), (24, .i s9.2), (39, .bo j17)]) (fun j17 => [(5, .cells [.i v15.Number, .s v15.Mail.Envelope.From, .l TRecipient.pc v15.Mail.Envelope.To, .s v15.Mail.Envelope.Id, .l TField.pc v15.Mail.Message.Fields, .l cU v15.Mail.Message.Body]), (2, .cells [.i 0, .i 0]), (1, .cells [.s a0.Address, .s a0.Owner, .bo a0.Open, .l cS a0.Subscribers, .l cS a0.Moderators, .l THeld.pc a0.Held, .i a0.Next])]) (fun j17 hr => ?_) (fun j17 hr => ?_)
      ·
       refine rn tk 6 rfl ?_
       refine bs 33 hr rfl (fun c18 hr => ?_) (fun c18 hr => ?_)
       ·
        refine rn tk 7 rfl ?_
        cases hr
        exact jn _ rfl rfl rfl
       ·
        refine rn tk 7 rfl ?_
        cases hr
        exact jn _ rfl rfl rfl
      ·
       refine ac 39 hr rfl (fun c19 hr => ?_) (fun c19 hr => ?_)
       ·
        refine rn tk 4 rfl ?_
        obtain ⟨v20, h21, hr⟩ := bind_some hr
        refine cl (basic_Fault_run _ _ _ h21) rfl rfl ?_
        refine rn tk 7 rfl ?_
        cases hr
        exact ato rfl rfl rfl rfl
       ·
        refine rn tk 7 rfl ?_
        obtain ⟨v22, h23, hr⟩ := bind_some hr
        refine cl (envelope_Check_run _ _ h23) rfl rfl ?_
        refine rn tk 7 rfl ?_
        obtain ⟨v24, h25, hr⟩ := bind_some hr
        refine cl (basic_Failed_run _ _ h25) rfl rfl ?_
        refine rn tk 2 rfl ?_
        refine ac 47 hr rfl (fun c26 hr => ?_) (fun c26 hr => ?_)
        ·
         refine rn tk 6 rfl ?_
         obtain ⟨v27, h28, hr⟩ := bind_some hr
         refine cl (basic_Fault_run _ _ _ h28) rfl rfl ?_
         refine rn tk 7 rfl ?_
         cases hr
         exact ato rfl rfl rfl rfl
        ·
         refine rn tk 13 rfl ?_
         cases hr
         exact atc rfl rfl
     ·
      refine rn tk 2 rfl ?_
      cases hr
      exact ato rfl rfl rfl rfl
    ·
     refine rn tk 4 rfl ?_
     obtain ⟨v29, h30, hr⟩ := bind_some hr
     refine cl (basic_None_run _ h30) rfl rfl ?_
     refine rn tk 4 rfl ?_
     cases hr
     exact kr tk (.inr rfl) rfl rfl
    ·
     refine rn tk 2 rfl ?_
     cases hr
     exact kr tk (.inr rfl) rfl rfl
theorem slices_Index_string_string_run (a0 : List Str) (a1 : Str) (r : Int) (hr : slices_Index_string_string a0 a1 = some r) : Run Try.prog 58 [.l cS a0, .s a1] (.i r) := by
 unfold slices_Index_string_string at hr
 refine rf (fn := Try.f58) ⟨Try.func58, rfl, by kernel_rfl⟩ rfl (fun _ => rfl) fun g0 hg => ?_
 refine rn tk 9 rfl ?_
 refine wn tk rfl rfl rfl ?_
 refine rn tk 4 rfl ?_
 refine al2 hr (fun s1 => [(0, .l cS a0), (1, .s a1), (7, .i ((a0.length : Int))), (8, .i s1)]) (fun s1 => []) (.exit 0) (fun b2 => []) (fun b2 => []) .ret (fun b3 => [(4, .i b3)]) (fun b3 => []) rfl rfl (fun s1 x5 hr => ?_) (fun b2 hr => ?_) (fun b3 hr => ?_)
 ·
  unfold slices_Index_string_string_l1 at hr
  refine rn tk 6 rfl ?_
  refine ac 9 hr rfl (fun c6 hr => ?_) (fun c6 hr => ?_)
  ·
   refine rn tk 15 rfl ?_
   obtain ⟨v7, h8, hr⟩ := bind_some hr
   refine wi tk h8 rfl rfl rfl rfl rfl ?_
   refine rn tk 4 rfl ?_
   refine ac 16 hr rfl (fun c9 hr => ?_) (fun c9 hr => ?_)
   ·
    refine rn tk 9 rfl ?_
    cases hr
    exact ato rfl rfl rfl rfl
   ·
    refine rn tk 7 rfl ?_
    cases hr
    exact atc rfl rfl
  ·
   refine rn tk 2 rfl ?_
   cases hr
   exact ato rfl rfl rfl rfl
 ·
  refine rn tk 8 rfl ?_
  cases hr
  exact kr tk (.inr rfl) rfl rfl
 ·
  refine rn tk 2 rfl ?_
  cases hr
  exact kr tk (.inr rfl) rfl rfl
theorem slices_Contains_string_string_run (a0 : List Str) (a1 : Str) (r : Bool) (hr : slices_Contains_string_string a0 a1 = some r) : Run Try.prog 33 [.l cS a0, .s a1] (.bo r) := by
 unfold slices_Contains_string_string at hr
 refine rf (fn := Try.f33) ⟨Try.func33, rfl, by kernel_rfl⟩ rfl (fun _ => rfl) fun g0 hg => ?_
 refine rn tk 9 rfl ?_
 obtain ⟨v1, h2, hr⟩ := bind_some hr
 refine cl (slices_Index_string_string_run _ _ _ h2) rfl rfl ?_
 refine rn tk 5 rfl ?_
 cases hr
 exact kr tk (.inr rfl) rfl rfl
theorem lists_people_run (a0 : List Str) (a1 : Int) (r : TFault) (hr : lists_people a0 a1 = some r) : Run Try.prog 61 [.l cS a0, .i a1] (.agg [.i r.Code, .i r.Index]) := by
 unfold lists_people at hr
 refine rf (fn := Try.f61) ⟨Try.func61, rfl, by kernel_rfl⟩ rfl (fun _ => rfl) fun g0 hg => ?_
 refine rn tk 9 rfl ?_
 refine wn tk rfl rfl rfl ?_
 refine rn tk 3 rfl ?_
 refine ac 9 hr rfl (fun c1 hr => ?_) (fun c1 hr => ?_)
 ·
  refine rn tk 2 rfl ?_
  obtain ⟨v2, h3, hr⟩ := bind_some hr
  refine cl (basic_Fault_run _ _ _ h3) rfl rfl ?_
  refine rn tk 5 rfl ?_
  cases hr
  exact kr tk (.inr rfl) rfl rfl
 ·
  refine rn tk 6 rfl ?_
  refine wn tk rfl rfl rfl ?_
  refine rn tk 4 rfl ?_
  refine al2 hr (fun s4 => [(0, .l cS a0), (1, .i a1), (4, .ptr 4 0), (11, .l cS a0), (12, .i ((a0.length : Int))), (13, .i s4)]) (fun s4 => [(4, .cells [.i 0, .i 0])]) (.exit 0) (fun b5 => [(4, .ptr 4 0)]) (fun b5 => [(4, .cells [.i 0, .i 0])]) .ret (fun b6 => [(4, .ptr 4 0)]) (fun b6 => [(4, .cells [.i b6.Code, .i b6.Index])]) rfl rfl (fun s4 x8 hr => ?_) (fun b5 hr => ?_) (fun b6 hr => ?_)
  ·
   unfold lists_people_l1 at hr
   refine rn tk 6 rfl ?_
   refine ac 14 hr rfl (fun c9 hr => ?_) (fun c9 hr => ?_)
   ·
    refine rn tk 7 rfl ?_
    obtain ⟨v10, h11, hr⟩ := bind_some hr
    refine wi tk h11 rfl rfl rfl rfl rfl ?_
    refine rn tk 9 rfl ?_
    obtain ⟨v12, h13, hr⟩ := bind_some hr
    refine cl (envelope_Address_run _ _ h13) rfl rfl ?_
    refine rn tk 3 rfl ?_
    refine ac 20 hr rfl (fun c14 hr => ?_) (fun c14 hr => ?_)
    ·
     refine rn tk 5 rfl ?_
     obtain ⟨v15, h16, hr⟩ := bind_some hr
     refine cl (basic_Fault_run _ _ _ h16) rfl rfl ?_
     refine rn tk 7 rfl ?_
     cases hr
     exact ato rfl rfl rfl rfl
    ·
     refine rn tk 6 rfl ?_
     obtain ⟨v17, h18, hr⟩ := bind_some hr
     refine wlH tk h18 rfl rfl rfl (fun _ => rfl) rfl ?_
     refine rn tk 1 rfl ?_
     obtain ⟨v19, h20, hr⟩ := bind_some hr
     refine cl (slices_Contains_string_string_run _ _ _ h20) rfl rfl ?_
     refine rn tk 2 rfl ?_
     refine ac 29 hr rfl (fun c21 hr => ?_) (fun c21 hr => ?_)
     ·
      refine rn tk 5 rfl ?_
      obtain ⟨v22, h23, hr⟩ := bind_some hr
      refine cl (basic_Fault_run _ _ _ h23) rfl rfl ?_
      refine rn tk 6 rfl ?_
      cases hr
      exact ato rfl rfl rfl rfl
     ·
      refine rn tk 7 rfl ?_
      cases hr
      exact atc rfl rfl
   ·
    refine rn tk 2 rfl ?_
    cases hr
    exact ato rfl rfl rfl rfl
  ·
   refine rn tk 4 rfl ?_
   obtain ⟨v24, h25, hr⟩ := bind_some hr
   refine cl (basic_None_run _ h25) rfl rfl ?_
   refine rn tk 4 rfl ?_
   cases hr
   exact kr tk (.inr rfl) rfl rfl
  ·
   refine rn tk 2 rfl ?_
   cases hr
   exact kr tk (.inr rfl) rfl rfl
theorem lists_Validate_run (a0 : TList) (r : TFault) (hr : lists_Validate a0 = some r) : Run Try.prog 36 [.agg [.s a0.Address, .s a0.Owner, .bo a0.Open, .l cS a0.Subscribers, .l cS a0.Moderators, .l THeld.pc a0.Held, .i a0.Next]] (.agg [.i r.Code, .i r.Index]) := by
 unfold lists_Validate at hr
 refine rf (fn := Try.f36) ⟨Try.func36, rfl, by kernel_rfl⟩ rfl (fun _ => rfl) fun g0 hg => ?_
 refine rn tk 11 rfl ?_
 obtain ⟨v1, h2, hr⟩ := bind_some hr
 refine cl (envelope_Address_run _ _ h2) rfl rfl ?_
 refine rn tk 3 rfl ?_
 refine ac 8 hr rfl (fun c3 hr => ?_) (fun c3 hr => ?_)
 ·
  refine rn tk 2 rfl ?_
  obtain ⟨v4, h5, hr⟩ := bind_some hr
  refine cl (basic_Fault_run _ _ _ h5) rfl rfl ?_
  refine rn tk 5 rfl ?_
  cases hr
  exact kr tk (.inr rfl) rfl rfl
 ·
  refine rn tk 7 rfl ?_
  obtain ⟨v6, h7, hr⟩ := bind_some hr
  refine cl (envelope_Address_run _ _ h7) rfl rfl ?_
  refine rn tk 3 rfl ?_
  refine ac 13 hr rfl (fun c8 hr => ?_) (fun c8 hr => ?_)
  ·
   refine rn tk 2 rfl ?_
   obtain ⟨v9, h10, hr⟩ := bind_some hr
   refine cl (basic_Fault_run _ _ _ h10) rfl rfl ?_
   refine rn tk 5 rfl ?_
   cases hr
   exact kr tk (.inr rfl) rfl rfl
  ·
   refine rn tk 7 rfl ?_
   obtain ⟨v11, h12, hr⟩ := bind_some hr
   refine cl (lists_people_run _ _ _ h12) rfl rfl ?_
   refine rn tk 7 rfl ?_
   obtain ⟨v13, h14, hr⟩ := bind_some hr
   refine cl (basic_Failed_run _ _ h14) rfl rfl ?_
   refine rn tk 2 rfl ?_
   refine ac 19 hr rfl (fun c15 hr => ?_) (fun c15 hr => ?_)
   ·
    refine rn tk 8 rfl ?_
    cases hr
    exact kr tk (.inr rfl) rfl rfl
   ·
    refine rn tk 7 rfl ?_
    obtain ⟨v16, h17, hr⟩ := bind_some hr
    refine cl (lists_people_run _ _ _ h17) rfl rfl ?_
    refine rn tk 7 rfl ?_
    obtain ⟨v18, h19, hr⟩ := bind_some hr
    refine cl (basic_Failed_run _ _ h19) rfl rfl ?_
    refine rn tk 2 rfl ?_
    refine ac 25 hr rfl (fun c20 hr => ?_) (fun c20 hr => ?_)
    ·
     refine rn tk 8 rfl ?_
     cases hr
     exact kr tk (.inr rfl) rfl rfl
    ·
     refine rn tk 5 rfl ?_
     obtain ⟨v21, h22, hr⟩ := bind_some hr
     refine cl (lists_held_run _ _ h22) rfl rfl ?_
     refine rn tk 4 rfl ?_
     cases hr
     exact kr tk (.inr rfl) rfl rfl
theorem lists_find_run (a0 : TList) (a1 : Str) (a2 : Int) (r : Int × TFault) (hr : lists_find a0 a1 a2 = some r) : Run Try.prog 47 [.agg [.s a0.Address, .s a0.Owner, .bo a0.Open, .l cS a0.Subscribers, .l cS a0.Moderators, .l THeld.pc a0.Held, .i a0.Next], .s a1, .i a2] (.tup [.i r.1, .agg [.i r.2.Code, .i r.2.Index]]) := by
 unfold lists_find at hr
 refine rf (fn := Try.f47) ⟨Try.func47, rfl, by kernel_rfl⟩ rfl (fun _ => rfl) fun g0 hg => ?_
 refine rn tk 12 rfl ?_
 obtain ⟨v1, h2, hr⟩ := bind_some hr
 refine cl (lists_Validate_run _ _ h2) rfl rfl ?_
 refine rn tk 7 rfl ?_
 obtain ⟨v3, h4, hr⟩ := bind_some hr
 refine cl (basic_Failed_run _ _ h4) rfl rfl ?_
 refine rn tk 2 rfl ?_
 refine ac 13 hr rfl (fun c5 hr => ?_) (fun c5 hr => ?_)
 ·
  refine rn tk 1 rfl ?_
  refine dr 2 [(6, .i 0), (14, .agg [.i v1.Code, .i v1.Index])] mixed (by kernel_rfl) rfl rfl (pq tk rfl (.plain rfl) (pq tk rfl (.plain rfl) .nil)) rfl ?_
  refine rn tk 5 rfl ?_
  cases hr
  exact kr tk (.inr rfl) rfl rfl
 ·
  refine rn tk 8 rfl ?_
  obtain ⟨v6, h7, hr⟩ := bind_some hr
  refine cl (slices_Contains_string_string_run _ _ _ h7) rfl rfl ?_
  refine rn tk 3 rfl ?_
  refine ac 19 hr rfl (fun c8 hr => ?_) (fun c8 hr => ?_)
  ·
   refine rn tk 2 rfl ?_
   obtain ⟨v9, h10, hr⟩ := bind_some hr
   refine cl (basic_Fault_run _ _ _ h10) rfl rfl ?_
   refine rn tk 6 rfl ?_
   cases hr
   exact kr tk (.inr rfl) rfl rfl
  ·
   refine rn tk 7 rfl ?_
   refine ct hr (fun j11 => [(7, .ptr 7 0), (24, .i j11)]) (fun j11 => [(7, .cells [.i 0, .i 0])]) (fun j11 hr jump1 => ?_) (fun j11 hr => ?_)
   ·
    refine il (fn := Try.f75) (args := [.l THeld.pc a0.Held, .fn (.func 76) [] [.ptr 5 0]]) 100000 199999 [(7, .ptr 7 0)] rfl ⟨Try.func75, rfl, by kernel_rfl⟩ rfl rfl rfl fun T1 ds1 => ?_
    refine rn tk 9 rfl ?_
    refine wn tk rfl rfl rfl ?_
    refine rn tk 4 rfl ?_
    refine al2 hr (fun s12 => [(0, .l THeld.pc a0.Held), (1, .fn (.func 76) [] [.ptr 5 0]), (7, .i ((a0.Held.length : Int))), (8, .i s12)]) (fun s12 => [(199999, .sus g0.w.heap.size ds1), (100007, .hold (.ptr 7 0) (T1.getD 7 undef)), (7, .cells [.i 0, .i 0]), (5, .cells [.i a2])]) (.exit 0) (fun b13 => []) (fun b13 => [(199999, .sus g0.w.heap.size ds1), (100007, .hold (.ptr 7 0) (T1.getD 7 undef)), (7, .cells [.i 0, .i 0])]) .ret (fun b14 => [(4, .i b14)]) (fun b14 => [(199999, .sus g0.w.heap.size ds1), (100007, .hold (.ptr 7 0) (T1.getD 7 undef)), (7, .cells [.i 0, .i 0])]) rfl rfl (fun s12 x16 hr => ?_) (fun b13 hr => ?_) (fun b14 hr => ?_)
    ·
     unfold lists_find_l1 at hr
     refine rn tk 6 rfl ?_
     refine ac 9 hr rfl (fun c17 hr => ?_) (fun c17 hr => ?_)
     ·
      refine rn tk 15 rfl ?_
      obtain ⟨v18, h19, hr⟩ := bind_some hr
      refine wi tk h19 rfl rfl rfl rfl rfl ?_
      refine rn tk 1 rfl ?_
      refine il (fn := Try.f76) (args := [.agg [.i v18.Number, .s v18.Mail.Envelope.From, .l TRecipient.pc v18.Mail.Envelope.To, .s v18.Mail.Envelope.Id, .l TField.pc v18.Mail.Message.Fields, .l cU v18.Mail.Message.Body], .ptr 5 0]) 300000 399999 [(0, .l THeld.pc a0.Held), (1, .fn (.func 76) [] [.ptr 5 0]), (5, .i s12), (7, .i ((a0.Held.length : Int))), (8, .i s12)] rfl ⟨Try.func76, rfl, by kernel_rfl⟩ rfl rfl rfl fun T3 ds3 => ?_
      refine rn tk 16 rfl ?_
      refine ie tk [.bo ((v18.Number == a2))] [(0, .l THeld.pc a0.Held), (1, .fn (.func 76) [] [.ptr 5 0]), (5, .i s12), (7, .i ((a0.Held.length : Int))), (8, .i s12)] [(2, .cells [.i v18.Number, .s v18.Mail.Envelope.From, .l TRecipient.pc v18.Mail.Envelope.To, .s v18.Mail.Envelope.Id, .l TField.pc v18.Mail.Message.Fields, .l cU v18.Mail.Message.Body]), (199999, .sus g0.w.heap.size ds1), (100007, .hold (.ptr 7 0) (T1.getD 7 undef)), (7, .cells [.i 0, .i 0]), (5, .cells [.i a2])] (.inr rfl) rfl rfl rfl rfl (hO ?_)
      refine rn tk 2 rfl ?_
      refine ac 16 hr rfl (fun c20 hr => ?_) (fun c20 hr => ?_)
      ·
       refine rn tk 9 rfl ?_
       cases hr
       exact ato rfl rfl rfl rfl
      ·
       refine rn tk 7 rfl ?_
       cases hr
       exact atc rfl rfl
     ·
      refine rn tk 2 rfl ?_
      cases hr
      exact ato rfl rfl rfl rfl
    ·
     refine rn tk 8 rfl ?_
     refine ie tk [.i ((-1))] [(7, .ptr 7 0)] [(7, .cells [.i 0, .i 0])] (.inr rfl) rfl rfl rfl rfl ?_
     cases hr
     exact jump1 _ _ rfl rfl
    ·
     refine rn tk 2 rfl ?_
     refine ie tk [.i b14] [(7, .ptr 7 0)] [(7, .cells [.i 0, .i 0])] (.inr rfl) rfl rfl rfl rfl ?_
     cases hr
     exact jump1 _ _ rfl rfl
   ·
    refine rn tk 10 rfl ?_
    refine ac 26 hr rfl (fun c21 hr => ?_) (fun c21 hr => ?_)
    ·
     refine rn tk 2 rfl ?_
     obtain ⟨v22, h23, hr⟩ := bind_some hr
     refine cl (basic_Fault_run _ _ _ h23) rfl rfl ?_
     refine rn tk 6 rfl ?_
     cases hr
     exact kr tk (.inr rfl) rfl rfl
    ·
     refine rn tk 5 rfl ?_
     obtain ⟨v24, h25, hr⟩ := bind_some hr
     refine cl (basic_None_run _ h25) rfl rfl ?_
     refine rn tk 5 rfl ?_
     cases hr
     exact kr tk (.inr rfl) rfl rfl
theorem slices_Clone_api_Field_api_Field_run (a0 : List TField) (r : List TField) (hr : slices_Clone_api_Field_api_Field a0 = some r) : Run Try.prog 73 [.l TField.pc a0] (.l TField.pc r) := by
 unfold slices_Clone_api_Field_api_Field at hr
 refine rf (fn := Try.f73) ⟨Try.func73, rfl, by kernel_rfl⟩ rfl (fun _ => rfl) fun g0 hg => ?_
 refine rn tk 9 rfl ?_
 refine awpl_isnil (d := 3) (F := TField.pc) (l := a0) rfl rfl rfl ty_s_api_Field (fun c1 => hO ?_) (hO ?_)
 ·
  replace hr := nilE_nil c1 hr
  refine rn tk 10 rfl ?_
  cases hr
  exact kr tk (.inr rfl) rfl rfl
 ·
  replace hr := nilE_not hr
  refine rn tk 7 rfl ?_
  refine wo (opTo_litz (k := 5) rfl ty_s_api_Field ty_api_Field) rfl ?_
  refine rn tk 1 rfl ?_
  obtain ⟨v2, h3, hr⟩ := bind_some hr
  refine wo (opTo_appendz (k := 7) (F := TField.pc) (xs := a0) (lim := 4398046511104) 1002 rfl rfl rfl ty_s_api_Field ty_api_Field rfl rfl (fun _ => rfl) rfl rfl rfl h3) rfl ?_
  refine rn tk 3 rfl ?_
  refine awp_unmu 1002 rfl (hC ?_)
  refine awp_pub (d := 2) (F := TField.pc) (l := v2) rfl rfl (hC ?_)
  refine rn tk 1 rfl ?_
  cases hr
  exact kr tk (.inr rfl) rfl rfl
theorem queue_CopyMail_run (a0 : TMail) (r : TMail) (hr : queue_CopyMail a0 = some r) : Run Try.prog 42 [.agg [.s a0.Envelope.From, .l TRecipient.pc a0.Envelope.To, .s a0.Envelope.Id, .l TField.pc a0.Message.Fields, .l cU a0.Message.Body]] (.agg [.s r.Envelope.From, .l TRecipient.pc r.Envelope.To, .s r.Envelope.Id, .l TField.pc r.Message.Fields, .l cU r.Message.Body]) := by
 unfold queue_CopyMail at hr
 refine rf (fn := Try.f42) ⟨Try.func42, rfl, by kernel_rfl⟩ rfl (fun _ => rfl) fun g0 hg => ?_
 refine rn tk 11 rfl ?_
 refine ct hr (fun j1 => [(1, .ptr 1 0), (2, .ptr 2 0), (6, .l TRecipient.pc j1)]) (fun j1 => [(2, .cells [.s (([] : Str)), .l TRecipient.pc ([]), .s (([] : Str)), .l TField.pc ([]), .l cU ([])]), (1, .cells [.s a0.Envelope.From, .l TRecipient.pc a0.Envelope.To, .s a0.Envelope.Id, .l TField.pc a0.Message.Fields, .l cU a0.Message.Body])]) (fun j1 hr jump1 => ?_) (fun j1 hr => ?_)
 ·
  refine il (fn := Try.f72) (args := [.l TRecipient.pc a0.Envelope.To]) 100000 199999 [(1, .ptr 1 0), (2, .ptr 2 0)] rfl ⟨Try.func72, rfl, by kernel_rfl⟩ rfl rfl rfl fun T1 ds1 => ?_
  refine rn tk 9 rfl ?_
  refine awpl_isnil (d := 3) (F := TRecipient.pc) (l := a0.Envelope.To) rfl rfl rfl ty_s_api_Recipient (fun c2 => hO ?_) (hO ?_)
  ·
   replace hr := nilE_nil c2 hr
   refine rn tk 10 rfl ?_
   refine ie tk [.pv (.sl (some true) [])] [(1, .ptr 1 0), (2, .ptr 2 0)] [(2, .cells [.s (([] : Str)), .pv (.sl (some true) []), .s (([] : Str)), .pv (.sl (some true) []), .pv (.sl (some true) [])]), (1, .cells [.s a0.Envelope.From, .l TRecipient.pc a0.Envelope.To, .s a0.Envelope.Id, .l TField.pc a0.Message.Fields, .l cU a0.Message.Body])] (.inr rfl) rfl rfl rfl rfl ?_
   cases hr
   exact jump1 _ _ rfl rfl
  ·
   replace hr := nilE_not hr
   refine rn tk 7 rfl ?_
   refine wo (opTo_litz (k := 5) rfl ty_s_api_Recipient ty_api_Recipient) rfl ?_
   refine rn tk 1 rfl ?_
   obtain ⟨v3, h4, hr⟩ := bind_some hr
   refine wo (opTo_appendz (k := 7) (F := TRecipient.pc) (xs := a0.Envelope.To) (lim := 5864062014805) 1002 rfl rfl rfl ty_s_api_Recipient ty_api_Recipient rfl rfl (fun _ => rfl) rfl rfl rfl h4) rfl ?_
   refine rn tk 3 rfl ?_
   refine awp_unmu 1002 rfl (hC ?_)
   refine awp_pub (d := 2) (F := TRecipient.pc) (l := v3) rfl rfl (hC ?_)
   refine rn tk 1 rfl ?_
   refine ie tk [.l TRecipient.pc v3] [(1, .ptr 1 0), (2, .ptr 2 0)] [(1002, .row 85 false 2 (List.map TRecipient.pc v3)), (2, .cells [.s (([] : Str)), .pv (.sl (some true) []), .s (([] : Str)), .pv (.sl (some true) []), .pv (.sl (some true) [])]), (1, .cells [.s a0.Envelope.From, .l TRecipient.pc a0.Envelope.To, .s a0.Envelope.Id, .l TField.pc a0.Message.Fields, .l cU a0.Message.Body])] (.inr rfl) rfl rfl rfl rfl ?_
   cases hr
   exact jump1 _ _ rfl rfl
 ·
  refine rn tk 6 rfl ?_
  obtain ⟨v5, h6, hr⟩ := bind_some hr
  refine dr 7 [(15, .l cU a0.Message.Body), (14, .ptr 1 4), (13, .ptr 1 3), (12, .l TField.pc v5), (11, .l TField.pc a0.Message.Fields), (10, .ptr 1 3), (9, .ptr 1 3)] mixed (by kernel_rfl) rfl rfl (pq tk rfl (.plain rfl) (pq tk rfl (.plain rfl) (pq tk rfl (.plain rfl) (.run (.plain rfl) (opG_call (slices_Clone_api_Field_api_Field_run a0.Message.Fields v5 h6) rfl) (pq tk rfl (.plain rfl) (pq tk rfl (.plain rfl) (pq tk rfl (.plain rfl) .nil))))))) rfl ?_
  refine ct hr (fun j7 => [(1, .ptr 1 0), (2, .ptr 2 0), (12, .l TField.pc v5), (16, .l cU j7)]) (fun j7 => [(2, .cells [.s (([] : Str)), .l TRecipient.pc ([]), .s (([] : Str)), .l TField.pc ([]), .l cU ([])]), (1, .cells [.s a0.Envelope.From, .l TRecipient.pc j1, .s a0.Envelope.Id, .l TField.pc a0.Message.Fields, .l cU a0.Message.Body])]) (fun j7 hr jump2 => ?_) (fun j7 hr => ?_)
  ·
   refine il (fn := Try.f74) (args := [.l cU a0.Message.Body]) 200000 299999 [(1, .ptr 1 0), (2, .ptr 2 0), (12, .l TField.pc v5)] rfl ⟨Try.func74, rfl, by kernel_rfl⟩ rfl rfl rfl fun T2 ds2 => ?_
   refine rn tk 9 rfl ?_
   refine awpl_isnil (d := 3) (F := cU) (l := a0.Message.Body) rfl rfl rfl ty_s_uint8 (fun c8 => hO ?_) (hO ?_)
   ·
    replace hr := nilE_nil c8 hr
    refine rn tk 10 rfl ?_
    refine ie tk [.pv (.sl (some true) [])] [(1, .ptr 1 0), (2, .ptr 2 0), (12, .l TField.pc v5)] [(2, .cells [.s (([] : Str)), .l TRecipient.pc ([]), .s (([] : Str)), .l TField.pc ([]), .l cU ([])]), (1, .cells [.s a0.Envelope.From, .l TRecipient.pc j1, .s a0.Envelope.Id, .l TField.pc a0.Message.Fields, .l cU a0.Message.Body])] (.inr rfl) rfl rfl rfl rfl ?_
    cases hr
    exact jump2 _ _ rfl rfl
   ·
    replace hr := nilE_not hr
    refine rn tk 7 rfl ?_
    refine wo (opTo_litz (k := 5) rfl ty_s_uint8 ty_uint8) rfl ?_
    refine rn tk 1 rfl ?_
    obtain ⟨v9, h10, hr⟩ := bind_some hr
    refine wo (opTo_appendz (k := 7) (F := cU) (xs := a0.Message.Body) (lim := 140737488355328) 1002 rfl rfl rfl ty_s_uint8 ty_uint8 rfl rfl (fun _ => rfl) rfl rfl rfl h10) rfl ?_
    refine rn tk 3 rfl ?_
    refine awp_unmu 1002 rfl (hC ?_)
    refine awp_pub (d := 2) (F := cU) (l := v9) rfl rfl (hC ?_)
    refine rn tk 1 rfl ?_
    refine ie tk [.l cU v9] [(1, .ptr 1 0), (2, .ptr 2 0), (12, .l TField.pc v5)] [(1002, .row 5 false 1 (List.map cU v9)), (2, .cells [.s (([] : Str)), .l TRecipient.pc ([]), .s (([] : Str)), .l TField.pc ([]), .l cU ([])]), (1, .cells [.s a0.Envelope.From, .l TRecipient.pc j1, .s a0.Envelope.Id, .l TField.pc a0.Message.Fields, .l cU a0.Message.Body])] (.inr rfl) rfl rfl rfl rfl ?_
    cases hr
    exact jump2 _ _ rfl rfl
  ·
   refine rn tk 12 rfl ?_
   cases hr
   exact kr tk (.inr rfl) rfl rfl
theorem slices_Clone_api_Held_api_Held_runO (a0 : List THeld) (r : List THeld) (hr : slices_Clone_api_Held_api_Held a0 = some r) : RunO Try.prog 68 [.l THeld.pc a0] 78 6 (List.map THeld.pc r) := by
 unfold slices_Clone_api_Held_api_Held at hr
 refine rfO (fn := Try.f68) ⟨Try.func68, rfl, by kernel_rfl⟩ rfl fun g0 hg => ?_
 refine rn tk 3 rfl ?_
 refine awpl_adoptM 1002 (d := 2) 78 6 rfl rfl rfl (hO ?_)
 refine rn tk 6 rfl ?_
 refine awpl_isnil (d := 3) (F := THeld.pc) (l := a0) rfl rfl rfl ty_s_api_Held (fun c1 => hO ?_) (hO ?_)
 ·
  replace hr := nilE_nil c1 hr
  refine rn tk 6 rfl ?_
  refine awpl_adoptM 2002 (d := 2) 78 6 rfl rfl rfl (hO ?_)
  refine rn tk 4 rfl ?_
  cases hr
  exact krO tk (.inr rfl) rfl rfl
 ·
  replace hr := nilE_not hr
  refine rn tk 7 rfl ?_
  refine wo (opTo_litz (k := 5) rfl ty_s_api_Held ty_api_Held) rfl ?_
  refine rn tk 1 rfl ?_
  obtain ⟨v2, h3, hr⟩ := bind_some hr
  refine wo (opTo_appendz (k := 7) (F := THeld.pc) (xs := a0) (lim := 1256584717458) 2002 rfl rfl rfl ty_s_api_Held ty_api_Held rfl rfl (fun _ => rfl) rfl rfl rfl h3) rfl ?_
  refine rn tk 4 rfl ?_
  cases hr
  exact krO tk (.inr rfl) rfl rfl
theorem slices_Clone_string_string_runO (a0 : List Str) (r : List Str) (hr : slices_Clone_string_string a0 = some r) : RunO Try.prog 67 [.l cS a0] 9 1 (List.map cS r) := by
 unfold slices_Clone_string_string at hr
 refine rfO (fn := Try.f67) ⟨Try.func67, rfl, by kernel_rfl⟩ rfl fun g0 hg => ?_
 refine rn tk 3 rfl ?_
 refine awpl_adoptM 1002 (d := 2) 9 1 rfl rfl rfl (hO ?_)
 refine rn tk 6 rfl ?_
 refine awpl_isnil (d := 3) (F := cS) (l := a0) rfl rfl rfl ty_s_string (fun c1 => hO ?_) (hO ?_)
 ·
  replace hr := nilE_nil c1 hr
  refine rn tk 6 rfl ?_
  refine awpl_adoptM 2002 (d := 2) 9 1 rfl rfl rfl (hO ?_)
  refine rn tk 4 rfl ?_
  cases hr
  exact krO tk (.inr rfl) rfl rfl
 ·
  replace hr := nilE_not hr
  refine rn tk 7 rfl ?_
  refine wo (opTo_litz (k := 5) rfl ty_s_string ty_string) rfl ?_
  refine rn tk 1 rfl ?_
  obtain ⟨v2, h3, hr⟩ := bind_some hr
  refine wo (opTo_appendz (k := 7) (F := cS) (xs := a0) (lim := 8796093022208) 2002 rfl rfl rfl ty_s_string ty_string rfl rfl (fun _ => rfl) rfl rfl rfl h3) rfl ?_
  refine rn tk 4 rfl ?_
  cases hr
  exact krO tk (.inr rfl) rfl rfl
theorem slices_Clone_string_string_run (a0 : List Str) (r : List Str) (hr : slices_Clone_string_string a0 = some r) : Run Try.prog 67 [.l cS a0] (.l cS r) := by
 unfold slices_Clone_string_string at hr
 refine rf (fn := Try.f67) ⟨Try.func67, rfl, by kernel_rfl⟩ rfl (fun _ => rfl) fun g0 hg => ?_
 refine rn tk 9 rfl ?_
 refine awpl_isnil (d := 3) (F := cS) (l := a0) rfl rfl rfl ty_s_string (fun c1 => hO ?_) (hO ?_)
 ·
  replace hr := nilE_nil c1 hr
  refine rn tk 10 rfl ?_
  cases hr
  exact kr tk (.inr rfl) rfl rfl
 ·
  replace hr := nilE_not hr
  refine rn tk 7 rfl ?_
  refine wo (opTo_litz (k := 5) rfl ty_s_string ty_string) rfl ?_
  refine rn tk 1 rfl ?_
  obtain ⟨v2, h3, hr⟩ := bind_some hr
  refine wo (opTo_appendz (k := 7) (F := cS) (xs := a0) (lim := 8796093022208) 1002 rfl rfl rfl ty_s_string ty_string rfl rfl (fun _ => rfl) rfl rfl rfl h3) rfl ?_
  refine rn tk 3 rfl ?_
  refine awp_unmu 1002 rfl (hC ?_)
  refine awp_pub (d := 2) (F := cS) (l := v2) rfl rfl (hC ?_)
  refine rn tk 1 rfl ?_
  cases hr
  exact kr tk (.inr rfl) rfl rfl
theorem lists_Approve_run (a0 : TList) (a1 : Str) (a2 : Int) (r : TList × (List TMail) × TFault) (hr : lists_Approve a0 a1 a2 = some r) : Run Try.prog 20 [.agg [.s a0.Address, .s a0.Owner, .bo a0.Open, .l cS a0.Subscribers, .l cS a0.Moderators, .l THeld.pc a0.Held, .i a0.Next], .s a1, .i a2] (.tup [.agg [.s r.1.Address, .s r.1.Owner, .bo r.1.Open, .l cS r.1.Subscribers, .l cS r.1.Moderators, .l THeld.pc r.1.Held, .i r.1.Next], .l TMail.pc r.2.1, .agg [.i r.2.2.Code, .i r.2.2.Index]]) := by
 unfold lists_Approve at hr
 refine rf (fn := Try.f20) ⟨Try.func20, rfl, by kernel_rfl⟩ rfl (fun _ => rfl) fun g0 hg => ?_
 refine rn tk 13 rfl ?_
 obtain ⟨v1, h2, hr⟩ := bind_some hr
 refine cl (lists_find_run _ _ _ _ h2) rfl rfl ?_
 refine rn tk 12 rfl ?_
 obtain ⟨v3, h4, hr⟩ := bind_some hr
 refine cl (basic_Failed_run _ _ h4) rfl rfl ?_
 refine rn tk 2 rfl ?_
 refine ac 20 hr rfl (fun c5 hr => ?_) (fun c5 hr => ?_)
 ·
  refine rn tk 1 rfl ?_
  refine drX 2 4 4 4 [1] [(22, .agg [.i v1.2.Code, .i v1.2.Index]), (21, .agg [.s (([] : Str)), .s (([] : Str)), .bo false, .pv (.sl (some true) []), .pv (.sl (some true) []), .pv (.sl (some true) []), .i 0])] [(6, .ptr 6 0), (7, .pv (.sl (some true) [])), (8, .ptr 8 0), (22, .agg [.i v1.2.Code, .i v1.2.Index])] [(10, .cells [.i v1.2.Code, .i v1.2.Index]), (8, .cells [.i 0, .i 0]), (6, .cells [.s (([] : Str)), .s (([] : Str)), .bo false, .pv (.sl (some true) []), .pv (.sl (some true) []), .pv (.sl (some true) []), .i 0]), (3, .cells [.s a0.Address, .s a0.Owner, .bo a0.Open, .l cS a0.Subscribers, .l cS a0.Moderators, .l THeld.pc a0.Held, .i a0.Next])] tk mixed (by kernel_rfl) rfl rfl rfl (pqX tk rfl (.plain rfl) (pqX tk rfl (.plain rfl) .nil)) rfl rfl rfl rfl (by kernel_rfl) ?_
  refine rn tk 5 rfl ?_
  cases hr
  exact kr tk (.inr rfl) rfl rfl
 ·
  refine rn tk 3 rfl ?_
  obtain ⟨v6, h7, hr⟩ := bind_some hr
  obtain ⟨v8, h9, hr⟩ := bind_some hr
  refine dr 12 [(11, .l TMail.pc v8.1), (33, .agg [.i v8.2.Code, .i v8.2.Index]), (32, .l TMail.pc v8.1), (23, .tup [.l TMail.pc v8.1, .agg [.i v8.2.Code, .i v8.2.Index]]), (31, .tup [.l TMail.pc v8.1, .agg [.i v8.2.Code, .i v8.2.Index]]), (30, .agg [.s v6.Mail.Envelope.From, .l TRecipient.pc v6.Mail.Envelope.To, .s v6.Mail.Envelope.Id, .l TField.pc v6.Mail.Message.Fields, .l cU v6.Mail.Message.Body]), (29, .ep [pS v6.Mail.Envelope.From, pL TRecipient.pc v6.Mail.Envelope.To, pS v6.Mail.Envelope.Id, pL TField.pc v6.Mail.Message.Fields, pL cU v6.Mail.Message.Body]), (28, .ep [pI v6.Number, pS v6.Mail.Envelope.From, pL TRecipient.pc v6.Mail.Envelope.To, pS v6.Mail.Envelope.Id, pL TField.pc v6.Mail.Message.Fields, pL cU v6.Mail.Message.Body]), (27, .i v1.1), (26, .l THeld.pc a0.Held), (25, .ptr 3 5), (24, .agg [.s a0.Address, .s a0.Owner, .bo a0.Open, .l cS a0.Subscribers, .l cS a0.Moderators, .l THeld.pc a0.Held, .i a0.Next])] mixed (by kernel_rfl) rfl rfl (pq tk rfl (.plain rfl) (pq tk rfl (.plain rfl) (pq tk rfl (.plain rfl) (pq tk rfl (.plain rfl) (.run (.plain rfl) (opG_q (ev_idx (f := THeld.pc) rfl rfl ty_s_api_Held ty_api_Held rfl h7)) (pq tk rfl (.plain rfl) (pq tk rfl (.plain rfl) (.run (.plain rfl) (opG_call (lists_distribute_run a0 v6.Mail v8 h9) rfl) (pq tk rfl (.plain rfl) (pq tk rfl (.plain rfl) (pq tk rfl (.plain rfl) (pq tk rfl (.plain rfl) .nil)))))))))))) rfl ?_
  refine rn tk 7 rfl ?_
  obtain ⟨v10, h11, hr⟩ := bind_some hr
  refine cl (basic_Failed_run _ _ h11) rfl rfl ?_
  refine rn tk 2 rfl ?_
  refine ac 35 hr rfl (fun c12 hr => ?_) (fun c12 hr => ?_)
  ·
   refine rn tk 1 rfl ?_
   refine drX 2 4 4 4 [1] [(37, .agg [.i v8.2.Code, .i v8.2.Index]), (36, .agg [.s (([] : Str)), .s (([] : Str)), .bo false, .pv (.sl (some true) []), .pv (.sl (some true) []), .pv (.sl (some true) []), .i 0])] [(6, .ptr 6 0), (7, .pv (.sl (some true) [])), (8, .ptr 8 0), (37, .agg [.i v8.2.Code, .i v8.2.Index])] [(10, .cells [.i v8.2.Code, .i v8.2.Index]), (8, .cells [.i 0, .i 0]), (6, .cells [.s (([] : Str)), .s (([] : Str)), .bo false, .pv (.sl (some true) []), .pv (.sl (some true) []), .pv (.sl (some true) []), .i 0]), (3, .cells [.s a0.Address, .s a0.Owner, .bo a0.Open, .l cS a0.Subscribers, .l cS a0.Moderators, .l THeld.pc a0.Held, .i a0.Next])] tk mixed (by kernel_rfl) rfl rfl rfl (pqX tk rfl (.plain rfl) (pqX tk rfl (.plain rfl) .nil)) rfl rfl rfl rfl (by kernel_rfl) ?_
   refine rn tk 5 rfl ?_
   cases hr
   exact kr tk (.inr rfl) rfl rfl
  ·
   refine rn tk 5 rfl ?_
   refine il (fn := Try.f39) (args := [.agg [.s a0.Address, .s a0.Owner, .bo a0.Open, .l cS a0.Subscribers, .l cS a0.Moderators, .l THeld.pc a0.Held, .i a0.Next]]) 100000 199999 [(3, .ptr 3 0), (6, .ptr 6 0), (8, .ptr 8 0), (9, .i v1.1), (10, .ptr 10 0), (11, .l TMail.pc v8.1)] rfl ⟨Try.func39, rfl, by kernel_rfl⟩ rfl rfl rfl fun T1 ds1 => ?_
   refine rn tk 4 rfl ?_
   refine awpl_adoptCM 1002 (o := 2) (j := 5) 78 6 rfl rfl rfl rfl (hO ?_)
   refine rn tk 3 rfl ?_
   obtain ⟨v13, h14, hr⟩ := bind_some hr
   obtain ⟨v15, h16, hr⟩ := bind_some hr
   obtain ⟨v17, h18, hr⟩ := bind_some hr
   refine drX 10 10 1 1 [] [(13, .ptr 1 3), (12, .hs 1012 0), (11, .l THeld.pc a0.Held), (10, .ptr 1 5), (9, .l cS v15), (8, .l cS a0.Moderators), (7, .ptr 1 4), (6, .l cS v13), (5, .l cS a0.Subscribers), (4, .ptr 1 3)] [(1, .ptr 1 0), (2, .ptr 2 0), (6, .l cS v13), (9, .l cS v15), (12, .hs 1012 0), (13, .ptr 1 3)] [(1012, .row 78 true 6 (List.map THeld.pc v17)), (1002, .row 78 true 6 (List.map THeld.pc (([] : List THeld)))), (2, .cells [.s (([] : Str)), .s (([] : Str)), .bo false, .pv (.sl (some true) []), .pv (.sl (some true) []), .hs 1002 0, .i 0]), (1, .cells [.s a0.Address, .s a0.Owner, .bo a0.Open, .l cS a0.Subscribers, .l cS a0.Moderators, .l THeld.pc a0.Held, .i a0.Next]), (199999, .sus g0.w.heap.size ds1), (100003, .hold (.ptr 3 0) (T1.getD 3 undef)), (100006, .hold (.ptr 6 0) (T1.getD 6 undef)), (100008, .hold (.ptr 8 0) (T1.getD 8 undef)), (100010, .hold (.ptr 10 0) (T1.getD 10 undef)), (100009, .hold (.i v1.1) (T1.getD 9 undef)), (100011, .hold (.l TMail.pc v8.1) (T1.getD 11 undef)), (10, .cells [.i v8.2.Code, .i v8.2.Index]), (8, .cells [.i 0, .i 0]), (6, .cells [.s (([] : Str)), .s (([] : Str)), .bo false, .pv (.sl (some true) []), .pv (.sl (some true) []), .pv (.sl (some true) []), .i 0]), (3, .cells [.s a0.Address, .s a0.Owner, .bo a0.Open, .l cS a0.Subscribers, .l cS a0.Moderators, .l THeld.pc a0.Held, .i a0.Next])] tk mixed (by kernel_rfl) rfl rfl rfl (pqX tk rfl (.plain rfl) (pqX tk rfl (.plain rfl) (.run (.plain rfl) (opG_call (slices_Clone_string_string_run a0.Subscribers v13 h14) rfl) (pqX tk rfl (.plain rfl) (pqX tk rfl (.plain rfl) (.run (.plain rfl) (opG_call (slices_Clone_string_string_run a0.Moderators v15 h16) rfl) (pqX tk rfl (.plain rfl) (pqX tk rfl (.plain rfl) (.new 1012 (.plain rfl) (opNewX_callO 1012 (slices_Clone_api_Held_api_Held_runO a0.Held v17 h18) rfl) (pqX tk rfl (.plain rfl) .nil)))))))))) rfl rfl rfl rfl (by kernel_rfl) ?_
   refine rn tk 12 rfl ?_
   refine wnh tk rfl rfl rfl rfl ?_
   refine rn tk 4 rfl ?_
   refine al1 hr (fun s19 => [(1, .ptr 1 0), (2, .ptr 2 0), (18, .i ((v17.length : Int))), (19, .i s19.1)]) (fun s19 => [(1012, .row 78 true 6 (List.map THeld.pc s19.2)), (1002, .row 78 true 6 (List.map THeld.pc (([] : List THeld)))), (2, .cells [.s (([] : Str)), .s (([] : Str)), .bo false, .l cS ([]), .l cS ([]), .hs 1002 0, .i 0]), (1, .cells [.s a0.Address, .s a0.Owner, .bo a0.Open, .l cS v13, .l cS v15, .hs 1012 0, .i a0.Next]), (199999, .sus g0.w.heap.size ds1), (100003, .hold (.ptr 3 0) (T1.getD 3 undef)), (100006, .hold (.ptr 6 0) (T1.getD 6 undef)), (100008, .hold (.ptr 8 0) (T1.getD 8 undef)), (100010, .hold (.ptr 10 0) (T1.getD 10 undef)), (100009, .hold (.i v1.1) (T1.getD 9 undef)), (100011, .hold (.l TMail.pc v8.1) (T1.getD 11 undef)), (10, .cells [.i v8.2.Code, .i v8.2.Index]), (8, .cells [.i 0, .i 0]), (6, .cells [.s (([] : Str)), .s (([] : Str)), .bo false, .l cS ([]), .l cS ([]), .l THeld.pc ([]), .i 0]), (3, .cells [.s a0.Address, .s a0.Owner, .bo a0.Open, .l cS a0.Subscribers, .l cS a0.Moderators, .l THeld.pc a0.Held, .i a0.Next])]) (.exit 0) (fun b20 => [(1, .ptr 1 0), (2, .ptr 2 0)]) (fun b20 => [(1012, .row 78 true 6 (List.map THeld.pc b20)), (1002, .row 78 true 6 (List.map THeld.pc (([] : List THeld)))), (2, .cells [.s (([] : Str)), .s (([] : Str)), .bo false, .l cS ([]), .l cS ([]), .hs 1002 0, .i 0]), (1, .cells [.s a0.Address, .s a0.Owner, .bo a0.Open, .l cS v13, .l cS v15, .hs 1012 0, .i a0.Next]), (199999, .sus g0.w.heap.size ds1), (100003, .hold (.ptr 3 0) (T1.getD 3 undef)), (100006, .hold (.ptr 6 0) (T1.getD 6 undef)), (100008, .hold (.ptr 8 0) (T1.getD 8 undef)), (100010, .hold (.ptr 10 0) (T1.getD 10 undef)), (100009, .hold (.i v1.1) (T1.getD 9 undef)), (100011, .hold (.l TMail.pc v8.1) (T1.getD 11 undef)), (10, .cells [.i v8.2.Code, .i v8.2.Index]), (8, .cells [.i 0, .i 0]), (6, .cells [.s (([] : Str)), .s (([] : Str)), .bo false, .l cS ([]), .l cS ([]), .l THeld.pc ([]), .i 0]), (3, .cells [.s a0.Address, .s a0.Owner, .bo a0.Open, .l cS a0.Subscribers, .l cS a0.Moderators, .l THeld.pc a0.Held, .i a0.Next])]) rfl rfl (fun s19 x21 hr => ?_) (fun b20 hr => ?_)
   ·
    unfold lists_Approve_l1 at hr
    refine rn tk 6 rfl ?_
    refine ac 20 hr rfl (fun c22 hr => ?_) (fun c22 hr => ?_)
    ·
     refine rn tk 10 rfl ?_
     obtain ⟨v23, h24, hr⟩ := bind_some hr
     obtain ⟨v25, h26, hr⟩ := bind_some hr
     obtain ⟨v27, h28, hr⟩ := bind_some hr
     refine dr 10 [(31, .agg [.s v27.Envelope.From, .l TRecipient.pc v27.Envelope.To, .s v27.Envelope.Id, .l TField.pc v27.Message.Fields, .l cU v27.Message.Body]), (30, .agg [.s v25.Mail.Envelope.From, .l TRecipient.pc v25.Mail.Envelope.To, .s v25.Mail.Envelope.Id, .l TField.pc v25.Mail.Message.Fields, .l cU v25.Mail.Message.Body]), (29, .hp 1012 (Int.toNat s19.1) 1), (28, .hp 1012 (Int.toNat s19.1) 0), (27, .i s19.1), (26, .hs 1012 0), (25, .ptr 1 5), (24, .i s19.1), (23, .hs 1012 0), (22, .ptr 1 5)] mixed (by kernel_rfl) rfl rfl (pq tk rfl (.plain rfl) (pq tk rfl (.plain rfl) (pq tk rfl (.plain rfl) (pq tk rfl (.plain rfl) (pq tk rfl (.plain rfl) (pq tk rfl (.plain rfl) (.run (.plain rfl) (opG_q (ev_hidx (F := THeld.pc) (l := s19.2) (n := s19.1) rfl rfl rfl ty_s_api_Held ty_api_Held h24)) (pq tk rfl (.plain rfl) (.run (.plain rfl) (opG_q (ev_hloadN (F := THeld.pc) (l := s19.2) (n := s19.1) (j := 1) rfl rfl ty_api_Mail rfl h26 rfl)) (.run (.plain rfl) (opG_call (queue_CopyMail_run v25.Mail v27 h28) rfl) .nil)))))))))) rfl ?_
     obtain ⟨v29, h30, hr⟩ := bind_some hr
     refine wih tk h30 rfl rfl rfl rfl rfl ?_
     refine rn tk 1 rfl ?_
     obtain ⟨v31, h32, hr⟩ := bind_some hr
     refine wo (opTo_hstore (F := THeld.pc) (l := s19.2) (n := s19.1) (j := 1) (v := v31) (v' := ((THeld.mk v31.Number v27))) (pcs := [pS v27.Envelope.From, pL TRecipient.pc v27.Envelope.To, pS v27.Envelope.Id, pL TField.pc v27.Message.Fields, pL cU v27.Message.Body]) rfl rfl rfl ty_api_Mail rfl h32 rfl rfl) rfl ?_
     refine rn tk 7 rfl ?_
     cases hr
     exact atc rfl rfl
    ·
     refine rn tk 2 rfl ?_
     cases hr
     exact ato rfl rfl rfl rfl
   ·
    refine rn tk 9 rfl ?_
    refine ie tk [.agg [.s a0.Address, .s a0.Owner, .bo a0.Open, .l cS v13, .l cS v15, .hs 1012 0, .i a0.Next]] [(3, .ptr 3 0), (6, .ptr 6 0), (8, .ptr 8 0), (9, .i v1.1), (10, .ptr 10 0), (11, .l TMail.pc v8.1)] [(1012, .row 78 true 6 (List.map THeld.pc b20)), (1002, .row 78 true 6 (List.map THeld.pc (([] : List THeld)))), (2, .cells [.s a0.Address, .s a0.Owner, .bo a0.Open, .l cS v13, .l cS v15, .hs 1012 0, .i a0.Next]), (1, .cells [.s a0.Address, .s a0.Owner, .bo a0.Open, .l cS v13, .l cS v15, .hs 1012 0, .i a0.Next]), (10, .cells [.i v8.2.Code, .i v8.2.Index]), (8, .cells [.i 0, .i 0]), (6, .cells [.s (([] : Str)), .s (([] : Str)), .bo false, .l cS ([]), .l cS ([]), .l THeld.pc ([]), .i 0]), (3, .cells [.s a0.Address, .s a0.Owner, .bo a0.Open, .l cS a0.Subscribers, .l cS a0.Moderators, .l THeld.pc a0.Held, .i a0.Next])] (.inr rfl) rfl rfl rfl rfl (hO ?_)
    refine rn tk 10 rfl ?_
    refine ct hr (fun j33 => [(3, .ptr 3 0), (6, .ptr 6 0), (8, .ptr 8 0), (10, .ptr 10 0), (11, .l TMail.pc v8.1), (45, .hs 1012 0)]) (fun j33 => [(1012, .row 78 true 6 (List.map THeld.pc j33)), (10, .cells [.i v8.2.Code, .i v8.2.Index]), (8, .cells [.i 0, .i 0]), (6, .cells [.s (([] : Str)), .s (([] : Str)), .bo false, .l cS ([]), .l cS ([]), .l THeld.pc ([]), .i 0]), (3, .cells [.s a0.Address, .s a0.Owner, .bo a0.Open, .l cS v13, .l cS v15, .any, .i a0.Next])]) (fun j33 hr jump2 => ?_) (fun j33 hr => ?_)
    ·
     refine il (fn := Try.f48) (args := [.hs 1012 0, .i v1.1, .i ((w64 (v1.1 + 1)))]) 200000 299999 [(3, .ptr 3 0), (6, .ptr 6 0), (8, .ptr 8 0), (10, .ptr 10 0), (11, .l TMail.pc v8.1)] rfl ⟨Try.func48, rfl, by kernel_rfl⟩ rfl rfl rfl fun T2 ds2 => ?_
     refine rn tk 3 rfl ?_
     refine awpl_adoptM 1006 (d := 6) 78 6 rfl rfl rfl (hO ?_)
     refine rn tk 8 rfl ?_
     refine wnh tk rfl rfl rfl rfl ?_
     obtain ⟨v34, h35, hr⟩ := bind_some hr
     refine wq (ev_hcut3 (F := THeld.pc) (l := b20) rfl rfl rfl rfl rfl ty_s_api_Held ty_api_Held h35) rfl rfl rfl ?_
     refine rn tk 10 rfl ?_
     refine ac 16 hr rfl (fun c36 hr => ?_) (fun c36 hr => ?_)
     ·
      refine rn tk 6 rfl ?_
      refine awp_hsclr (d' := 6) (F := THeld.pc) (l := b20) rfl rfl (hC ?_)
      refine rn tk 2 rfl ?_
      refine ie tk [.hs 1012 0] [(3, .ptr 3 0), (6, .ptr 6 0), (8, .ptr 8 0), (10, .ptr 10 0), (11, .l TMail.pc v8.1)] [(1006, .row 78 true 6 (List.map THeld.pc (([] : List THeld)))), (1012, .row 78 true 6 (List.map THeld.pc b20)), (1002, .row 78 true 6 (List.map THeld.pc (([] : List THeld)))), (2, .cells [.s a0.Address, .s a0.Owner, .bo a0.Open, .l cS v13, .l cS v15, .any, .i a0.Next]), (1, .cells [.s a0.Address, .s a0.Owner, .bo a0.Open, .l cS v13, .l cS v15, .any, .i a0.Next]), (10, .cells [.i v8.2.Code, .i v8.2.Index]), (8, .cells [.i 0, .i 0]), (6, .cells [.s (([] : Str)), .s (([] : Str)), .bo false, .l cS ([]), .l cS ([]), .l THeld.pc ([]), .i 0]), (3, .cells [.s a0.Address, .s a0.Owner, .bo a0.Open, .l cS v13, .l cS v15, .any, .i a0.Next])] (.inr rfl) rfl rfl rfl rfl ?_
      cases hr
      exact jump2 _ _ rfl rfl
     ·
      refine rn tk 5 rfl ?_
      refine wnh tk rfl rfl rfl rfl ?_
      refine rn tk 4 rfl ?_
      obtain ⟨v37, h38, hr⟩ := bind_some hr
      obtain ⟨v39, h40, hr⟩ := bind_some hr
      refine dr 6 [(25, .hsub 1012 (Int.toNat ((w64 (v1.1 + 1))))), (24, .i ((w64 (v1.1 + 1)))), (23, .hs 1012 0), (22, .hpre 1012 (Int.toNat v1.1)), (21, .i v1.1), (20, .hs 1012 0)] mixed (by kernel_rfl) rfl rfl (pq tk rfl (.plain rfl) (pq tk rfl (.plain rfl) (.run (.plain rfl) (opG_q (ev_hpre (F := THeld.pc) (l := b20) (q := v1.1) rfl rfl rfl ty_s_api_Held ty_api_Held h38)) (pq tk rfl (.plain rfl) (pq tk rfl (.plain rfl) (.run (.plain rfl) (opG_q (ev_hsub (F := THeld.pc) (l := b20) (p := ((w64 (v1.1 + 1)))) rfl rfl rfl ty_s_api_Held ty_api_Held h40)) .nil)))))) rfl ?_
      obtain ⟨v41, h42, hr⟩ := bind_some hr
      refine wo (opTo_shift (k := 26) (F := THeld.pc) (l := b20) (p := v1.1) (q := ((w64 (v1.1 + 1)))) rfl rfl rfl rfl ty_s_api_Held ty_api_Held rfl h42) rfl ?_
      refine rn tk 7 rfl ?_
      refine wq (ev_hprelen (e := 78) (n := ((Int.toNat v1.1) + (b20.length - (Int.toNat ((w64 (v1.1 + 1))))))) rfl ty_s_api_Held.u) rfl rfl rfl ?_
      refine rn tk 1 rfl ?_
      obtain ⟨v43, h44, hr⟩ := bind_some hr
      refine wq (ev_hprest (F := THeld.pc) (l := v41) (a := (((((Int.toNat v1.1) + (b20.length - (Int.toNat ((w64 (v1.1 + 1)))))) : Nat) : Int))) rfl rfl rfl rfl ty_s_api_Held ty_api_Held h44) rfl rfl rfl ?_
      refine wo (opTo_clear (F := THeld.pc) (l := v41) (z := ((THeld.mk 0 ((TMail.mk ((TEnvelope.mk (([] : Str)) ([]) (([] : Str)))) ((TMessage.mk ([]) ([])))))))) rfl rfl ty_s_api_Held ty_api_Held rfl rfl) rfl ?_
      refine rn tk 8 rfl ?_
      refine awp_hprecut (d' := 6) (F := THeld.pc) (l := ((clr0 v41 (Int.toNat (((((Int.toNat v1.1) + (b20.length - (Int.toNat ((w64 (v1.1 + 1)))))) : Nat) : Int))) ((THeld.mk 0 ((TMail.mk ((TEnvelope.mk (([] : Str)) ([]) (([] : Str)))) ((TMessage.mk ([]) ([])))))))))) rfl rfl (hC ?_)
      refine rn tk 1 rfl ?_
      refine ie tk [.hs 1012 0] [(3, .ptr 3 0), (6, .ptr 6 0), (8, .ptr 8 0), (10, .ptr 10 0), (11, .l TMail.pc v8.1)] [(1006, .row 78 true 6 (List.map THeld.pc (([] : List THeld)))), (1012, .row 78 true 6 (List.map THeld.pc ((List.take ((Int.toNat v1.1) + (b20.length - (Int.toNat ((w64 (v1.1 + 1)))))) ((clr0 v41 (Int.toNat (((((Int.toNat v1.1) + (b20.length - (Int.toNat ((w64 (v1.1 + 1)))))) : Nat) : Int))) ((THeld.mk 0 ((TMail.mk ((TEnvelope.mk (([] : Str)) ([]) (([] : Str)))) ((TMessage.mk ([]) ([]))))))))))))), (1002, .row 78 true 6 (List.map THeld.pc (([] : List THeld)))), (2, .cells [.s a0.Address, .s a0.Owner, .bo a0.Open, .l cS v13, .l cS v15, .any, .i a0.Next]), (1, .cells [.s a0.Address, .s a0.Owner, .bo a0.Open, .l cS v13, .l cS v15, .any, .i a0.Next]), (10, .cells [.i v8.2.Code, .i v8.2.Index]), (8, .cells [.i 0, .i 0]), (6, .cells [.s (([] : Str)), .s (([] : Str)), .bo false, .l cS ([]), .l cS ([]), .l THeld.pc ([]), .i 0]), (3, .cells [.s a0.Address, .s a0.Owner, .bo a0.Open, .l cS v13, .l cS v15, .any, .i a0.Next])] (.inr rfl) rfl rfl rfl rfl ?_
      cases hr
      exact jump2 _ _ rfl rfl
    ·
     refine rn tk 5 rfl ?_
     refine drX 3 5 5 14 [1, 2] [(49, .agg [.i v8.2.Code, .i v8.2.Index]), (48, .l TMail.pc v8.1), (47, .agg [.s a0.Address, .s a0.Owner, .bo a0.Open, .l cS v13, .l cS v15, .hs 1012 0, .i a0.Next])] [(6, .ptr 6 0), (7, .l TMail.pc v8.1), (8, .ptr 8 0), (49, .agg [.i v8.2.Code, .i v8.2.Index])] [(1012, .row 78 true 6 (List.map THeld.pc j33)), (10, .cells [.i v8.2.Code, .i v8.2.Index]), (8, .cells [.i 0, .i 0]), (6, .cells [.s a0.Address, .s a0.Owner, .bo a0.Open, .l cS v13, .l cS v15, .hs 1012 0, .i a0.Next]), (3, .cells [.s a0.Address, .s a0.Owner, .bo a0.Open, .l cS v13, .l cS v15, .hs 1012 0, .i a0.Next])] tk mixed (by kernel_rfl) rfl rfl rfl (pqX tk rfl (.plain rfl) (pqX tk rfl (.plain rfl) (pqX tk rfl (.plain rfl) .nil))) rfl rfl rfl rfl (by kernel_rfl) ?_
     refine rn tk 3 rfl ?_
     refine awp_unmu 1012 rfl (hC ?_)
     refine awp_pubC (o := 6) (j := 5) (F := THeld.pc) (l := j33) rfl rfl rfl (hC ?_)
     refine rn tk 1 rfl ?_
     cases hr
     exact kr tk (.inr rfl) rfl rfl
theorem basic_Lower_run (a0 : Str) (r : Str) (hr : basic_Lower a0 = some r) : Run Try.prog 91 [.s a0] (.s r) := by
 unfold basic_Lower at hr
 refine rf (fn := Try.f91) ⟨Try.func91, rfl, by kernel_rfl⟩ rfl (fun _ => rfl) fun g0 hg => ?_
 refine rn tk 8 rfl ?_
 refine wo (opTo_s2buf (k := 7) (s := a0) 1007 rfl rfl rfl rfl ty_string ty_s_uint8 ty_uint8) rfl ?_
 refine rn tk 7 rfl ?_
 refine wq (ev_buflen (l := a0) rfl rfl ty_s_uint8.u) rfl rfl rfl ?_
 refine rn tk 4 rfl ?_
 refine al1 hr (fun s1 => [(3, .hs 1007 0), (8, .hs 1007 0), (9, .i ((a0.length : Int))), (10, .i s1.1)]) (fun s1 => [(1007, .buf s1.2)]) (.exit 0) (fun b2 => [(3, .hs 1007 0)]) (fun b2 => [(1007, .buf b2)]) rfl rfl (fun s1 x3 hr => ?_) (fun b2 hr => ?_)
 ·
  unfold basic_Lower_l1 at hr
  refine rn tk 6 rfl ?_
  refine ac 11 hr rfl (fun c4 hr => ?_) (fun c4 hr => ?_)
  ·
   refine rn tk 2 rfl ?_
   refine jb hr (fun j5 => [(3, .hs 1007 0), (8, .hs 1007 0), (9, .i ((a0.length : Int))), (10, .i s1.1)]) (fun j5 => [(1007, .buf j5)]) (fun j5 hr => ?_) (fun j5 hr => ?_)
   ·
    refine rn tk 4 rfl ?_
    obtain ⟨v6, h7, hr⟩ := bind_some hr
    refine wq (ev_bufidx (l := s1.2) (n := s1.1) rfl rfl rfl ty_s_uint8 ty_uint8 h7) rfl rfl rfl ?_
    obtain ⟨v8, h9, hr⟩ := bind_some hr
    refine wq (ev_bufload (l := s1.2) (n := s1.1) rfl rfl ty_uint8 h9) rfl rfl rfl ?_
    refine rn tk 4 rfl ?_
    refine jb hr (fun j10 => [(3, .hs 1007 0), (4, .i s1.1), (5, .u8 v8), (8, .hs 1007 0), (9, .i ((a0.length : Int))), (10, .i s1.1), (20, .bo j10)]) (fun j10 => [(1007, .buf s1.2)]) (fun j10 hr => ?_) (fun j10 hr => ?_)
    ·
     refine rn tk 4 rfl ?_
     refine bs 17 hr rfl (fun c11 hr => ?_) (fun c11 hr => ?_)
     ·
      refine rn tk 4 rfl ?_
      cases hr
      exact jn _ rfl rfl rfl
     ·
      refine rn tk 4 rfl ?_
      cases hr
      exact jn _ rfl rfl rfl
    ·
     refine ac 20 hr rfl (fun c12 hr => ?_) (fun c12 hr => ?_)
     ·
      refine rn tk 4 rfl ?_
      refine wq (ev_u8add (a := v8) (b := (97 : UInt8)) rfl rfl) rfl rfl rfl ?_
      refine wq (ev_u8sub (a := ((v8 + (97 : UInt8)))) (b := (65 : UInt8)) rfl rfl) rfl rfl rfl ?_
      obtain ⟨v13, h14, hr⟩ := bind_some hr
      refine wq (ev_bufidx (l := s1.2) (n := s1.1) rfl rfl rfl ty_s_uint8 ty_uint8 h14) rfl rfl rfl ?_
      obtain ⟨v15, h16, hr⟩ := bind_some hr
      refine wo (opTo_bufstore (l := s1.2) (n := s1.1) (v := v15) (v' := (((v8 + (97 : UInt8)) - (65 : UInt8)))) rfl rfl rfl ty_uint8 h16) rfl ?_
      refine rn tk 2 rfl ?_
      cases hr
      exact jn _ rfl rfl rfl
     ·
      refine rn tk 2 rfl ?_
      cases hr
      exact jn _ rfl rfl rfl
   ·
    refine rn tk 4 rfl ?_
    cases hr
    exact atc rfl rfl
  ·
   refine rn tk 2 rfl ?_
   cases hr
   exact ato rfl rfl rfl rfl
 ·
  refine rn tk 5 rfl ?_
  refine wq (ev_buf2s (l := b2) rfl rfl ty_s_uint8 ty_uint8 ty_string) rfl rfl rfl ?_
  refine rn tk 4 rfl ?_
  cases hr
  exact kr tk (.inr rfl) rfl rfl
theorem basic_Same_run (a0 : Str) (a1 : Str) (r : Bool) (hr : basic_Same a0 a1 = some r) : Run Try.prog 66 [.s a0, .s a1] (.bo r) := by
 unfold basic_Same at hr
 refine rf (fn := Try.f66) ⟨Try.func66, rfl, by kernel_rfl⟩ rfl (fun _ => rfl) fun g0 hg => ?_
 refine rn tk 5 rfl ?_
 refine jb hr (fun j1 => [(4, .bo j1)]) (fun j1 => []) (fun j1 hr => ?_) (fun j1 hr => ?_)
 ·
  refine rn tk 7 rfl ?_
  refine bs 10 hr rfl (fun c2 hr => ?_) (fun c2 hr => ?_)
  ·
   refine rn tk 1 rfl ?_
   obtain ⟨v3, h4, hr⟩ := bind_some hr
   refine ug rfl rfl rfl ?_
   refine cl (basic_Lower_run _ _ h4) rfl rfl ?_
   refine rn tk 1 rfl ?_
   obtain ⟨v5, h6, hr⟩ := bind_some hr
   refine ug rfl rfl rfl ?_
   refine cl (basic_Lower_run _ _ h6) rfl rfl ?_
   refine rn tk 4 rfl ?_
   cases hr
   exact jn _ rfl rfl rfl
  ·
   refine rn tk 8 rfl ?_
   cases hr
   exact jn _ rfl rfl rfl
 ·
  refine rn tk 1 rfl ?_
  cases hr
  exact kr tk (.inr rfl) rfl rfl
theorem header_name_run (a0 : Str) (r : Bool) (hr : header_name a0 = some r) : Run Try.prog 90 [.s a0] (.bo r) := by
 unfold header_name at hr
 refine rf (fn := Try.f90) ⟨Try.func90, rfl, by kernel_rfl⟩ rfl (fun _ => rfl) fun g0 hg => ?_
 refine rn tk 8 rfl ?_
 obtain ⟨v1, h2, hr⟩ := bind_some hr
 refine cl (fold_Fold_run _ _ _ h2) rfl rfl ?_
 refine rn tk 11 rfl ?_
 obtain ⟨v3, h4, hr⟩ := bind_some hr
 refine cl (basic_Failed_run _ _ h4) rfl rfl ?_
 refine rn tk 5 rfl ?_
 cases hr
 exact kr tk (.inr rfl) rfl rfl
theorem header_valid_run (a0 : List TField) (a1 : Str) (r : TFault) (hr : header_valid a0 a1 = some r) : Run Try.prog 65 [.l TField.pc a0, .s a1] (.agg [.i r.Code, .i r.Index]) := by
 unfold header_valid at hr
 refine rf (fn := Try.f65) ⟨Try.func65, rfl, by kernel_rfl⟩ rfl (fun _ => rfl) fun g0 hg => ?_
 refine rn tk 9 rfl ?_
 obtain ⟨v1, h2, hr⟩ := bind_some hr
 refine cl (header_Validate_run _ _ h2) rfl rfl ?_
 refine rn tk 7 rfl ?_
 obtain ⟨v3, h4, hr⟩ := bind_some hr
 refine cl (basic_Failed_run _ _ h4) rfl rfl ?_
 refine rn tk 2 rfl ?_
 refine ac 9 hr rfl (fun c5 hr => ?_) (fun c5 hr => ?_)
 ·
  refine rn tk 8 rfl ?_
  cases hr
  exact kr tk (.inr rfl) rfl rfl
 ·
  refine rn tk 6 rfl ?_
  obtain ⟨v6, h7, hr⟩ := bind_some hr
  refine cl (header_name_run _ _ h7) rfl rfl ?_
  refine rn tk 3 rfl ?_
  refine ac 13 hr rfl (fun c8 hr => ?_) (fun c8 hr => ?_)
  ·
   refine rn tk 2 rfl ?_
   obtain ⟨v9, h10, hr⟩ := bind_some hr
   refine cl (basic_Fault_run _ _ _ h10) rfl rfl ?_
   refine rn tk 5 rfl ?_
   cases hr
   exact kr tk (.inr rfl) rfl rfl
  ·
   refine rn tk 4 rfl ?_
   obtain ⟨v11, h12, hr⟩ := bind_some hr
   refine cl (basic_None_run _ h12) rfl rfl ?_
   refine rn tk 4 rfl ?_
   cases hr
   exact kr tk (.inr rfl) rfl rfl
theorem header_Get_run (a0 : List TField) (a1 : Str) (r : (List Str) × TFault) (hr : header_Get a0 a1 = some r) : Run Try.prog 38 [.l TField.pc a0, .s a1] (.tup [.l cS r.1, .agg [.i r.2.Code, .i r.2.Index]]) := by
 unfold header_Get at hr
 refine rf (fn := Try.f38) ⟨Try.func38, rfl, by kernel_rfl⟩ rfl (fun _ => rfl) fun g0 hg => ?_
 refine rn tk 11 rfl ?_
 obtain ⟨v1, h2, hr⟩ := bind_some hr
 refine cl (header_valid_run _ _ _ h2) rfl rfl ?_
 refine rn tk 7 rfl ?_
 obtain ⟨v3, h4, hr⟩ := bind_some hr
 refine cl (basic_Failed_run _ _ h4) rfl rfl ?_
 refine rn tk 2 rfl ?_
 refine ac 14 hr rfl (fun c5 hr => ?_) (fun c5 hr => ?_)
 ·
  refine rn tk 1 rfl ?_
  refine dr 2 [(4, .pv (.sl (some true) [])), (15, .agg [.i v1.Code, .i v1.Index])] mixed (by kernel_rfl) rfl rfl (pq tk rfl (.plain rfl) (pq tk rfl (.plain rfl) .nil)) rfl ?_
  refine rn tk 5 rfl ?_
  cases hr
  exact kr tk (.inr rfl) rfl rfl
 ·
  refine rn tk 5 rfl ?_
  refine awpl_adopt 1007 (d := 7) 9 1 rfl rfl rfl (hO ?_)
  refine rn tk 6 rfl ?_
  refine wn tk rfl rfl rfl ?_
  refine rn tk 4 rfl ?_
  refine al1 hr (fun s6 => [(1, .s a1), (5, .ptr 5 0), (7, .hs 1007 0), (16, .l TField.pc a0), (17, .i ((a0.length : Int))), (18, .i s6.1)]) (fun s6 => [(1007, .row 9 false 1 (List.map cS s6.2)), (5, .cells [.i 0, .i 0])]) (.exit 0) (fun b7 => [(5, .ptr 5 0), (7, .hs 1007 0)]) (fun b7 => [(1007, .row 9 false 1 (List.map cS b7)), (5, .cells [.i 0, .i 0])]) rfl rfl (fun s6 x8 hr => ?_) (fun b7 hr => ?_)
  ·
   unfold header_Get_l1 at hr
   refine rn tk 6 rfl ?_
   refine ac 19 hr rfl (fun c9 hr => ?_) (fun c9 hr => ?_)
   ·
    refine rn tk 2 rfl ?_
    refine jb hr (fun j10 => [(1, .s a1), (5, .ptr 5 0), (7, .hs 1007 0), (16, .l TField.pc a0), (17, .i ((a0.length : Int))), (18, .i s6.1)]) (fun j10 => [(1007, .row 9 false 1 (List.map cS j10)), (5, .cells [.i 0, .i 0])]) (fun j10 hr => ?_) (fun j10 hr => ?_)
    ·
     refine rn tk 3 rfl ?_
     obtain ⟨v11, h12, hr⟩ := bind_some hr
     refine wi tk h12 rfl rfl rfl rfl rfl ?_
     refine rn tk 10 rfl ?_
     obtain ⟨v13, h14, hr⟩ := bind_some hr
     refine cl (basic_Same_run _ _ _ h14) rfl rfl ?_
     refine rn tk 2 rfl ?_
     refine ac 25 hr rfl (fun c15 hr => ?_) (fun c15 hr => ?_)
     ·
      refine rn tk 4 rfl ?_
      refine wz cS ([v11.Value] : List Str) tk rfl rfl (fun _ => rfl) rfl rfl rfl ?_
      obtain ⟨v16, h17, hr⟩ := bind_some hr
      refine wa tk h17 rfl rfl rfl rfl (fun _ => rfl) rfl rfl ?_
      refine rn tk 3 rfl ?_
      cases hr
      exact jn _ rfl rfl rfl
     ·
      refine rn tk 2 rfl ?_
      cases hr
      exact jn _ rfl rfl rfl
    ·
     refine rn tk 4 rfl ?_
     cases hr
     exact atc rfl rfl
   ·
    refine rn tk 2 rfl ?_
    cases hr
    exact ato rfl rfl rfl rfl
  ·
   refine rn tk 5 rfl ?_
   obtain ⟨v18, h19, hr⟩ := bind_some hr
   refine cl (basic_None_run _ h19) rfl rfl ?_
   refine rn tk 4 rfl ?_
   refine awp_pub (d := 4) (F := cS) (l := b7) rfl rfl (hC ?_)
   refine rn tk 1 rfl ?_
   cases hr
   exact kr tk (.inr rfl) rfl rfl
end Go.Proofs.Ytkoijpogjobgjaa

/- The law EnvelopesOfDomainsJoin holds for every input of bulk up to the given bound: it returns true and leaves its arguments as they were. Written by program. -/
import Derived.Test.YtfhfjckjmacekaaKEnvelopesOfDomainsJoin1
import Derived.Test.YtfhfjckjmacekaaShelf
set_option linter.unusedVariables false
set_option linter.unusedSimpArgs false
/- The law EnvelopesOfDomainsJoin in plain Lean. -/
namespace Go.Proofs.Ytfhfjckjmacekaa
open Go.RowKit
set_option linter.unusedVariables false
set_option maxHeartbeats 1000000

theorem recF_inv {l : List TRecipient} (h : (recF l).Code = 0) : (∀ r ∈ l, addrP r.Address = true ∧ noteP r.Notify = true) ∧ (l.map (·.Address)).Nodup := by
  have hz : firstI (recQ l) 0 l = none := by
    unfold recF at h
    cases hf : firstI (recQ l) 0 l with
    | none => rfl
    | some f =>
      exfalso
      rw [hf] at h
      obtain ⟨i, x, hx, hq⟩ := firstI_some hf
      unfold recQ at hq
      split at hq
      · cases hq; simp at h
      · split at hq
        · cases hq; simp at h
        · split at hq
          · cases hq; simp at h
          · cases hq
  rw [firstI_none] at hz
  have key : ∀ (i : Nat) r, l[i]? = some r → addrP r.Address = true ∧ noteP r.Notify = true ∧ (l.take i).any (fun x => x.Address == r.Address) = false := by
    intro i r hr
    have := hz i r hr
    rw [Nat.zero_add] at this
    unfold recQ at this
    cases h1 : addrP r.Address with
    | false => rw [h1] at this; simp at this
    | true =>
      cases h2 : noteP r.Notify with
      | false => rw [h1, h2] at this; simp at this
      | true =>
        cases h3 : (l.take i).any (fun x => x.Address == r.Address) with
        | true => rw [h1, h2, h3] at this; simp at this
        | false => exact ⟨rfl, rfl, rfl⟩
  refine ⟨fun r hr => ?_, ?_⟩
  · obtain ⟨i, hi⟩ := List.getElem?_of_mem hr
    exact ⟨(key i r hi).1, (key i r hi).2.1⟩
  · rw [List.Nodup, List.pairwise_iff_getElem]
    intro i j hi hj hij
    simp only [List.length_map] at hi hj
    simp only [List.getElem_map]
    have h3 := (key j l[j] (List.getElem?_eq_getElem hj)).2.2
    rw [List.any_eq_false] at h3
    have := h3 l[i] (List.mem_of_getElem? (i := i) (by rw [List.getElem?_take_of_lt hij]; exact List.getElem?_eq_getElem hi))
    simpa using this
theorem recF_of {l : List TRecipient} (h : ∀ r ∈ l, addrP r.Address = true ∧ noteP r.Notify = true) (hnd : (l.map (·.Address)).Nodup) : recF l = ⟨0, 0⟩ := by
  unfold recF
  have : firstI (recQ l) 0 l = none := by
    rw [firstI_none]
    intro i r hr
    obtain ⟨ha, hn⟩ := h r (List.mem_of_getElem? hr)
    have hu : (l.take (0 + i)).any (fun x => x.Address == r.Address) = false := by
      rw [Nat.zero_add, List.any_eq_false]
      intro y hy
      obtain ⟨j, hj⟩ := List.getElem?_of_mem hy
      have hji : j < i := by have := (List.getElem?_eq_some_iff.1 hj).1; simp at this; omega
      rw [List.getElem?_take_of_lt hji] at hj
      intro hc
      have hc : y.Address = r.Address := by simpa using hc
      have hlt := lt_get hr
      have hltj := lt_get hj
      rw [List.Nodup, List.pairwise_iff_getElem] at hnd
      refine hnd j i (by simpa using hltj) (by simpa using hlt) hji ?_
      simp only [List.getElem_map]
      rw [(List.getElem?_eq_some_iff.1 hj).2, (List.getElem?_eq_some_iff.1 hr).2, hc]
    unfold recQ
    rw [ha, hn, hu]; rfl
  rw [this]; rfl
theorem addr_unique {l : List TRecipient} (hnd : (l.map (·.Address)).Nodup) {x y : TRecipient} (hx : x ∈ l) (hy : y ∈ l) (h : x.Address = y.Address) : x = y := by
  obtain ⟨i, hi⟩ := List.getElem?_of_mem hx
  obtain ⟨j, hj⟩ := List.getElem?_of_mem hy
  have h1 := lt_get hi
  have h2 := lt_get hj
  have e1 := (List.getElem?_eq_some_iff.1 hi).2
  have e2 := (List.getElem?_eq_some_iff.1 hj).2
  rw [List.Nodup, List.pairwise_iff_getElem] at hnd
  rcases Nat.lt_trichotomy i j with hlt | heq | hgt
  · exfalso
    refine hnd i j (by simpa using h1) (by simpa using h2) hlt ?_
    simp only [List.getElem_map]; rw [e1, e2, h]
  · subst heq; rw [hi] at hj; cases hj; rfl
  · exfalso
    refine hnd j i (by simpa using h2) (by simpa using h1) hgt ?_
    simp only [List.getElem_map]; rw [e1, e2, h]

/-! ### domains -/
theorem doms_fold (l : List TRecipient) : ∀ acc : List Str, acc.Nodup → (l.foldl addD acc).Nodup ∧ ∀ d, d ∈ l.foldl addD acc ↔ d ∈ acc ∨ ∃ r ∈ l, domOf r.Address = d := by
  induction l with
  | nil => intro acc h; exact ⟨h, fun d => by simp⟩
  | cons r l ih =>
    intro acc h
    have ha : (addD acc r).Nodup := by
      unfold addD
      split
      · exact h
      · rename_i hc
        rw [List.nodup_append]
        exact ⟨h, by simp, fun a ha b hb => by simp at hb; subst hb; rintro rfl; simp at hc; exact hc ha⟩
    have hm : ∀ d, d ∈ addD acc r ↔ d ∈ acc ∨ domOf r.Address = d := by
      intro d
      unfold addD
      split
      · rename_i hc
        constructor
        · exact .inl
        · rintro (h1 | rfl)
          · exact h1
          · simpa using hc
      · simp [eq_comm]
    obtain ⟨q1, q2⟩ := ih (addD acc r) ha
    refine ⟨q1, fun d => ?_⟩
    rw [List.foldl_cons, q2, hm]
    simp [or_assoc]
theorem filter_two {α : Type} (p q : α → Bool) (l : List α) (h : ∀ x ∈ l, p x = true → q x = false) : (l.filter p).length + (l.filter q).length = (l.filter fun x => p x || q x).length := by
  induction l with
  | nil => rfl
  | cons x l ih =>
    have := ih (fun y hy => h y (by simp [hy]))
    have hx := h x (by simp)
    simp only [List.filter_cons]
    cases hp : p x with
    | true => rw [hx hp]; simp; omega
    | false => cases q x <;> simp <;> omega
def allP (l : List TRecipient) (ds : List Str) : List TRecipient := ds.flatMap fun d => l.filter (inDom d)
theorem allP_len (l : List TRecipient) : ∀ ds : List Str, ds.Nodup → (allP l ds).length = (l.filter fun r => ds.contains (domOf r.Address)).length := by
  intro ds
  induction ds with
  | nil =>
    intro _
    have : (l.filter fun r => ([] : List Str).contains (domOf r.Address)) = [] := List.filter_eq_nil_iff.2 (by simp)
    rw [this]; rfl
  | cons d ds ih =>
    intro hnd
    obtain ⟨h1, h2⟩ := List.nodup_cons.1 hnd
    have := ih h2
    unfold allP at this ⊢
    rw [List.flatMap_cons, List.length_append, this]
    rw [filter_two (inDom d) (fun r => ds.contains (domOf r.Address)) l (fun r _ hp => by
      have e : domOf r.Address = d := eq_of_beq hp
      rw [e]; simpa using h1)]
    have : (fun r : TRecipient => inDom d r || ds.contains (domOf r.Address)) = fun r => (d :: ds).contains (domOf r.Address) := by funext r; simp only [List.contains_cons, inDom]
    rw [this]
theorem flat_fold (l : List TRecipient) (ds : List Str) : ∀ o : List TRecipient, ds.foldl (fun o d => o ++ l.filter (inDom d)) o = o ++ allP l ds := by
  induction ds with
  | nil => intro o; simp [allP]
  | cons d ds ih => intro o; rw [List.foldl_cons, ih]; unfold allP; simp
theorem L_EnvelopesOfDomainsJoin_true (a0 : TEnvelope) (o0 : TEnvelope.ok a0) (hk : TEnvelope.bk a0 ≤ 1048576) : L_EnvelopesOfDomainsJoin a0 = some true := by
  have hs : smallE a0 := smallE_of (by omega)
  unfold L_EnvelopesOfDomainsJoin
  rw [envelope_Domains_eq _ hs, L_envelopes_eq]
  simp only [Option.bind_some, Bool.not_true, cond_false, cond_true]
  by_cases hc : (envF a0).Code = 0
  · have h0 : ((envF a0).Code != 0) = false := by simp [hc]
    unfold domsE
    rw [h0]
    simp only [Bool.false_eq_true, if_false]
    have e1 : ((0 : Int) != 0) = false := rfl
    rw [e1]
    simp only [cond_false]
    -- what is known of the envelope
    have hf := hc
    unfold envF at hf
    cases hf1 : fromB a0.From with
    | true => rw [hf1] at hf; simp at hf
    | false =>
    rw [hf1] at hf
    simp only [Bool.false_eq_true, if_false] at hf
    cases hf2 : (decide (a0.To.length < 1) || decide (60 < a0.To.length)) with
    | true => rw [hf2] at hf; simp at hf
    | false =>
    rw [hf2] at hf
    simp only [Bool.false_eq_true, if_false] at hf
    cases hf3 : (a0.Id != ([] : Str) && !nameP a0.Id) with
    | true => rw [hf3] at hf; simp at hf
    | false =>
    rw [hf3] at hf
    simp only [Bool.false_eq_true, if_false] at hf
    obtain ⟨g1, g2⟩ := recF_inv hf
    have h60 : 1 ≤ a0.To.length ∧ a0.To.length ≤ 60 := by
      rw [Bool.or_eq_false_iff, decide_eq_false_iff_not, decide_eq_false_iff_not] at hf2; omega
    have d1 : (domsP a0.To).Nodup := (doms_fold a0.To [] (by simp)).1
    have d2 : ∀ d, d ∈ domsP a0.To ↔ d ∈ ([] : List Str) ∨ ∃ r ∈ a0.To, domOf r.Address = d := (doms_fold a0.To [] (by simp)).2
    have hdl : (domsP a0.To).length ≤ 60 := by
      have : ∀ (l : List TRecipient) (acc : List Str), (l.foldl addD acc).length ≤ acc.length + l.length := by
        intro l
        induction l with
        | nil => intro acc; simp
        | cons r t ih => intro acc; have := ih (addD acc r); have := addD_len acc r; simp; omega
      have := this a0.To []
      unfold domsP; simp at this; omega
    have hsub : ∀ d, (a0.To.filter (inDom d)).length ≤ 60 := fun d => by
      have := List.length_filter_le (inDom d) a0.To; omega
    have hl := (iter_fold (domsP a0.To) (fun i (s : List TRecipient) => (i, s)) (fun o d => o ++ a0.To.filter (inDom d)) Sum.inl (fun i s => s.length ≤ 60 * i) (body := L_EnvelopesOfDomainsJoin_l1 a0 (domsP a0.To, ⟨0, 0⟩))
      (fun s _ => by unfold L_EnvelopesOfDomainsJoin_l1; simp [dec_len]) (fun i d o hd hi => by
        have hlt := lt_get hd
        have hdm : d ∈ domsP a0.To := List.mem_of_getElem? hd
        rw [d2] at hdm
        have hne : a0.To.filter (inDom d) ≠ [] := by
          rcases hdm with h | ⟨r, hr, hrd⟩
          · simp at h
          · intro hnil
            have : r ∈ a0.To.filter (inDom d) := List.mem_filter.2 ⟨hr, by unfold inDom; simpa using hrd⟩
            rw [hnil] at this; cases this
        have hs60 := hsub d
        have hpos := List.length_pos_iff.2 hne
        refine ⟨?_, by simp; omega⟩
        have hsE : smallE (⟨a0.From, a0.To.filter (inDom d), a0.Id⟩ : TEnvelope) := ⟨hs.1, hs.2.1, by show (a0.To.filter (inDom d)).length ≤ _; omega, fun r hr => hs.2.2.2 r (List.mem_filter.1 hr).1⟩
        have hrec : recF (a0.To.filter (inDom d)) = ⟨0, 0⟩ := recF_of (fun r hr => g1 r (List.mem_filter.1 hr).1) (g2.sublist (List.filter_sublist.map _))
        have henv : envF (⟨a0.From, a0.To.filter (inDom d), a0.Id⟩ : TEnvelope) = ⟨0, 0⟩ := by
          unfold envF
          dsimp only
          have e2 : (decide ((a0.To.filter (inDom d)).length < 1) || decide (60 < (a0.To.filter (inDom d)).length)) = false := by
            rw [Bool.or_eq_false_iff, decide_eq_false_iff_not, decide_eq_false_iff_not]; omega
          rw [hf1, e2, hf3, hrec]; rfl
        unfold L_EnvelopesOfDomainsJoin_l1
        dsimp only
        rw [dec_lt hd, idx_get hd]
        simp only [cond_true, Option.bind_some, envelope_For_eq a0 d hs]
        unfold forE
        rw [h0, if_neg hne]
        simp only [Bool.false_eq_true, if_false, e1, cond_false]
        rw [envelope_Validate_eq _ hsE, henv]
        have e3 : (!(allEq [((0 : Int) == 0), ((0 : Int) == 0)])) = false := by decide
        simp only [Option.bind_some, e3, cond_false]
        rw [app_ok (by omega)]
        simp only [Option.bind_some, sc i (by omega)]) [] (by simp)).1
    rw [hl, flat_fold]
    simp only [Option.bind_some, Sum.elim_inl, List.nil_append]
    have hlen : (allP a0.To (domsP a0.To)).length = a0.To.length := by
      have hfs : (a0.To.filter fun r => (domsP a0.To).contains (domOf r.Address)) = a0.To := List.filter_eq_self.2 (fun r hr => by
        have : domOf r.Address ∈ domsP a0.To := (d2 _).2 (.inr ⟨r, hr, rfl⟩)
        simpa using this)
      rw [allP_len _ _ d1, hfs]
    have e4 : (((allP a0.To (domsP a0.To)).length : Int) != (a0.To.length : Int)) = false := by rw [hlen]; simp
    rw [e4]
    simp only [cond_false]
    generalize hall : allP a0.To (domsP a0.To) = all at hlen ⊢
    have hmem : ∀ r, r ∈ all ↔ r ∈ a0.To := by
      intro r
      rw [← hall]
      unfold allP
      rw [List.mem_flatMap]
      constructor
      · rintro ⟨d, _, hr⟩; exact (List.mem_filter.1 hr).1
      · intro hr
        exact ⟨domOf r.Address, (d2 _).2 (.inr ⟨r, hr, rfl⟩), List.mem_filter.2 ⟨hr, by unfold inDom; simp⟩⟩
    rw [iter_first a0.To (fun _ _ => none) (.inl ()) .inr]
    · have : firstI (fun _ _ => (none : Option Bool)) 0 a0.To = none := by rw [firstI_none]; intro i x _; rfl
      simp only [Option.bind_some]
      rw [this]; rfl
    · unfold L_EnvelopesOfDomainsJoin_l2; rw [dec_len]; rfl
    · intro i r hr
      have hi := lt_get hr
      have hrm := List.mem_of_getElem? hr
      unfold L_EnvelopesOfDomainsJoin_l2
      rw [dec_lt hr, idx_get hr]
      simp only [cond_true, Option.bind_some]
      rw [R_Known_eq all r.Address (by omega)]
      have hk2 : ∃ (j : Nat) (x : TRecipient), (firstI (fun i x => if x.Address == r.Address then some ((i : Nat) : Int) else none) 0 all).getD (-1) = (j : Int) ∧ all[j]? = some x ∧ x.Address = r.Address := by
        cases hfi : firstI (fun i (x : TRecipient) => if x.Address == r.Address then some ((i : Nat) : Int) else none) 0 all with
        | none =>
          exfalso
          rw [firstI_none] at hfi
          obtain ⟨j, hj⟩ := List.getElem?_of_mem ((hmem r).2 hrm)
          have := hfi j r hj
          simp at this
        | some v =>
          obtain ⟨j, x, hj, hq⟩ := firstI_some hfi
          cases hxa : x.Address == r.Address with
          | false => rw [hxa] at hq; simp at hq
          | true =>
            rw [hxa] at hq
            simp at hq
            exact ⟨j, x, by simp [← hq], hj, eq_of_beq hxa⟩
      obtain ⟨j, x, hv, hj, hxa⟩ := hk2
      have hxr : x = r := addr_unique g2 ((hmem x).1 (List.mem_of_getElem? hj)) hrm hxa
      subst hxr
      rw [hv]
      simp only [Option.bind_some]
      rw [decide_eq_false (by omega), idx_get hj]
      simp only [cond_false, Option.bind_some, sc i (by omega)]
      simp [allEq]
  · have h0 : ((envF a0).Code != 0) = true := by simpa using hc
    unfold domsE
    rw [h0]
    simp only [if_true, h0, cond_true, Option.bind_some]
    rfl
end Go.Proofs.Ytfhfjckjmacekaa

namespace Go.Proofs.Ytfhfjckjmacekaa
open Go.RowKit
set_option maxRecDepth 100000
set_option maxHeartbeats 40000000
set_option linter.unusedVariables false
theorem R_At_run (a0 : Int) (a1 : Int) (r : TFault) (hr : R_At a0 a1 = some r) : Run Try.prog 16 [.i a0, .i a1] (.agg [.i r.Code, .i r.Index]) := by
 unfold R_At at hr
 refine rf (fn := Try.f16) ⟨Try.func16, rfl, by kernel_rfl⟩ rfl (fun _ => rfl) fun g0 hg => ?_
 refine rn tk 14 rfl ?_
 cases hr
 exact kr tk (.inr rfl) rfl rfl
theorem R_SameRecipients_run (a0 : List TRecipient) (a1 : List TRecipient) (r : Bool) (hr : R_SameRecipients a0 a1 = some r) : Run Try.prog 17 [.l TRecipient.pc a0, .l TRecipient.pc a1] (.bo r) := by
 unfold R_SameRecipients at hr
 refine rf (fn := Try.f17) ⟨Try.func17, rfl, by kernel_rfl⟩ rfl (fun _ => rfl) fun g0 hg => ?_
 refine rn tk 9 rfl ?_
 refine wn tk rfl rfl rfl ?_
 refine rn tk 1 rfl ?_
 refine wn tk rfl rfl rfl ?_
 refine rn tk 3 rfl ?_
 refine ac 10 hr rfl (fun c1 hr => ?_) (fun c1 hr => ?_)
 ·
  refine rn tk 7 rfl ?_
  cases hr
  exact kr tk (.inr rfl) rfl rfl
 ·
  refine rn tk 9 rfl ?_
  refine al2 hr (fun s2 => [(0, .l TRecipient.pc a0), (1, .l TRecipient.pc a1), (5, .i s2)]) (fun s2 => []) (.exit 0) (fun b3 => []) (fun b3 => []) .ret (fun b4 => [(4, .bo b4)]) (fun b4 => []) rfl rfl (fun s2 x6 hr => ?_) (fun b3 hr => ?_) (fun b4 hr => ?_)
  ·
   unfold R_SameRecipients_l1 at hr
   refine rn tk 5 rfl ?_
   refine wn tk rfl rfl rfl ?_
   refine rn tk 3 rfl ?_
   refine ac 14 hr rfl (fun c7 hr => ?_) (fun c7 hr => ?_)
   ·
    refine rn tk 5 rfl ?_
    obtain ⟨v8, h9, hr⟩ := bind_some hr
    obtain ⟨v10, h11, hr⟩ := bind_some hr
    refine dr 8 [(24, .agg [.s v10.Address, .i v10.Notify]), (23, .ep [pS v10.Address, pI v10.Notify]), (22, .i s2), (21, .l TRecipient.pc a1), (20, .agg [.s v8.Address, .i v8.Notify]), (19, .ep [pS v8.Address, pI v8.Notify]), (18, .i s2), (17, .l TRecipient.pc a0)] mixed (by kernel_rfl) rfl rfl (pq tk rfl (.plain rfl) (pq tk rfl (.plain rfl) (.run (.plain rfl) (opG_q (ev_idx (f := TRecipient.pc) rfl rfl ty_s_api_Recipient ty_api_Recipient rfl h9)) (pq tk rfl (.plain rfl) (pq tk rfl (.plain rfl) (pq tk rfl (.plain rfl) (.run (.plain rfl) (opG_q (ev_idx (f := TRecipient.pc) rfl rfl ty_s_api_Recipient ty_api_Recipient rfl h11)) (pq tk rfl (.plain rfl) .nil)))))))) rfl ?_
    refine wq (ev_structne rfl rfl ty_api_Recipient cmp_api_Recipient (.str rfl (by decide) ty_string (.int rfl (by decide) ty_int .nil))) rfl rfl rfl ?_
    refine rn tk 2 rfl ?_
    refine ac 25 hr rfl (fun c12 hr => ?_) (fun c12 hr => ?_)
    ·
     refine rn tk 8 rfl ?_
     cases hr
     exact ato rfl rfl rfl rfl
    ·
     refine rn tk 8 rfl ?_
     cases hr
     exact atc rfl rfl
   ·
    refine rn tk 2 rfl ?_
    cases hr
    exact ato rfl rfl rfl rfl
  ·
   refine rn tk 8 rfl ?_
   cases hr
   exact kr tk (.inr rfl) rfl rfl
  ·
   refine rn tk 2 rfl ?_
   cases hr
   exact kr tk (.inr rfl) rfl rfl
theorem R_Strings_run (a0 : List Str) (a1 : List Str) (r : Bool) (hr : R_Strings a0 a1 = some r) : Run Try.prog 15 [.l cS a0, .l cS a1] (.bo r) := by
 unfold R_Strings at hr
 refine rf (fn := Try.f15) ⟨Try.func15, rfl, by kernel_rfl⟩ rfl (fun _ => rfl) fun g0 hg => ?_
 refine rn tk 9 rfl ?_
 refine wn tk rfl rfl rfl ?_
 refine rn tk 1 rfl ?_
 refine wn tk rfl rfl rfl ?_
 refine rn tk 3 rfl ?_
 refine ac 10 hr rfl (fun c1 hr => ?_) (fun c1 hr => ?_)
 ·
  refine rn tk 7 rfl ?_
  cases hr
  exact kr tk (.inr rfl) rfl rfl
 ·
  refine rn tk 9 rfl ?_
  refine al2 hr (fun s2 => [(0, .l cS a0), (1, .l cS a1), (5, .i s2)]) (fun s2 => []) (.exit 0) (fun b3 => []) (fun b3 => []) .ret (fun b4 => [(4, .bo b4)]) (fun b4 => []) rfl rfl (fun s2 x6 hr => ?_) (fun b3 hr => ?_) (fun b4 hr => ?_)
  ·
   unfold R_Strings_l1 at hr
   refine rn tk 5 rfl ?_
   refine wn tk rfl rfl rfl ?_
   refine rn tk 3 rfl ?_
   refine ac 14 hr rfl (fun c7 hr => ?_) (fun c7 hr => ?_)
   ·
    refine rn tk 5 rfl ?_
    obtain ⟨v8, h9, hr⟩ := bind_some hr
    obtain ⟨v10, h11, hr⟩ := bind_some hr
    refine dr 8 [(24, .s v10), (23, .ep [pS v10]), (22, .i s2), (21, .l cS a1), (20, .s v8), (19, .ep [pS v8]), (18, .i s2), (17, .l cS a0)] mixed (by kernel_rfl) rfl rfl (pq tk rfl (.plain rfl) (pq tk rfl (.plain rfl) (.run (.plain rfl) (opG_q (ev_idx (f := cS) rfl rfl ty_s_string ty_string rfl h9)) (pq tk rfl (.plain rfl) (pq tk rfl (.plain rfl) (pq tk rfl (.plain rfl) (.run (.plain rfl) (opG_q (ev_idx (f := cS) rfl rfl ty_s_string ty_string rfl h11)) (pq tk rfl (.plain rfl) .nil)))))))) rfl ?_
    refine rn tk 3 rfl ?_
    refine ac 25 hr rfl (fun c12 hr => ?_) (fun c12 hr => ?_)
    ·
     refine rn tk 8 rfl ?_
     cases hr
     exact ato rfl rfl rfl rfl
    ·
     refine rn tk 8 rfl ?_
     cases hr
     exact atc rfl rfl
   ·
    refine rn tk 2 rfl ?_
    cases hr
    exact ato rfl rfl rfl rfl
  ·
   refine rn tk 8 rfl ?_
   cases hr
   exact kr tk (.inr rfl) rfl rfl
  ·
   refine rn tk 2 rfl ?_
   cases hr
   exact kr tk (.inr rfl) rfl rfl
theorem basic_Failed_run (a0 : TFault) (r : Bool) (hr : basic_Failed a0 = some r) : Run Try.prog 32 [.agg [.i a0.Code, .i a0.Index]] (.bo r) := by
 unfold basic_Failed at hr
 refine rf (fn := Try.f32) ⟨Try.func32, rfl, by kernel_rfl⟩ rfl (fun _ => rfl) fun g0 hg => ?_
 refine rn tk 15 rfl ?_
 cases hr
 exact kr tk (.inr rfl) rfl rfl
theorem basic_None_run  (r : TFault) (hr : basic_None = some r) : Run Try.prog 35 [] (.agg [.i r.Code, .i r.Index]) := by
 unfold basic_None at hr
 refine rf (fn := Try.f35) ⟨Try.func35, rfl, by kernel_rfl⟩ rfl (fun _ => rfl) fun g0 hg => ?_
 refine rn tk 12 rfl ?_
 cases hr
 exact kr tk (.inr rfl) rfl rfl
end Go.Proofs.Ytfhfjckjmacekaa

/- Library functions compute what their Lean functions do. -/
namespace Go.Proofs.Ytfhfjckjmacekaa
open Go.RowKit
set_option maxRecDepth 100000
theorem old_drewN (g : G) (q : Nat) : Old (fun _ => False) g ⟨g.w.drewN q, g.u, g.loc⟩ :=
  ⟨rfl, rfl, rfl, ⟨Nat.le_refl _, fun _ _ => Nat.le_refl _, fun _ _ _ _ => rfl, fun _ h => h⟩, fun _ _ _ => ⟨rfl, rfl⟩⟩
theorem str_arg {g : G} {s : Str} {v : Value} (h : Rel g (.s s) v) : v = .string (strB s) := rel_b h
theorem strings_IndexByte_run (s : Str) (c : UInt8) (r : Int) (hr : strings_IndexByte s c = some r) : Run Try.prog 59 [.s s, .u8 c] (.i r) := by
  unfold strings_IndexByte at hr
  cases hr
  refine ⟨⟨_, _, ⟨Try.func59, rfl, by kernel_rfl⟩⟩, fun g vs hw hg ha => ?_⟩
  obtain ⟨hsz, hrel⟩ := ha
  obtain ⟨l⟩ := vs
  match l, hsz with
  | [x, y], _ =>
    obtain rfl := str_arg (hrel 0 _ rfl)
    have e2 : y = .int .u8 (c.toNat : Int) := rel_b (hrel 1 _ rfl)
    subst e2
    refine callsIn_wide.2 ((Try.strings_IndexByte (strB s) (c.toNat : Int) g.w).mono ?_)
    rintro e w' ⟨rfl, rfl⟩
    refine ⟨g, _, rfl, rfl, Old.refl _ g, hw, rfl, ?_⟩
    simp [strB]
    exact .pv (.b rfl)
theorem strings_Contains_run (s t : Str) (r : Bool) (hr : strings_Contains s t = some r) : Run Try.prog 87 [.s s, .s t] (.bo r) := by
  unfold strings_Contains at hr
  split at hr
  case isFalse => cases hr
  rename_i hlen
  cases hr
  refine ⟨⟨_, _, ⟨Try.func87, rfl, by kernel_rfl⟩⟩, fun g vs hw hg ha => ?_⟩
  obtain ⟨hsz, hrel⟩ := ha
  obtain ⟨l⟩ := vs
  match l, hsz with
  | [x, y], _ =>
    obtain rfl := str_arg (hrel 0 _ rfl)
    obtain rfl := str_arg (hrel 1 _ rfl)
    obtain ⟨_, _, m, hm⟩ := hg (0, 0) (by simp [globs])
    refine callsIn_wide.2 ((Try.strings_Contains (strB s) (strB t) m g.w (by rw [strB_size]; exact hlen) hm).mono ?_)
    rintro e w' ⟨rfl, rfl⟩
    exact ⟨g, _, rfl, rfl, Old.refl _ g, hw, rfl, .pv (.b rfl)⟩
theorem strings_Cut_run (s t : Str) (r : Str × Str × Bool) (hr : strings_Cut s t = some r) : Run Try.prog 56 [.s s, .s t] (.tup [.s r.1, .s r.2.1, .bo r.2.2]) := by
  unfold strings_Cut at hr
  split at hr
  case isFalse => cases hr
  rename_i hlen
  cases hr
  refine ⟨⟨_, _, ⟨Try.func56, rfl, by kernel_rfl⟩⟩, fun g vs hw hg ha => ?_⟩
  obtain ⟨hsz, hrel⟩ := ha
  obtain ⟨l⟩ := vs
  match l, hsz with
  | [x, y], _ =>
    obtain rfl := str_arg (hrel 0 _ rfl)
    obtain rfl := str_arg (hrel 1 _ rfl)
    obtain ⟨_, _, m, hm⟩ := hg (0, 0) (by simp [globs])
    refine callsIn_wide.2 ((Try.strings_Cut (strB s) (strB t) m g.w (by rw [strB_size]; exact hlen) hm).mono ?_)
    rintro e w' ⟨rfl, q, rfl⟩
    refine ⟨⟨g.w.drewN q, g.u, g.loc⟩, _, rfl, rfl, old_drewN g q, hw, rfl, .tup rfl fun i c hi => ?_⟩
    match i, hi with
    | 0, rfl => exact .pv (.b rfl)
    | 1, rfl => exact .pv (.b rfl)
    | 2, rfl => exact .pv (.b rfl)
end Go.Proofs.Ytfhfjckjmacekaa

namespace Go.Proofs.Ytfhfjckjmacekaa
open Go.RowKit
set_option maxRecDepth 100000
set_option maxHeartbeats 40000000
set_option linter.unusedVariables false
theorem basic_Letter_run (a0 : UInt8) (r : Bool) (hr : basic_Letter a0 = some r) : Run Try.prog 58 [.u8 a0] (.bo r) := by
 unfold basic_Letter at hr
 refine rf (fn := Try.f58) ⟨Try.func58, rfl, by kernel_rfl⟩ rfl (fun _ => rfl) fun g0 hg => ?_
 refine rn tk 5 rfl ?_
 refine jb hr (fun j1 => [(2, .bo j1)]) (fun j1 => []) (fun j1 hr => ?_) (fun j1 hr => ?_)
 ·
  refine rn tk 4 rfl ?_
  refine bs 5 hr rfl (fun c2 hr => ?_) (fun c2 hr => ?_)
  ·
   refine rn tk 4 rfl ?_
   refine bs 9 hr rfl (fun c3 hr => ?_) (fun c3 hr => ?_)
   ·
    refine rn tk 17 rfl ?_
    cases hr
    exact jn _ rfl rfl rfl
   ·
    refine rn tk 3 rfl ?_
    refine bs 12 hr rfl (fun c4 hr => ?_) (fun c4 hr => ?_)
    ·
     refine rn tk 5 rfl ?_
     refine bs 17 hr rfl (fun c5 hr => ?_) (fun c5 hr => ?_)
     ·
      refine rn tk 9 rfl ?_
      cases hr
      exact jn _ rfl rfl rfl
     ·
      refine rn tk 3 rfl ?_
      refine bs 20 hr rfl (fun c6 hr => ?_) (fun c6 hr => ?_)
      ·
       refine rn tk 6 rfl ?_
       cases hr
       exact jn _ rfl rfl rfl
      ·
       refine rn tk 6 rfl ?_
       cases hr
       exact jn _ rfl rfl rfl
    ·
     refine rn tk 8 rfl ?_
     refine bs 20 hr rfl (fun c7 hr => ?_) (fun c7 hr => ?_)
     ·
      refine rn tk 6 rfl ?_
      cases hr
      exact jn _ rfl rfl rfl
     ·
      refine rn tk 6 rfl ?_
      cases hr
      exact jn _ rfl rfl rfl
  ·
   refine rn tk 7 rfl ?_
   refine bs 12 hr rfl (fun c8 hr => ?_) (fun c8 hr => ?_)
   ·
    refine rn tk 5 rfl ?_
    refine bs 17 hr rfl (fun c9 hr => ?_) (fun c9 hr => ?_)
    ·
     refine rn tk 9 rfl ?_
     cases hr
     exact jn _ rfl rfl rfl
    ·
     refine rn tk 3 rfl ?_
     refine bs 20 hr rfl (fun c10 hr => ?_) (fun c10 hr => ?_)
     ·
      refine rn tk 6 rfl ?_
      cases hr
      exact jn _ rfl rfl rfl
     ·
      refine rn tk 6 rfl ?_
      cases hr
      exact jn _ rfl rfl rfl
   ·
    refine rn tk 8 rfl ?_
    refine bs 20 hr rfl (fun c11 hr => ?_) (fun c11 hr => ?_)
    ·
     refine rn tk 6 rfl ?_
     cases hr
     exact jn _ rfl rfl rfl
    ·
     refine rn tk 6 rfl ?_
     cases hr
     exact jn _ rfl rfl rfl
 ·
  refine rn tk 1 rfl ?_
  cases hr
  exact kr tk (.inr rfl) rfl rfl
theorem internal_stringslite_HasPrefix_run (a0 : Str) (a1 : Str) (r : Bool) (hr : internal_stringslite_HasPrefix a0 a1 = some r) : Run Try.prog 102 [.s a0, .s a1] (.bo r) := by
 unfold internal_stringslite_HasPrefix at hr
 refine rf (fn := Try.f102) ⟨Try.func102, rfl, by kernel_rfl⟩ rfl (fun _ => rfl) fun g0 hg => ?_
 refine rn tk 5 rfl ?_
 refine jb hr (fun j1 => [(4, .bo j1)]) (fun j1 => []) (fun j1 hr => ?_) (fun j1 hr => ?_)
 ·
  refine rn tk 7 rfl ?_
  refine bs 10 hr rfl (fun c2 hr => ?_) (fun c2 hr => ?_)
  ·
   refine rn tk 3 rfl ?_
   obtain ⟨v3, h4, hr⟩ := bind_some hr
   refine ug rfl rfl rfl ?_
   refine wscH tk h4 rfl rfl rfl rfl ?_
   refine rn tk 5 rfl ?_
   cases hr
   exact jn _ rfl rfl rfl
  ·
   refine rn tk 9 rfl ?_
   cases hr
   exact jn _ rfl rfl rfl
 ·
  refine rn tk 1 rfl ?_
  cases hr
  exact kr tk (.inr rfl) rfl rfl
theorem strings_HasPrefix_run (a0 : Str) (a1 : Str) (r : Bool) (hr : strings_HasPrefix a0 a1 = some r) : Run Try.prog 85 [.s a0, .s a1] (.bo r) := by
 unfold strings_HasPrefix at hr
 refine rf (fn := Try.f85) ⟨Try.func85, rfl, by kernel_rfl⟩ rfl (fun _ => rfl) fun g0 hg => ?_
 refine rn tk 9 rfl ?_
 obtain ⟨v1, h2, hr⟩ := bind_some hr
 refine cl (internal_stringslite_HasPrefix_run _ _ _ h2) rfl rfl ?_
 refine rn tk 4 rfl ?_
 cases hr
 exact kr tk (.inr rfl) rfl rfl
theorem internal_stringslite_HasSuffix_run (a0 : Str) (a1 : Str) (r : Bool) (hr : internal_stringslite_HasSuffix a0 a1 = some r) : Run Try.prog 103 [.s a0, .s a1] (.bo r) := by
 unfold internal_stringslite_HasSuffix at hr
 refine rf (fn := Try.f103) ⟨Try.func103, rfl, by kernel_rfl⟩ rfl (fun _ => rfl) fun g0 hg => ?_
 refine rn tk 5 rfl ?_
 refine jb hr (fun j1 => [(4, .bo j1)]) (fun j1 => []) (fun j1 hr => ?_) (fun j1 hr => ?_)
 ·
  refine rn tk 7 rfl ?_
  refine bs 10 hr rfl (fun c2 hr => ?_) (fun c2 hr => ?_)
  ·
   refine rn tk 6 rfl ?_
   obtain ⟨v3, h4, hr⟩ := bind_some hr
   refine ug rfl rfl rfl ?_
   refine wscL tk h4 rfl rfl rfl rfl ?_
   refine rn tk 5 rfl ?_
   cases hr
   exact jn _ rfl rfl rfl
  ·
   refine rn tk 12 rfl ?_
   cases hr
   exact jn _ rfl rfl rfl
 ·
  refine rn tk 1 rfl ?_
  cases hr
  exact kr tk (.inr rfl) rfl rfl
theorem strings_HasSuffix_run (a0 : Str) (a1 : Str) (r : Bool) (hr : strings_HasSuffix a0 a1 = some r) : Run Try.prog 86 [.s a0, .s a1] (.bo r) := by
 unfold strings_HasSuffix at hr
 refine rf (fn := Try.f86) ⟨Try.func86, rfl, by kernel_rfl⟩ rfl (fun _ => rfl) fun g0 hg => ?_
 refine rn tk 9 rfl ?_
 obtain ⟨v1, h2, hr⟩ := bind_some hr
 refine cl (internal_stringslite_HasSuffix_run _ _ _ h2) rfl rfl ?_
 refine rn tk 4 rfl ?_
 cases hr
 exact kr tk (.inr rfl) rfl rfl
theorem envelope_Domain_run (a0 : Str) (r : Bool) (hr : envelope_Domain a0 = some r) : Run Try.prog 61 [.s a0] (.bo r) := by
 unfold envelope_Domain at hr
 refine rf (fn := Try.f61) ⟨Try.func61, rfl, by kernel_rfl⟩ rfl (fun _ => rfl) fun g0 hg => ?_
 refine rn tk 10 rfl ?_
 refine jb hr (fun j1 => [(2, .bo j1)]) (fun j1 => []) (fun j1 hr => ?_) (fun j1 hr => ?_)
 ·
  refine rn tk 4 rfl ?_
  refine bs 6 hr rfl (fun c2 hr => ?_) (fun c2 hr => ?_)
  ·
   refine rn tk 5 rfl ?_
   refine bs 11 hr rfl (fun c3 hr => ?_) (fun c3 hr => ?_)
   ·
    refine rn tk 2 rfl ?_
    refine ug rfl rfl rfl ?_
    refine ct hr (fun j4 => [(0, .s a0), (11, .bo true), (14, .bo j4)]) (fun j4 => []) (fun j4 hr jump4 => ?_) (fun j4 hr => ?_)
    ·
     refine il (fn := Try.f60) (args := [.s a0, .fn (.func 84) [] []]) 400000 499999 [(0, .s a0), (11, .bo true)] rfl ⟨Try.func60, rfl, by kernel_rfl⟩ rfl rfl rfl fun T4 ds4 => ?_
     refine rn tk 14 rfl ?_
     refine al2 hr (fun s5 => [(0, .s a0), (1, .fn (.func 84) [] []), (7, .i ((a0.length : Int))), (8, .i s5)]) (fun s5 => [(499999, .sus g0.w.heap.size ds4), (400000, .hold (.s a0) (T4.getD 0 undef)), (400011, .hold (.bo true) (T4.getD 11 undef))]) (.exit 0) (fun b6 => []) (fun b6 => [(499999, .sus g0.w.heap.size ds4), (400000, .hold (.s a0) (T4.getD 0 undef)), (400011, .hold (.bo true) (T4.getD 11 undef))]) .ret (fun b7 => [(4, .bo false)]) (fun b7 => [(499999, .sus g0.w.heap.size ds4), (400000, .hold (.s a0) (T4.getD 0 undef)), (400011, .hold (.bo true) (T4.getD 11 undef))]) rfl rfl (fun s5 x9 hr => ?_) (fun b6 hr => ?_) (fun b7 hr => ?_)
     ·
      unfold envelope_Domain_l1 at hr
      refine rn tk 6 rfl ?_
      refine ac 9 hr rfl (fun c10 hr => ?_) (fun c10 hr => ?_)
      ·
       refine rn tk 15 rfl ?_
       obtain ⟨v11, h12, hr⟩ := bind_some hr
       refine ws tk h12 rfl rfl rfl rfl ?_
       refine il (fn := Try.f84) (args := [.u8 v11]) 600000 699999 [(0, .s a0), (1, .fn (.func 84) [] []), (7, .i ((a0.length : Int))), (8, .i s5)] rfl ⟨Try.func84, rfl, by kernel_rfl⟩ rfl rfl rfl fun T6 ds6 => ?_
       refine rn tk 5 rfl ?_
       refine jb hr (fun j13 => [(2, .bo j13)]) (fun j13 => [(699999, .sus g0.w.heap.size ds6), (600000, .hold (.s a0) (T6.getD 0 undef)), (600001, .hold (.fn (.func 84) [] []) (T6.getD 1 undef)), (600007, .hold (.i ((a0.length : Int))) (T6.getD 7 undef)), (600008, .hold (.i s5) (T6.getD 8 undef)), (499999, .sus g0.w.heap.size ds4), (400000, .hold (.s a0) (T4.getD 0 undef)), (400011, .hold (.bo true) (T4.getD 11 undef))]) (fun j13 hr => ?_) (fun j13 hr => ?_)
       ·
        refine rn tk 4 rfl ?_
        refine bs 5 hr rfl (fun c14 hr => ?_) (fun c14 hr => ?_)
        ·
         refine rn tk 4 rfl ?_
         refine bs 9 hr rfl (fun c15 hr => ?_) (fun c15 hr => ?_)
         ·
          refine rn tk 17 rfl ?_
          cases hr
          exact jn _ rfl rfl rfl
         ·
          refine rn tk 3 rfl ?_
          refine bs 12 hr rfl (fun c16 hr => ?_) (fun c16 hr => ?_)
          ·
           refine rn tk 5 rfl ?_
           refine bs 17 hr rfl (fun c17 hr => ?_) (fun c17 hr => ?_)
           ·
            refine rn tk 9 rfl ?_
            cases hr
            exact jn _ rfl rfl rfl
           ·
            refine rn tk 4 rfl ?_
            refine bs 21 hr rfl (fun c18 hr => ?_) (fun c18 hr => ?_)
            ·
             refine rn tk 5 rfl ?_
             cases hr
             exact jn _ rfl rfl rfl
            ·
             refine rn tk 5 rfl ?_
             cases hr
             exact jn _ rfl rfl rfl
          ·
           refine rn tk 9 rfl ?_
           refine bs 21 hr rfl (fun c19 hr => ?_) (fun c19 hr => ?_)
           ·
            refine rn tk 5 rfl ?_
            cases hr
            exact jn _ rfl rfl rfl
           ·
            refine rn tk 5 rfl ?_
            cases hr
            exact jn _ rfl rfl rfl
        ·
         refine rn tk 7 rfl ?_
         refine bs 12 hr rfl (fun c20 hr => ?_) (fun c20 hr => ?_)
         ·
          refine rn tk 5 rfl ?_
          refine bs 17 hr rfl (fun c21 hr => ?_) (fun c21 hr => ?_)
          ·
           refine rn tk 9 rfl ?_
           cases hr
           exact jn _ rfl rfl rfl
          ·
           refine rn tk 4 rfl ?_
           refine bs 21 hr rfl (fun c22 hr => ?_) (fun c22 hr => ?_)
           ·
            refine rn tk 5 rfl ?_
            cases hr
            exact jn _ rfl rfl rfl
           ·
            refine rn tk 5 rfl ?_
            cases hr
            exact jn _ rfl rfl rfl
         ·
          refine rn tk 9 rfl ?_
          refine bs 21 hr rfl (fun c23 hr => ?_) (fun c23 hr => ?_)
          ·
           refine rn tk 5 rfl ?_
           cases hr
           exact jn _ rfl rfl rfl
          ·
           refine rn tk 5 rfl ?_
           cases hr
           exact jn _ rfl rfl rfl
       ·
        refine rn tk 1 rfl ?_
        refine ie tk [.bo j13] [(0, .s a0), (1, .fn (.func 84) [] []), (7, .i ((a0.length : Int))), (8, .i s5)] [(499999, .sus g0.w.heap.size ds4), (400000, .hold (.s a0) (T4.getD 0 undef)), (400011, .hold (.bo true) (T4.getD 11 undef))] (.inr rfl) rfl rfl rfl rfl (hO ?_)
        refine rn tk 3 rfl ?_
        refine ac 16 hr rfl (fun c24 hr => ?_) (fun c24 hr => ?_)
        ·
         refine rn tk 8 rfl ?_
         cases hr
         exact ato rfl rfl rfl rfl
        ·
         refine rn tk 7 rfl ?_
         cases hr
         exact atc rfl rfl
      ·
       refine rn tk 2 rfl ?_
       cases hr
       exact ato rfl rfl rfl rfl
     ·
      refine rn tk 8 rfl ?_
      refine ie tk [.bo true] [(0, .s a0), (11, .bo true)] [] (.inr rfl) rfl rfl rfl rfl ?_
      cases hr
      exact jump4 _ _ rfl rfl
     ·
      refine rn tk 2 rfl ?_
      refine ie tk [.bo false] [(0, .s a0), (11, .bo true)] [] (.inr rfl) rfl rfl rfl rfl ?_
      cases hr
      exact jump4 _ _ rfl rfl
    ·
     refine rn tk 2 rfl ?_
     refine bs 16 hr rfl (fun c25 hr => ?_) (fun c25 hr => ?_)
     ·
      refine rn tk 1 rfl ?_
      obtain ⟨v26, h27, hr⟩ := bind_some hr
      refine ug rfl rfl rfl ?_
      refine cl (strings_HasPrefix_run _ _ _ h27) rfl rfl ?_
      refine rn tk 3 rfl ?_
      refine bs 21 hr rfl (fun c28 hr => ?_) (fun c28 hr => ?_)
      ·
       refine rn tk 1 rfl ?_
       obtain ⟨v29, h30, hr⟩ := bind_some hr
       refine ug rfl rfl rfl ?_
       refine cl (strings_HasSuffix_run _ _ _ h30) rfl rfl ?_
       refine rn tk 3 rfl ?_
       refine bs 26 hr rfl (fun c31 hr => ?_) (fun c31 hr => ?_)
       ·
        refine rn tk 1 rfl ?_
        obtain ⟨v32, h33, hr⟩ := bind_some hr
        refine ug rfl rfl rfl ?_
        refine cl (strings_Contains_run _ _ _ h33) rfl rfl ?_
        refine rn tk 4 rfl ?_
        cases hr
        exact jn _ rfl rfl rfl
       ·
        refine rn tk 6 rfl ?_
        cases hr
        exact jn _ rfl rfl rfl
      ·
       refine rn tk 11 rfl ?_
       cases hr
       exact jn _ rfl rfl rfl
     ·
      refine rn tk 16 rfl ?_
      cases hr
      exact jn _ rfl rfl rfl
   ·
    refine rn tk 21 rfl ?_
    cases hr
    exact jn _ rfl rfl rfl
  ·
   refine rn tk 26 rfl ?_
   cases hr
   exact jn _ rfl rfl rfl
 ·
  refine rn tk 1 rfl ?_
  cases hr
  exact kr tk (.inr rfl) rfl rfl
theorem envelope_Split_run (a0 : Str) (r : Str × Str × Bool) (hr : envelope_Split a0 = some r) : Run Try.prog 33 [.s a0] (.tup [.s r.1, .s r.2.1, .bo r.2.2]) := by
 unfold envelope_Split at hr
 refine rf (fn := Try.f33) ⟨Try.func33, rfl, by kernel_rfl⟩ rfl (fun _ => rfl) fun g0 hg => ?_
 refine rn tk 10 rfl ?_
 obtain ⟨v1, h2, hr⟩ := bind_some hr
 refine cl (strings_Cut_run _ _ _ h2) rfl rfl ?_
 refine rn tk 14 rfl ?_
 refine jb hr (fun j3 => [(2, .s v1.1), (3, .s v1.2.1), (4, .bo j3)]) (fun j3 => []) (fun j3 hr => ?_) (fun j3 hr => ?_)
 ·
  refine rn tk 5 rfl ?_
  refine bs 15 hr rfl (fun c4 hr => ?_) (fun c4 hr => ?_)
  ·
   refine rn tk 4 rfl ?_
   refine bs 19 hr rfl (fun c5 hr => ?_) (fun c5 hr => ?_)
   ·
    refine rn tk 5 rfl ?_
    refine bs 24 hr rfl (fun c6 hr => ?_) (fun c6 hr => ?_)
    ·
     refine rn tk 2 rfl ?_
     refine ug rfl rfl rfl ?_
     refine ct hr (fun j7 => [(3, .s v1.2.1), (12, .s v1.1), (13, .s v1.2.1), (24, .bo true), (27, .bo j7)]) (fun j7 => []) (fun j7 hr jump4 => ?_) (fun j7 hr => ?_)
     ·
      refine il (fn := Try.f60) (args := [.s v1.1, .fn (.func 57) [] []]) 400000 499999 [(3, .s v1.2.1), (12, .s v1.1), (13, .s v1.2.1), (24, .bo true)] rfl ⟨Try.func60, rfl, by kernel_rfl⟩ rfl rfl rfl fun T4 ds4 => ?_
      refine rn tk 14 rfl ?_
      refine al2 hr (fun s8 => [(0, .s v1.1), (1, .fn (.func 57) [] []), (7, .i ((v1.1.length : Int))), (8, .i s8)]) (fun s8 => [(499999, .sus g0.w.heap.size ds4), (400003, .hold (.s v1.2.1) (T4.getD 3 undef)), (400012, .hold (.s v1.1) (T4.getD 12 undef)), (400013, .hold (.s v1.2.1) (T4.getD 13 undef)), (400024, .hold (.bo true) (T4.getD 24 undef))]) (.exit 0) (fun b9 => []) (fun b9 => [(499999, .sus g0.w.heap.size ds4), (400003, .hold (.s v1.2.1) (T4.getD 3 undef)), (400012, .hold (.s v1.1) (T4.getD 12 undef)), (400013, .hold (.s v1.2.1) (T4.getD 13 undef)), (400024, .hold (.bo true) (T4.getD 24 undef))]) .ret (fun b10 => [(4, .bo false)]) (fun b10 => [(499999, .sus g0.w.heap.size ds4), (400003, .hold (.s v1.2.1) (T4.getD 3 undef)), (400012, .hold (.s v1.1) (T4.getD 12 undef)), (400013, .hold (.s v1.2.1) (T4.getD 13 undef)), (400024, .hold (.bo true) (T4.getD 24 undef))]) rfl rfl (fun s8 x12 hr => ?_) (fun b9 hr => ?_) (fun b10 hr => ?_)
      ·
       unfold envelope_Split_l1 at hr
       refine rn tk 6 rfl ?_
       refine ac 9 hr rfl (fun c13 hr => ?_) (fun c13 hr => ?_)
       ·
        refine rn tk 15 rfl ?_
        obtain ⟨v14, h15, hr⟩ := bind_some hr
        refine ws tk h15 rfl rfl rfl rfl ?_
        refine il (fn := Try.f57) (args := [.u8 v14]) 600000 699999 [(0, .s v1.1), (1, .fn (.func 57) [] []), (7, .i ((v1.1.length : Int))), (8, .i s8)] rfl ⟨Try.func57, rfl, by kernel_rfl⟩ rfl rfl rfl fun T6 ds6 => ?_
        refine rn tk 5 rfl ?_
        refine jb hr (fun j16 => [(2, .bo j16)]) (fun j16 => [(699999, .sus g0.w.heap.size ds6), (600000, .hold (.s v1.1) (T6.getD 0 undef)), (600001, .hold (.fn (.func 57) [] []) (T6.getD 1 undef)), (600007, .hold (.i ((v1.1.length : Int))) (T6.getD 7 undef)), (600008, .hold (.i s8) (T6.getD 8 undef)), (499999, .sus g0.w.heap.size ds4), (400003, .hold (.s v1.2.1) (T4.getD 3 undef)), (400012, .hold (.s v1.1) (T4.getD 12 undef)), (400013, .hold (.s v1.2.1) (T4.getD 13 undef)), (400024, .hold (.bo true) (T4.getD 24 undef))]) (fun j16 hr => ?_) (fun j16 hr => ?_)
        ·
         refine rn tk 2 rfl ?_
         obtain ⟨v17, h18, hr⟩ := bind_some hr
         refine cl (basic_Letter_run _ _ h18) rfl rfl ?_
         refine rn tk 1 rfl ?_
         refine bs 5 hr rfl (fun c19 hr => ?_) (fun c19 hr => ?_)
         ·
          refine rn tk 6 rfl ?_
          cases hr
          exact jn _ rfl rfl rfl
         ·
          refine rn tk 1 rfl ?_
          obtain ⟨v20, h21, hr⟩ := bind_some hr
          refine ug rfl rfl rfl ?_
          refine cl (strings_IndexByte_run _ _ _ h21) rfl rfl ?_
          refine rn tk 4 rfl ?_
          cases hr
          exact jn _ rfl rfl rfl
        ·
         refine rn tk 1 rfl ?_
         refine ie tk [.bo j16] [(0, .s v1.1), (1, .fn (.func 57) [] []), (7, .i ((v1.1.length : Int))), (8, .i s8)] [(499999, .sus g0.w.heap.size ds4), (400003, .hold (.s v1.2.1) (T4.getD 3 undef)), (400012, .hold (.s v1.1) (T4.getD 12 undef)), (400013, .hold (.s v1.2.1) (T4.getD 13 undef)), (400024, .hold (.bo true) (T4.getD 24 undef))] (.inr rfl) rfl rfl rfl rfl (hO ?_)
         refine rn tk 3 rfl ?_
         refine ac 16 hr rfl (fun c22 hr => ?_) (fun c22 hr => ?_)
         ·
          refine rn tk 8 rfl ?_
          cases hr
          exact ato rfl rfl rfl rfl
         ·
          refine rn tk 7 rfl ?_
          cases hr
          exact atc rfl rfl
       ·
        refine rn tk 2 rfl ?_
        cases hr
        exact ato rfl rfl rfl rfl
      ·
       refine rn tk 8 rfl ?_
       refine ie tk [.bo true] [(3, .s v1.2.1), (12, .s v1.1), (13, .s v1.2.1), (24, .bo true)] [] (.inr rfl) rfl rfl rfl rfl ?_
       cases hr
       exact jump4 _ _ rfl rfl
      ·
       refine rn tk 2 rfl ?_
       refine ie tk [.bo false] [(3, .s v1.2.1), (12, .s v1.1), (13, .s v1.2.1), (24, .bo true)] [] (.inr rfl) rfl rfl rfl rfl ?_
       cases hr
       exact jump4 _ _ rfl rfl
     ·
      refine rn tk 2 rfl ?_
      refine bs 29 hr rfl (fun c23 hr => ?_) (fun c23 hr => ?_)
      ·
       refine rn tk 1 rfl ?_
       obtain ⟨v24, h25, hr⟩ := bind_some hr
       refine ug rfl rfl rfl ?_
       refine cl (envelope_Domain_run _ _ h25) rfl rfl ?_
       refine rn tk 5 rfl ?_
       cases hr
       exact jn _ rfl rfl rfl
      ·
       refine rn tk 7 rfl ?_
       cases hr
       exact jn _ rfl rfl rfl
    ·
     refine rn tk 12 rfl ?_
     cases hr
     exact jn _ rfl rfl rfl
   ·
    refine rn tk 17 rfl ?_
    cases hr
    exact jn _ rfl rfl rfl
  ·
   refine rn tk 21 rfl ?_
   cases hr
   exact jn _ rfl rfl rfl
 ·
  refine rn tk 1 rfl ?_
  cases hr
  exact kr tk (.inr rfl) rfl rfl
theorem basic_Fault_run (a0 : Int) (a1 : Int) (r : TFault) (hr : basic_Fault a0 a1 = some r) : Run Try.prog 39 [.i a0, .i a1] (.agg [.i r.Code, .i r.Index]) := by
 unfold basic_Fault at hr
 refine rf (fn := Try.f39) ⟨Try.func39, rfl, by kernel_rfl⟩ rfl (fun _ => rfl) fun g0 hg => ?_
 refine rn tk 14 rfl ?_
 cases hr
 exact kr tk (.inr rfl) rfl rfl
theorem basic_Name_run (a0 : Str) (r : Bool) (hr : basic_Name a0 = some r) : Run Try.prog 46 [.s a0] (.bo r) := by
 unfold basic_Name at hr
 refine rf (fn := Try.f46) ⟨Try.func46, rfl, by kernel_rfl⟩ rfl (fun _ => rfl) fun g0 hg => ?_
 refine rn tk 5 rfl ?_
 refine jb hr (fun j1 => [(2, .bo j1)]) (fun j1 => []) (fun j1 hr => ?_) (fun j1 hr => ?_)
 ·
  refine rn tk 4 rfl ?_
  refine bs 5 hr rfl (fun c2 hr => ?_) (fun c2 hr => ?_)
  ·
   refine rn tk 5 rfl ?_
   refine bs 10 hr rfl (fun c3 hr => ?_) (fun c3 hr => ?_)
   ·
    refine rn tk 1 rfl ?_
    refine ug rfl rfl rfl ?_
    refine ct hr (fun j4 => [(10, .bo true), (12, .bo j4)]) (fun j4 => []) (fun j4 hr jump4 => ?_) (fun j4 hr => ?_)
    ·
     refine il (fn := Try.f60) (args := [.s a0, .fn (.func 64) [] []]) 400000 499999 [(10, .bo true)] rfl ⟨Try.func60, rfl, by kernel_rfl⟩ rfl rfl rfl fun T4 ds4 => ?_
     refine rn tk 14 rfl ?_
     refine al2 hr (fun s5 => [(0, .s a0), (1, .fn (.func 64) [] []), (7, .i ((a0.length : Int))), (8, .i s5)]) (fun s5 => [(499999, .sus g0.w.heap.size ds4), (400010, .hold (.bo true) (T4.getD 10 undef))]) (.exit 0) (fun b6 => []) (fun b6 => [(499999, .sus g0.w.heap.size ds4), (400010, .hold (.bo true) (T4.getD 10 undef))]) .ret (fun b7 => [(4, .bo false)]) (fun b7 => [(499999, .sus g0.w.heap.size ds4), (400010, .hold (.bo true) (T4.getD 10 undef))]) rfl rfl (fun s5 x9 hr => ?_) (fun b6 hr => ?_) (fun b7 hr => ?_)
     ·
      unfold basic_Name_l1 at hr
      refine rn tk 6 rfl ?_
      refine ac 9 hr rfl (fun c10 hr => ?_) (fun c10 hr => ?_)
      ·
       refine rn tk 15 rfl ?_
       obtain ⟨v11, h12, hr⟩ := bind_some hr
       refine ws tk h12 rfl rfl rfl rfl ?_
       refine il (fn := Try.f64) (args := [.u8 v11]) 600000 699999 [(0, .s a0), (1, .fn (.func 64) [] []), (7, .i ((a0.length : Int))), (8, .i s5)] rfl ⟨Try.func64, rfl, by kernel_rfl⟩ rfl rfl rfl fun T6 ds6 => ?_
       refine rn tk 5 rfl ?_
       refine jb hr (fun j13 => [(2, .bo j13)]) (fun j13 => [(699999, .sus g0.w.heap.size ds6), (600000, .hold (.s a0) (T6.getD 0 undef)), (600001, .hold (.fn (.func 64) [] []) (T6.getD 1 undef)), (600007, .hold (.i ((a0.length : Int))) (T6.getD 7 undef)), (600008, .hold (.i s5) (T6.getD 8 undef)), (499999, .sus g0.w.heap.size ds4), (400010, .hold (.bo true) (T4.getD 10 undef))]) (fun j13 hr => ?_) (fun j13 hr => ?_)
       ·
        refine rn tk 2 rfl ?_
        obtain ⟨v14, h15, hr⟩ := bind_some hr
        refine cl (basic_Letter_run _ _ h15) rfl rfl ?_
        refine rn tk 1 rfl ?_
        refine bs 5 hr rfl (fun c16 hr => ?_) (fun c16 hr => ?_)
        ·
         refine rn tk 13 rfl ?_
         cases hr
         exact jn _ rfl rfl rfl
        ·
         refine rn tk 4 rfl ?_
         refine bs 9 hr rfl (fun c17 hr => ?_) (fun c17 hr => ?_)
         ·
          refine rn tk 9 rfl ?_
          cases hr
          exact jn _ rfl rfl rfl
         ·
          refine rn tk 4 rfl ?_
          refine bs 13 hr rfl (fun c18 hr => ?_) (fun c18 hr => ?_)
          ·
           refine rn tk 5 rfl ?_
           cases hr
           exact jn _ rfl rfl rfl
          ·
           refine rn tk 5 rfl ?_
           cases hr
           exact jn _ rfl rfl rfl
       ·
        refine rn tk 1 rfl ?_
        refine ie tk [.bo j13] [(0, .s a0), (1, .fn (.func 64) [] []), (7, .i ((a0.length : Int))), (8, .i s5)] [(499999, .sus g0.w.heap.size ds4), (400010, .hold (.bo true) (T4.getD 10 undef))] (.inr rfl) rfl rfl rfl rfl (hO ?_)
        refine rn tk 3 rfl ?_
        refine ac 16 hr rfl (fun c19 hr => ?_) (fun c19 hr => ?_)
        ·
         refine rn tk 8 rfl ?_
         cases hr
         exact ato rfl rfl rfl rfl
        ·
         refine rn tk 7 rfl ?_
         cases hr
         exact atc rfl rfl
      ·
       refine rn tk 2 rfl ?_
       cases hr
       exact ato rfl rfl rfl rfl
     ·
      refine rn tk 8 rfl ?_
      refine ie tk [.bo true] [(10, .bo true)] [] (.inr rfl) rfl rfl rfl rfl ?_
      cases hr
      exact jump4 _ _ rfl rfl
     ·
      refine rn tk 2 rfl ?_
      refine ie tk [.bo false] [(10, .bo true)] [] (.inr rfl) rfl rfl rfl rfl ?_
      cases hr
      exact jump4 _ _ rfl rfl
    ·
     refine rn tk 3 rfl ?_
     cases hr
     exact jn _ rfl rfl rfl
   ·
    refine rn tk 5 rfl ?_
    cases hr
    exact jn _ rfl rfl rfl
  ·
   refine rn tk 10 rfl ?_
   cases hr
   exact jn _ rfl rfl rfl
 ·
  refine rn tk 1 rfl ?_
  cases hr
  exact kr tk (.inr rfl) rfl rfl
theorem envelope_Address_run (a0 : Str) (r : Bool) (hr : envelope_Address a0 = some r) : Run Try.prog 41 [.s a0] (.bo r) := by
 unfold envelope_Address at hr
 refine rf (fn := Try.f41) ⟨Try.func41, rfl, by kernel_rfl⟩ rfl (fun _ => rfl) fun g0 hg => ?_
 refine rn tk 8 rfl ?_
 obtain ⟨v1, h2, hr⟩ := bind_some hr
 refine cl (envelope_Split_run _ _ h2) rfl rfl ?_
 refine rn tk 16 rfl ?_
 cases hr
 exact kr tk (.inr rfl) rfl rfl
theorem envelope_Notify_run (a0 : Int) (r : Bool) (hr : envelope_Notify a0 = some r) : Run Try.prog 42 [.i a0] (.bo r) := by
 unfold envelope_Notify at hr
 refine rf (fn := Try.f42) ⟨Try.func42, rfl, by kernel_rfl⟩ rfl (fun _ => rfl) fun g0 hg => ?_
 refine rn tk 5 rfl ?_
 refine jb hr (fun j1 => [(2, .bo j1)]) (fun j1 => []) (fun j1 hr => ?_) (fun j1 hr => ?_)
 ·
  refine rn tk 4 rfl ?_
  refine bs 5 hr rfl (fun c2 hr => ?_) (fun c2 hr => ?_)
  ·
   refine rn tk 5 rfl ?_
   cases hr
   exact jn _ rfl rfl rfl
  ·
   refine rn tk 5 rfl ?_
   cases hr
   exact jn _ rfl rfl rfl
 ·
  refine rn tk 1 rfl ?_
  cases hr
  exact kr tk (.inr rfl) rfl rfl
theorem envelope_Recipients_run (a0 : List TRecipient) (r : TFault) (hr : envelope_Recipients a0 = some r) : Run Try.prog 47 [.l TRecipient.pc a0] (.agg [.i r.Code, .i r.Index]) := by
 unfold envelope_Recipients at hr
 refine rf (fn := Try.f47) ⟨Try.func47, rfl, by kernel_rfl⟩ rfl (fun _ => rfl) fun g0 hg => ?_
 refine rn tk 9 rfl ?_
 refine wn tk rfl rfl rfl ?_
 refine rn tk 4 rfl ?_
 refine al2 hr (fun s1 => [(0, .l TRecipient.pc a0), (2, .ptr 2 0), (5, .l TRecipient.pc a0), (6, .i ((a0.length : Int))), (7, .i s1)]) (fun s1 => [(2, .cells [.i 0, .i 0])]) (.exit 0) (fun b2 => [(2, .ptr 2 0)]) (fun b2 => [(2, .cells [.i 0, .i 0])]) .ret (fun b3 => [(2, .ptr 2 0)]) (fun b3 => [(2, .cells [.i b3.Code, .i b3.Index])]) rfl rfl (fun s1 x5 hr => ?_) (fun b2 hr => ?_) (fun b3 hr => ?_)
 ·
  unfold envelope_Recipients_l1 at hr
  refine rn tk 6 rfl ?_
  refine ac 8 hr rfl (fun c6 hr => ?_) (fun c6 hr => ?_)
  ·
   refine rn tk 7 rfl ?_
   obtain ⟨v7, h8, hr⟩ := bind_some hr
   refine wi tk h8 rfl rfl rfl rfl rfl ?_
   refine rn tk 11 rfl ?_
   obtain ⟨v9, h10, hr⟩ := bind_some hr
   refine cl (envelope_Address_run _ _ h10) rfl rfl ?_
   refine rn tk 4 rfl ?_
   refine ac 12 hr rfl (fun c11 hr => ?_) (fun c11 hr => ?_)
   ·
    refine rn tk 3 rfl ?_
    obtain ⟨v12, h13, hr⟩ := bind_some hr
    refine cl (basic_Fault_run _ _ _ h13) rfl rfl ?_
    refine rn tk 7 rfl ?_
    cases hr
    exact ato rfl rfl rfl rfl
   ·
    refine rn tk 4 rfl ?_
    obtain ⟨v14, h15, hr⟩ := bind_some hr
    refine cl (envelope_Notify_run _ _ h15) rfl rfl ?_
    refine rn tk 4 rfl ?_
    refine ac 19 hr rfl (fun c16 hr => ?_) (fun c16 hr => ?_)
    ·
     refine rn tk 3 rfl ?_
     obtain ⟨v17, h18, hr⟩ := bind_some hr
     refine cl (basic_Fault_run _ _ _ h18) rfl rfl ?_
     refine rn tk 7 rfl ?_
     cases hr
     exact ato rfl rfl rfl rfl
    ·
     refine rn tk 4 rfl ?_
     obtain ⟨v19, h20, hr⟩ := bind_some hr
     refine wlH tk h20 rfl rfl rfl (fun _ => rfl) rfl ?_
     refine rn tk 1 rfl ?_
     refine il (fn := Try.f65) (args := [.l TRecipient.pc v19, .fn (.func 66) [] [.ptr 4 0]]) 500000 599999 [(0, .l TRecipient.pc a0), (2, .ptr 2 0), (3, .i s1), (5, .l TRecipient.pc a0), (6, .i ((a0.length : Int))), (7, .i s1)] rfl ⟨Try.func65, rfl, by kernel_rfl⟩ rfl rfl rfl fun T5 ds5 => ?_
     refine rn tk 9 rfl ?_
     refine ct hr (fun j21 => [(7, .i j21)]) (fun j21 => [(599999, .sus g0.w.heap.size ds5), (500000, .hold (.l TRecipient.pc a0) (T5.getD 0 undef)), (500002, .hold (.ptr 2 0) (T5.getD 2 undef)), (500005, .hold (.l TRecipient.pc a0) (T5.getD 5 undef)), (500006, .hold (.i ((a0.length : Int))) (T5.getD 6 undef)), (500007, .hold (.i s1) (T5.getD 7 undef)), (500003, .hold (.i s1) (T5.getD 3 undef)), (2, .cells [.i 0, .i 0])]) (fun j21 hr jump6 => ?_) (fun j21 hr => ?_)
     ·
      refine il (fn := Try.f63) (args := [.l TRecipient.pc v19, .fn (.func 66) [] [.ptr 4 0]]) 600000 699999 [] rfl ⟨Try.func63, rfl, by kernel_rfl⟩ rfl rfl rfl fun T6 ds6 => ?_
      refine rn tk 9 rfl ?_
      refine wn tk rfl rfl rfl ?_
      refine rn tk 4 rfl ?_
      refine al2 hr (fun s22 => [(0, .l TRecipient.pc v19), (1, .fn (.func 66) [] [.ptr 4 0]), (7, .i ((v19.length : Int))), (8, .i s22)]) (fun s22 => [(699999, .sus g0.w.heap.size ds6), (599999, .sus g0.w.heap.size ds5), (500000, .hold (.l TRecipient.pc a0) (T5.getD 0 undef)), (500002, .hold (.ptr 2 0) (T5.getD 2 undef)), (500005, .hold (.l TRecipient.pc a0) (T5.getD 5 undef)), (500006, .hold (.i ((a0.length : Int))) (T5.getD 6 undef)), (500007, .hold (.i s1) (T5.getD 7 undef)), (500003, .hold (.i s1) (T5.getD 3 undef)), (4, .cells [.s v7.Address, .i v7.Notify]), (2, .cells [.i 0, .i 0])]) (.exit 0) (fun b23 => []) (fun b23 => [(699999, .sus g0.w.heap.size ds6), (599999, .sus g0.w.heap.size ds5), (500000, .hold (.l TRecipient.pc a0) (T5.getD 0 undef)), (500002, .hold (.ptr 2 0) (T5.getD 2 undef)), (500005, .hold (.l TRecipient.pc a0) (T5.getD 5 undef)), (500006, .hold (.i ((a0.length : Int))) (T5.getD 6 undef)), (500007, .hold (.i s1) (T5.getD 7 undef)), (500003, .hold (.i s1) (T5.getD 3 undef)), (2, .cells [.i 0, .i 0])]) .ret (fun b24 => [(4, .i b24)]) (fun b24 => [(699999, .sus g0.w.heap.size ds6), (599999, .sus g0.w.heap.size ds5), (500000, .hold (.l TRecipient.pc a0) (T5.getD 0 undef)), (500002, .hold (.ptr 2 0) (T5.getD 2 undef)), (500005, .hold (.l TRecipient.pc a0) (T5.getD 5 undef)), (500006, .hold (.i ((a0.length : Int))) (T5.getD 6 undef)), (500007, .hold (.i s1) (T5.getD 7 undef)), (500003, .hold (.i s1) (T5.getD 3 undef)), (2, .cells [.i 0, .i 0])]) rfl rfl (fun s22 x26 hr => ?_) (fun b23 hr => ?_) (fun b24 hr => ?_)
      ·
       unfold envelope_Recipients_l2 at hr
       refine rn tk 6 rfl ?_
       refine ac 9 hr rfl (fun c27 hr => ?_) (fun c27 hr => ?_)
       ·
        refine rn tk 15 rfl ?_
        obtain ⟨v28, h29, hr⟩ := bind_some hr
        refine wi tk h29 rfl rfl rfl rfl rfl ?_
        refine rn tk 1 rfl ?_
        refine il (fn := Try.f66) (args := [.agg [.s v28.Address, .i v28.Notify], .ptr 4 0]) 800000 899999 [(0, .l TRecipient.pc v19), (1, .fn (.func 66) [] [.ptr 4 0]), (5, .i s22), (7, .i ((v19.length : Int))), (8, .i s22)] rfl ⟨Try.func66, rfl, by kernel_rfl⟩ rfl rfl rfl fun T8 ds8 => ?_
        refine rn tk 2 rfl ?_
        refine wo (opTo_box (k := 2) 1002 rfl rfl rfl rfl rfl) rfl ?_
        refine rn tk 14 rfl ?_
        refine ie tk [.bo ((v28.Address == v7.Address))] [(0, .l TRecipient.pc v19), (1, .fn (.func 66) [] [.ptr 4 0]), (5, .i s22), (7, .i ((v19.length : Int))), (8, .i s22)] [(1002, .cells [.s v28.Address, .i v28.Notify]), (699999, .sus g0.w.heap.size ds6), (599999, .sus g0.w.heap.size ds5), (500000, .hold (.l TRecipient.pc a0) (T5.getD 0 undef)), (500002, .hold (.ptr 2 0) (T5.getD 2 undef)), (500005, .hold (.l TRecipient.pc a0) (T5.getD 5 undef)), (500006, .hold (.i ((a0.length : Int))) (T5.getD 6 undef)), (500007, .hold (.i s1) (T5.getD 7 undef)), (500003, .hold (.i s1) (T5.getD 3 undef)), (4, .cells [.s v7.Address, .i v7.Notify]), (2, .cells [.i 0, .i 0])] (.inr rfl) rfl rfl rfl rfl (hO ?_)
        refine rn tk 2 rfl ?_
        refine ac 16 hr rfl (fun c30 hr => ?_) (fun c30 hr => ?_)
        ·
         refine rn tk 9 rfl ?_
         cases hr
         exact ato rfl rfl rfl rfl
        ·
         refine rn tk 7 rfl ?_
         cases hr
         exact atc rfl rfl
       ·
        refine rn tk 2 rfl ?_
        cases hr
        exact ato rfl rfl rfl rfl
      ·
       refine rn tk 8 rfl ?_
       refine ie tk [.i ((-1))] [] [(599999, .sus g0.w.heap.size ds5), (500000, .hold (.l TRecipient.pc a0) (T5.getD 0 undef)), (500002, .hold (.ptr 2 0) (T5.getD 2 undef)), (500005, .hold (.l TRecipient.pc a0) (T5.getD 5 undef)), (500006, .hold (.i ((a0.length : Int))) (T5.getD 6 undef)), (500007, .hold (.i s1) (T5.getD 7 undef)), (500003, .hold (.i s1) (T5.getD 3 undef)), (2, .cells [.i 0, .i 0])] (.inr rfl) rfl rfl rfl rfl ?_
       cases hr
       exact jump6 _ _ rfl rfl
      ·
       refine rn tk 2 rfl ?_
       refine ie tk [.i b24] [] [(599999, .sus g0.w.heap.size ds5), (500000, .hold (.l TRecipient.pc a0) (T5.getD 0 undef)), (500002, .hold (.ptr 2 0) (T5.getD 2 undef)), (500005, .hold (.l TRecipient.pc a0) (T5.getD 5 undef)), (500006, .hold (.i ((a0.length : Int))) (T5.getD 6 undef)), (500007, .hold (.i s1) (T5.getD 7 undef)), (500003, .hold (.i s1) (T5.getD 3 undef)), (2, .cells [.i 0, .i 0])] (.inr rfl) rfl rfl rfl rfl ?_
       cases hr
       exact jump6 _ _ rfl rfl
     ·
      refine rn tk 5 rfl ?_
      refine ie tk [.bo (decide (0 ≤ j21))] [(0, .l TRecipient.pc a0), (2, .ptr 2 0), (3, .i s1), (5, .l TRecipient.pc a0), (6, .i ((a0.length : Int))), (7, .i s1)] [(2, .cells [.i 0, .i 0])] (.inr rfl) rfl rfl rfl rfl (hO ?_)
      refine rn tk 3 rfl ?_
      refine ac 26 hr rfl (fun c31 hr => ?_) (fun c31 hr => ?_)
      ·
       refine rn tk 3 rfl ?_
       obtain ⟨v32, h33, hr⟩ := bind_some hr
       refine cl (basic_Fault_run _ _ _ h33) rfl rfl ?_
       refine rn tk 7 rfl ?_
       cases hr
       exact ato rfl rfl rfl rfl
      ·
       refine rn tk 8 rfl ?_
       cases hr
       exact atc rfl rfl
  ·
   refine rn tk 2 rfl ?_
   cases hr
   exact ato rfl rfl rfl rfl
 ·
  refine rn tk 4 rfl ?_
  obtain ⟨v34, h35, hr⟩ := bind_some hr
  refine cl (basic_None_run _ h35) rfl rfl ?_
  refine rn tk 4 rfl ?_
  cases hr
  exact kr tk (.inr rfl) rfl rfl
 ·
  refine rn tk 2 rfl ?_
  cases hr
  exact kr tk (.inr rfl) rfl rfl
theorem envelope_Validate_run (a0 : TEnvelope) (r : TFault) (hr : envelope_Validate a0 = some r) : Run Try.prog 22 [.agg [.s a0.From, .l TRecipient.pc a0.To, .s a0.Id]] (.agg [.i r.Code, .i r.Index]) := by
 unfold envelope_Validate at hr
 refine rf (fn := Try.f22) ⟨Try.func22, rfl, by kernel_rfl⟩ rfl (fun _ => rfl) fun g0 hg => ?_
 refine rn tk 8 rfl ?_
 refine jb hr (fun j1 => [(1, .ptr 1 0), (2, .ptr 2 0), (3, .bo j1)]) (fun j1 => [(2, .cells [.i 0, .i 0]), (1, .cells [.s a0.From, .l TRecipient.pc a0.To, .s a0.Id])]) (fun j1 hr => ?_) (fun j1 hr => ?_)
 ·
  refine rn tk 5 rfl ?_
  refine bs 7 hr rfl (fun c2 hr => ?_) (fun c2 hr => ?_)
  ·
   refine rn tk 2 rfl ?_
   obtain ⟨v3, h4, hr⟩ := bind_some hr
   refine ug rfl rfl rfl ?_
   refine cl (envelope_Address_run _ _ h4) rfl rfl ?_
   refine rn tk 4 rfl ?_
   cases hr
   exact jn _ rfl rfl rfl
  ·
   refine rn tk 7 rfl ?_
   cases hr
   exact jn _ rfl rfl rfl
 ·
  refine ac 3 hr rfl (fun c5 hr => ?_) (fun c5 hr => ?_)
  ·
   refine rn tk 2 rfl ?_
   obtain ⟨v6, h7, hr⟩ := bind_some hr
   refine cl (basic_Fault_run _ _ _ h7) rfl rfl ?_
   refine rn tk 6 rfl ?_
   cases hr
   exact kr tk (.inr rfl) rfl rfl
  ·
   refine jb hr (fun j8 => [(1, .ptr 1 0), (2, .ptr 2 0), (14, .bo j8)]) (fun j8 => [(2, .cells [.i 0, .i 0]), (1, .cells [.s a0.From, .l TRecipient.pc a0.To, .s a0.Id])]) (fun j8 hr => ?_) (fun j8 hr => ?_)
   ·
    refine rn tk 3 rfl ?_
    refine wn tk rfl rfl rfl ?_
    refine rn tk 2 rfl ?_
    refine bs 19 hr rfl (fun c9 hr => ?_) (fun c9 hr => ?_)
    ·
     refine rn tk 7 rfl ?_
     cases hr
     exact jn _ rfl rfl rfl
    ·
     refine rn tk 2 rfl ?_
     refine ug rfl rfl rfl ?_
     refine wn tk rfl rfl rfl ?_
     refine rn tk 4 rfl ?_
     cases hr
     exact jn _ rfl rfl rfl
   ·
    refine ac 14 hr rfl (fun c10 hr => ?_) (fun c10 hr => ?_)
    ·
     refine rn tk 2 rfl ?_
     obtain ⟨v11, h12, hr⟩ := bind_some hr
     refine cl (basic_Fault_run _ _ _ h12) rfl rfl ?_
     refine rn tk 6 rfl ?_
     cases hr
     exact kr tk (.inr rfl) rfl rfl
    ·
     refine jb hr (fun j13 => [(1, .ptr 1 0), (2, .ptr 2 0), (26, .bo j13)]) (fun j13 => [(2, .cells [.i 0, .i 0]), (1, .cells [.s a0.From, .l TRecipient.pc a0.To, .s a0.Id])]) (fun j13 hr => ?_) (fun j13 hr => ?_)
     ·
      refine rn tk 5 rfl ?_
      refine bs 30 hr rfl (fun c14 hr => ?_) (fun c14 hr => ?_)
      ·
       refine rn tk 2 rfl ?_
       obtain ⟨v15, h16, hr⟩ := bind_some hr
       refine ug rfl rfl rfl ?_
       refine cl (basic_Name_run _ _ h16) rfl rfl ?_
       refine rn tk 4 rfl ?_
       cases hr
       exact jn _ rfl rfl rfl
      ·
       refine rn tk 7 rfl ?_
       cases hr
       exact jn _ rfl rfl rfl
     ·
      refine ac 26 hr rfl (fun c17 hr => ?_) (fun c17 hr => ?_)
      ·
       refine rn tk 2 rfl ?_
       obtain ⟨v18, h19, hr⟩ := bind_some hr
       refine cl (basic_Fault_run _ _ _ h19) rfl rfl ?_
       refine rn tk 6 rfl ?_
       cases hr
       exact kr tk (.inr rfl) rfl rfl
      ·
       refine rn tk 7 rfl ?_
       obtain ⟨v20, h21, hr⟩ := bind_some hr
       refine cl (envelope_Recipients_run _ _ h21) rfl rfl ?_
       refine rn tk 4 rfl ?_
       cases hr
       exact kr tk (.inr rfl) rfl rfl
theorem slices_Index_string_string_run (a0 : List Str) (a1 : Str) (r : Int) (hr : slices_Index_string_string a0 a1 = some r) : Run Try.prog 62 [.l cS a0, .s a1] (.i r) := by
 unfold slices_Index_string_string at hr
 refine rf (fn := Try.f62) ⟨Try.func62, rfl, by kernel_rfl⟩ rfl (fun _ => rfl) fun g0 hg => ?_
 refine rn tk 9 rfl ?_
 refine wn tk rfl rfl rfl ?_
 refine rn tk 4 rfl ?_
 refine al2 hr (fun s1 => [(0, .l cS a0), (1, .s a1), (7, .i ((a0.length : Int))), (8, .i s1)]) (fun s1 => []) (.exit 0) (fun b2 => []) (fun b2 => []) .ret (fun b3 => [(4, .i b3)]) (fun b3 => []) rfl rfl (fun s1 x5 hr => ?_) (fun b2 hr => ?_) (fun b3 hr => ?_)
 ·
  unfold slices_Index_string_string_l1 at hr
  refine rn tk 6 rfl ?_
  refine ac 9 hr rfl (fun c6 hr => ?_) (fun c6 hr => ?_)
  ·
   refine rn tk 15 rfl ?_
   obtain ⟨v7, h8, hr⟩ := bind_some hr
   refine wi tk h8 rfl rfl rfl rfl rfl ?_
   refine rn tk 4 rfl ?_
   refine ac 16 hr rfl (fun c9 hr => ?_) (fun c9 hr => ?_)
   ·
    refine rn tk 9 rfl ?_
    cases hr
    exact ato rfl rfl rfl rfl
   ·
    refine rn tk 7 rfl ?_
    cases hr
    exact atc rfl rfl
  ·
   refine rn tk 2 rfl ?_
   cases hr
   exact ato rfl rfl rfl rfl
 ·
  refine rn tk 8 rfl ?_
  cases hr
  exact kr tk (.inr rfl) rfl rfl
 ·
  refine rn tk 2 rfl ?_
  cases hr
  exact kr tk (.inr rfl) rfl rfl
theorem slices_Contains_string_string_run (a0 : List Str) (a1 : Str) (r : Bool) (hr : slices_Contains_string_string a0 a1 = some r) : Run Try.prog 34 [.l cS a0, .s a1] (.bo r) := by
 unfold slices_Contains_string_string at hr
 refine rf (fn := Try.f34) ⟨Try.func34, rfl, by kernel_rfl⟩ rfl (fun _ => rfl) fun g0 hg => ?_
 refine rn tk 9 rfl ?_
 obtain ⟨v1, h2, hr⟩ := bind_some hr
 refine cl (slices_Index_string_string_run _ _ _ h2) rfl rfl ?_
 refine rn tk 5 rfl ?_
 cases hr
 exact kr tk (.inr rfl) rfl rfl
theorem envelope_Domains_run (a0 : TEnvelope) (r : (List Str) × TFault) (hr : envelope_Domains a0 = some r) : Run Try.prog 10 [.agg [.s a0.From, .l TRecipient.pc a0.To, .s a0.Id]] (.tup [.l cS r.1, .agg [.i r.2.Code, .i r.2.Index]]) := by
 unfold envelope_Domains at hr
 refine rf (fn := Try.f10) ⟨Try.func10, rfl, by kernel_rfl⟩ rfl (fun _ => rfl) fun g0 hg => ?_
 refine rn tk 11 rfl ?_
 obtain ⟨v1, h2, hr⟩ := bind_some hr
 refine cl (envelope_Validate_run _ _ h2) rfl rfl ?_
 refine rn tk 7 rfl ?_
 obtain ⟨v3, h4, hr⟩ := bind_some hr
 refine cl (basic_Failed_run _ _ h4) rfl rfl ?_
 refine rn tk 2 rfl ?_
 refine ac 14 hr rfl (fun c5 hr => ?_) (fun c5 hr => ?_)
 ·
  refine rn tk 1 rfl ?_
  refine dr 2 [(2, .pv (.sl (some true) [])), (15, .agg [.i v1.Code, .i v1.Index])] mixed (by kernel_rfl) rfl rfl (pq tk rfl (.plain rfl) (pq tk rfl (.plain rfl) .nil)) rfl ?_
  refine rn tk 5 rfl ?_
  cases hr
  exact kr tk (.inr rfl) rfl rfl
 ·
  refine rn tk 5 rfl ?_
  refine awpl_adopt 1005 (d := 5) 9 1 rfl rfl rfl (hO ?_)
  refine rn tk 7 rfl ?_
  refine wn tk rfl rfl rfl ?_
  refine rn tk 4 rfl ?_
  refine al1 hr (fun s6 => [(3, .ptr 3 0), (5, .hs 1005 0), (17, .l TRecipient.pc a0.To), (18, .i ((a0.To.length : Int))), (19, .i s6.1)]) (fun s6 => [(1005, .row 9 false 1 (List.map cS s6.2)), (3, .cells [.i 0, .i 0])]) (.exit 0) (fun b7 => [(3, .ptr 3 0), (5, .hs 1005 0)]) (fun b7 => [(1005, .row 9 false 1 (List.map cS b7)), (3, .cells [.i 0, .i 0])]) rfl rfl (fun s6 x8 hr => ?_) (fun b7 hr => ?_)
  ·
   unfold envelope_Domains_l1 at hr
   refine rn tk 6 rfl ?_
   refine ac 20 hr rfl (fun c9 hr => ?_) (fun c9 hr => ?_)
   ·
    refine rn tk 2 rfl ?_
    refine jb hr (fun j10 => [(3, .ptr 3 0), (5, .hs 1005 0), (17, .l TRecipient.pc a0.To), (18, .i ((a0.To.length : Int))), (19, .i s6.1)]) (fun j10 => [(1005, .row 9 false 1 (List.map cS j10)), (3, .cells [.i 0, .i 0])]) (fun j10 hr => ?_) (fun j10 hr => ?_)
    ·
     refine rn tk 3 rfl ?_
     obtain ⟨v11, h12, hr⟩ := bind_some hr
     refine wi tk h12 rfl rfl rfl rfl rfl ?_
     refine rn tk 9 rfl ?_
     obtain ⟨v13, h14, hr⟩ := bind_some hr
     refine cl (envelope_Split_run _ _ h14) rfl rfl ?_
     refine rn tk 13 rfl ?_
     refine awpl_pub (d := 30) (F := cS) (l := s6.2) rfl rfl (hO ?_)
     obtain ⟨v15, h16, hr⟩ := bind_some hr
     refine cl (slices_Contains_string_string_run _ _ _ h16) rfl rfl ?_
     refine rn tk 3 rfl ?_
     refine ac 33 hr rfl (fun c17 hr => ?_) (fun c17 hr => ?_)
     ·
      refine rn tk 3 rfl ?_
      refine wz cS ([v13.2.1] : List Str) tk rfl rfl (fun _ => rfl) rfl rfl rfl ?_
      obtain ⟨v18, h19, hr⟩ := bind_some hr
      refine wa tk h19 rfl rfl rfl rfl (fun _ => rfl) rfl rfl ?_
      refine rn tk 3 rfl ?_
      cases hr
      exact jn _ rfl rfl rfl
     ·
      refine rn tk 2 rfl ?_
      cases hr
      exact jn _ rfl rfl rfl
    ·
     refine rn tk 4 rfl ?_
     cases hr
     exact atc rfl rfl
   ·
    refine rn tk 2 rfl ?_
    cases hr
    exact ato rfl rfl rfl rfl
  ·
   refine rn tk 5 rfl ?_
   obtain ⟨v20, h21, hr⟩ := bind_some hr
   refine cl (basic_None_run _ h21) rfl rfl ?_
   refine rn tk 4 rfl ?_
   refine awp_pub (d := 2) (F := cS) (l := b7) rfl rfl (hC ?_)
   refine rn tk 1 rfl ?_
   cases hr
   exact kr tk (.inr rfl) rfl rfl
theorem envelope_For_run (a0 : TEnvelope) (a1 : Str) (r : TEnvelope × TFault) (hr : envelope_For a0 a1 = some r) : Run Try.prog 11 [.agg [.s a0.From, .l TRecipient.pc a0.To, .s a0.Id], .s a1] (.tup [.agg [.s r.1.From, .l TRecipient.pc r.1.To, .s r.1.Id], .agg [.i r.2.Code, .i r.2.Index]]) := by
 unfold envelope_For at hr
 refine rf (fn := Try.f11) ⟨Try.func11, rfl, by kernel_rfl⟩ rfl (fun _ => rfl) fun g0 hg => ?_
 refine rn tk 12 rfl ?_
 obtain ⟨v1, h2, hr⟩ := bind_some hr
 refine cl (envelope_Validate_run _ _ h2) rfl rfl ?_
 refine rn tk 7 rfl ?_
 obtain ⟨v3, h4, hr⟩ := bind_some hr
 refine cl (basic_Failed_run _ _ h4) rfl rfl ?_
 refine rn tk 2 rfl ?_
 refine ac 10 hr rfl (fun c5 hr => ?_) (fun c5 hr => ?_)
 ·
  refine rn tk 1 rfl ?_
  refine awp_explore [([false, false, false, false], [(4, .ptr 4 0), (5, .ptr 5 0), (6, .ptr 6 0)], [(6, .cells [.i v1.Code, .i v1.Index]), (5, .cells [.i 0, .i 0]), (4, .cells [.s (([] : Str)), .pv (.sl (some true) []), .s (([] : Str))]), (3, .cells [.s a1]), (2, .cells [.s a0.From, .l TRecipient.pc a0.To, .s a0.Id])]), ([true, false, false, false], [(4, .ptr 4 0), (5, .ptr 5 0), (6, .ptr 6 0), (11, .agg [.s (([] : Str)), .pv (.sl (some true) []), .s (([] : Str))])], [(6, .cells [.i v1.Code, .i v1.Index]), (5, .cells [.i 0, .i 0]), (4, .cells [.s (([] : Str)), .pv (.sl (some true) []), .s (([] : Str))]), (3, .cells [.s a1]), (2, .cells [.s a0.From, .l TRecipient.pc a0.To, .s a0.Id])]), ([false, true, false, false], [(4, .ptr 4 0), (5, .ptr 5 0), (6, .ptr 6 0), (12, .agg [.i v1.Code, .i v1.Index])], [(6, .cells [.i v1.Code, .i v1.Index]), (5, .cells [.i 0, .i 0]), (4, .cells [.s (([] : Str)), .pv (.sl (some true) []), .s (([] : Str))]), (3, .cells [.s a1]), (2, .cells [.s a0.From, .l TRecipient.pc a0.To, .s a0.Id])]), ([true, true, false, false], [(4, .ptr 4 0), (5, .ptr 5 0), (6, .ptr 6 0), (11, .agg [.s (([] : Str)), .pv (.sl (some true) []), .s (([] : Str))]), (12, .agg [.i v1.Code, .i v1.Index])], [(6, .cells [.i v1.Code, .i v1.Index]), (5, .cells [.i 0, .i 0]), (4, .cells [.s (([] : Str)), .pv (.sl (some true) []), .s (([] : Str))]), (3, .cells [.s a1]), (2, .cells [.s a0.From, .l TRecipient.pc a0.To, .s a0.Id])]), ([true, false, true, false], [(4, .ptr 4 0), (5, .ptr 5 0), (6, .ptr 6 0), (11, .agg [.s (([] : Str)), .pv (.sl (some true) []), .s (([] : Str))])], [(6, .cells [.i v1.Code, .i v1.Index]), (5, .cells [.i 0, .i 0]), (4, .cells [.s (([] : Str)), .pv (.sl (some true) []), .s (([] : Str))]), (3, .cells [.s a1]), (2, .cells [.s a0.From, .l TRecipient.pc a0.To, .s a0.Id])]), ([true, true, true, false], [(4, .ptr 4 0), (5, .ptr 5 0), (6, .ptr 6 0), (11, .agg [.s (([] : Str)), .pv (.sl (some true) []), .s (([] : Str))]), (12, .agg [.i v1.Code, .i v1.Index])], [(6, .cells [.i v1.Code, .i v1.Index]), (5, .cells [.i 0, .i 0]), (4, .cells [.s (([] : Str)), .pv (.sl (some true) []), .s (([] : Str))]), (3, .cells [.s a1]), (2, .cells [.s a0.From, .l TRecipient.pc a0.To, .s a0.Id])]), ([true, true, true, true], [(4, .ptr 4 0), (5, .ptr 5 0), (6, .ptr 6 0), (11, .agg [.s (([] : Str)), .pv (.sl (some true) []), .s (([] : Str))]), (12, .agg [.i v1.Code, .i v1.Index])], [(6, .cells [.i v1.Code, .i v1.Index]), (5, .cells [.i v1.Code, .i v1.Index]), (4, .cells [.s (([] : Str)), .pv (.sl (some true) []), .s (([] : Str))]), (3, .cells [.s a1]), (2, .cells [.s a0.From, .l TRecipient.pc a0.To, .s a0.Id])])] mixed (by kernel_rfl) rfl rfl (frLe_cons rfl (frLe_cons rfl (frLe_cons rfl frLe_nil))) (stoLe_cons rfl (stoLe_cons rfl (stoLe_cons rfl (stoLe_cons rfl (stoLe_cons rfl stoLe_nil))))) (.cons (.step [0, 1] (by kernel_rfl) rfl (.cons (.yes 1 rfl (wanted_plain rfl) (opTo_q (d := 11) rfl rfl (ev_build (cs := [.s (([] : Str)), .pv (.sl (some true) []), .s (([] : Str))]) ty_api_Envelope pl_api_Envelope (.inr ⟨rfl, rfl⟩) rfl)) rfl (frLe_cons rfl (frLe_cons rfl (frLe_cons rfl (frLe_cons rfl frLe_nil)))) (stoLe_cons rfl (stoLe_cons rfl (stoLe_cons rfl (stoLe_cons rfl (stoLe_cons rfl stoLe_nil)))))) (.cons (.yes 2 rfl (wanted_plain rfl) (opTo_q (d := 12) rfl rfl (ev_loadN rfl rfl ty_api_Fault rfl rfl)) rfl (frLe_cons rfl (frLe_cons rfl (frLe_cons rfl (frLe_cons rfl frLe_nil)))) (stoLe_cons rfl (stoLe_cons rfl (stoLe_cons rfl (stoLe_cons rfl (stoLe_cons rfl stoLe_nil)))))) .nil))) (.cons (.step [1, 2] (by kernel_rfl) rfl (.cons (.yes 3 rfl (wanted_plain rfl) (opTo_q (d := 12) rfl rfl (ev_loadN rfl rfl ty_api_Fault rfl rfl)) rfl (frLe_cons rfl (frLe_cons rfl (frLe_cons rfl (frLe_cons rfl (frLe_cons rfl frLe_nil))))) (stoLe_cons rfl (stoLe_cons rfl (stoLe_cons rfl (stoLe_cons rfl (stoLe_cons rfl stoLe_nil)))))) (.cons (.yes 4 rfl (wanted_plain rfl) (opTo_store rfl rfl rfl ty_api_Envelope rfl rfl) rfl (frLe_cons rfl (frLe_cons rfl (frLe_cons rfl (frLe_cons rfl frLe_nil)))) (stoLe_cons rfl (stoLe_cons rfl (stoLe_cons rfl (stoLe_cons rfl (stoLe_cons rfl stoLe_nil)))))) .nil))) (.cons (.step [0] (by kernel_rfl) rfl (.cons (.yes 3 rfl (wanted_plain rfl) (opTo_q (d := 11) rfl rfl (ev_build (cs := [.s (([] : Str)), .pv (.sl (some true) []), .s (([] : Str))]) ty_api_Envelope pl_api_Envelope (.inr ⟨rfl, rfl⟩) rfl)) rfl (frLe_cons rfl (frLe_cons rfl (frLe_cons rfl (frLe_cons rfl (frLe_cons rfl frLe_nil))))) (stoLe_cons rfl (stoLe_cons rfl (stoLe_cons rfl (stoLe_cons rfl (stoLe_cons rfl stoLe_nil)))))) .nil)) (.cons (.step [2] (by kernel_rfl) rfl (.cons (.yes 5 rfl (wanted_plain rfl) (opTo_store rfl rfl rfl ty_api_Envelope rfl rfl) rfl (frLe_cons rfl (frLe_cons rfl (frLe_cons rfl (frLe_cons rfl (frLe_cons rfl frLe_nil))))) (stoLe_cons rfl (stoLe_cons rfl (stoLe_cons rfl (stoLe_cons rfl (stoLe_cons rfl stoLe_nil)))))) .nil)) (.cons (.step [1] (by kernel_rfl) rfl (.cons (.yes 5 rfl (wanted_plain rfl) (opTo_q (d := 12) rfl rfl (ev_loadN rfl rfl ty_api_Fault rfl rfl)) rfl (frLe_cons rfl (frLe_cons rfl (frLe_cons rfl (frLe_cons rfl (frLe_cons rfl frLe_nil))))) (stoLe_cons rfl (stoLe_cons rfl (stoLe_cons rfl (stoLe_cons rfl (stoLe_cons rfl stoLe_nil)))))) .nil)) (.cons (.step [3] (by kernel_rfl) rfl (.cons (.yes 6 rfl (wanted_plain rfl) (opTo_store rfl rfl rfl ty_api_Fault rfl rfl) rfl (frLe_cons rfl (frLe_cons rfl (frLe_cons rfl (frLe_cons rfl (frLe_cons rfl frLe_nil))))) (stoLe_cons rfl (stoLe_cons rfl (stoLe_cons rfl (stoLe_cons rfl (stoLe_cons rfl stoLe_nil)))))) .nil)) (.cons (.full (by kernel_rfl) (hA ?_)) .nil)))))))
  refine rn tk 3 rfl ?_
  cases hr
  exact kr tk (.inr rfl) rfl rfl
 ·
  refine rn tk 6 rfl ?_
  refine ct hr (fun j6 => [(2, .ptr 2 0), (3, .ptr 3 0), (4, .ptr 4 0), (5, .ptr 5 0), (15, .hs 2002 0)]) (fun j6 => [(2002, .row 36 true 2 (List.map TRecipient.pc j6)), (5, .cells [.i 0, .i 0]), (4, .cells [.s (([] : Str)), .l TRecipient.pc ([]), .s (([] : Str))]), (3, .cells [.s a1]), (2, .cells [.s a0.From, .l TRecipient.pc a0.To, .s a0.Id])]) (fun j6 hr jump1 => ?_) (fun j6 hr => ?_)
  ·
   refine il (fn := Try.f37) (args := [.l TRecipient.pc a0.To]) 100000 199999 [(2, .ptr 2 0), (3, .ptr 3 0), (4, .ptr 4 0), (5, .ptr 5 0)] rfl ⟨Try.func37, rfl, by kernel_rfl⟩ rfl rfl rfl fun T1 ds1 => ?_
   refine rn tk 3 rfl ?_
   refine awpl_adoptM 1002 (d := 2) 36 2 rfl rfl rfl (hO ?_)
   refine rn tk 6 rfl ?_
   refine awpl_isnil (d := 3) (F := TRecipient.pc) (l := a0.To) rfl rfl rfl ty_s_api_Recipient (fun c7 => hO ?_) (hO ?_)
   ·
    replace hr := nilE_nil c7 hr
    refine rn tk 6 rfl ?_
    refine awpl_adoptM 2002 (d := 2) 36 2 rfl rfl rfl (hO ?_)
    refine rn tk 4 rfl ?_
    refine ie tk [.hs 2002 0] [(2, .ptr 2 0), (3, .ptr 3 0), (4, .ptr 4 0), (5, .ptr 5 0)] [(2002, .row 36 true 2 (List.map TRecipient.pc (([] : List TRecipient)))), (1002, .row 36 true 2 (List.map TRecipient.pc (([] : List TRecipient)))), (6, .cells [.i v1.Code, .i v1.Index]), (5, .cells [.i 0, .i 0]), (4, .cells [.s (([] : Str)), .pv (.sl (some true) []), .s (([] : Str))]), (3, .cells [.s a1]), (2, .cells [.s a0.From, .l TRecipient.pc a0.To, .s a0.Id])] (.inr rfl) rfl rfl rfl rfl ?_
    cases hr
    exact jump1 _ _ rfl rfl
   ·
    replace hr := nilE_not hr
    refine rn tk 7 rfl ?_
    refine wo (opTo_litz (k := 5) rfl ty_s_api_Recipient ty_api_Recipient) rfl ?_
    refine rn tk 1 rfl ?_
    obtain ⟨v8, h9, hr⟩ := bind_some hr
    refine wo (opTo_appendz (k := 7) (F := TRecipient.pc) (xs := a0.To) (lim := 5864062014805) 2002 rfl rfl rfl ty_s_api_Recipient ty_api_Recipient rfl rfl (fun _ => rfl) rfl rfl rfl h9) rfl ?_
    refine rn tk 4 rfl ?_
    refine ie tk [.hs 2002 0] [(2, .ptr 2 0), (3, .ptr 3 0), (4, .ptr 4 0), (5, .ptr 5 0)] [(2002, .row 36 true 2 (List.map TRecipient.pc v8)), (1002, .row 36 true 2 (List.map TRecipient.pc (([] : List TRecipient)))), (6, .cells [.i v1.Code, .i v1.Index]), (5, .cells [.i 0, .i 0]), (4, .cells [.s (([] : Str)), .pv (.sl (some true) []), .s (([] : Str))]), (3, .cells [.s a1]), (2, .cells [.s a0.From, .l TRecipient.pc a0.To, .s a0.Id])] (.inr rfl) rfl rfl rfl rfl ?_
    cases hr
    exact jump1 _ _ rfl rfl
  ·
   refine rn tk 1 rfl ?_
   refine ct hr (fun j10 => [(2, .ptr 2 0), (4, .ptr 4 0), (5, .ptr 5 0), (17, .l TRecipient.pc j10)]) (fun j10 => [(5, .cells [.i 0, .i 0]), (4, .cells [.s (([] : Str)), .l TRecipient.pc ([]), .s (([] : Str))]), (2, .cells [.s a0.From, .l TRecipient.pc a0.To, .s a0.Id])]) (fun j10 hr jump2 => ?_) (fun j10 hr => ?_)
   ·
    refine il (fn := Try.f36) (args := [.hs 2002 0, .fn (.func 38) [] [.ptr 3 0]]) 200000 299999 [(2, .ptr 2 0), (4, .ptr 4 0), (5, .ptr 5 0)] rfl ⟨Try.func36, rfl, by kernel_rfl⟩ rfl rfl rfl fun T2 ds2 => ?_
    refine rn tk 9 rfl ?_
    refine ct hr (fun j11 => [(0, .hs 2002 0), (1, .fn (.func 38) [] [.ptr 3 0]), (10, .i j11)]) (fun j11 => [(299999, .sus g0.w.heap.size ds2), (200002, .hold (.ptr 2 0) (T2.getD 2 undef)), (200004, .hold (.ptr 4 0) (T2.getD 4 undef)), (200005, .hold (.ptr 5 0) (T2.getD 5 undef)), (2002, .row 36 true 2 (List.map TRecipient.pc j6)), (5, .cells [.i 0, .i 0]), (4, .cells [.s (([] : Str)), .l TRecipient.pc ([]), .s (([] : Str))]), (3, .cells [.s a1]), (2, .cells [.s a0.From, .l TRecipient.pc a0.To, .s a0.Id])]) (fun j11 hr jump3 => ?_) (fun j11 hr => ?_)
    ·
     refine il (fn := Try.f63) (args := [.hs 2002 0, .fn (.func 38) [] [.ptr 3 0]]) 300000 399999 [(0, .hs 2002 0), (1, .fn (.func 38) [] [.ptr 3 0])] rfl ⟨Try.func63, rfl, by kernel_rfl⟩ rfl rfl rfl fun T3 ds3 => ?_
     refine rn tk 9 rfl ?_
     refine wnh tk rfl rfl rfl rfl ?_
     refine rn tk 4 rfl ?_
     refine al2 hr (fun s12 => [(0, .hs 2002 0), (1, .fn (.func 38) [] [.ptr 3 0]), (7, .i ((j6.length : Int))), (8, .i s12)]) (fun s12 => [(399999, .sus g0.w.heap.size ds3), (300000, .hold (.hs 2002 0) (T3.getD 0 undef)), (300001, .hold (.fn (.func 38) [] [.ptr 3 0]) (T3.getD 1 undef)), (299999, .sus g0.w.heap.size ds2), (200002, .hold (.ptr 2 0) (T2.getD 2 undef)), (200004, .hold (.ptr 4 0) (T2.getD 4 undef)), (200005, .hold (.ptr 5 0) (T2.getD 5 undef)), (2002, .row 36 true 2 (List.map TRecipient.pc j6)), (5, .cells [.i 0, .i 0]), (4, .cells [.s (([] : Str)), .l TRecipient.pc ([]), .s (([] : Str))]), (3, .cells [.s a1]), (2, .cells [.s a0.From, .l TRecipient.pc a0.To, .s a0.Id])]) (.exit 0) (fun b13 => []) (fun b13 => [(399999, .sus g0.w.heap.size ds3), (300000, .hold (.hs 2002 0) (T3.getD 0 undef)), (300001, .hold (.fn (.func 38) [] [.ptr 3 0]) (T3.getD 1 undef)), (299999, .sus g0.w.heap.size ds2), (200002, .hold (.ptr 2 0) (T2.getD 2 undef)), (200004, .hold (.ptr 4 0) (T2.getD 4 undef)), (200005, .hold (.ptr 5 0) (T2.getD 5 undef)), (2002, .row 36 true 2 (List.map TRecipient.pc j6)), (5, .cells [.i 0, .i 0]), (4, .cells [.s (([] : Str)), .l TRecipient.pc ([]), .s (([] : Str))]), (3, .cells [.s a1]), (2, .cells [.s a0.From, .l TRecipient.pc a0.To, .s a0.Id])]) .ret (fun b14 => [(4, .i b14)]) (fun b14 => [(399999, .sus g0.w.heap.size ds3), (300000, .hold (.hs 2002 0) (T3.getD 0 undef)), (300001, .hold (.fn (.func 38) [] [.ptr 3 0]) (T3.getD 1 undef)), (299999, .sus g0.w.heap.size ds2), (200002, .hold (.ptr 2 0) (T2.getD 2 undef)), (200004, .hold (.ptr 4 0) (T2.getD 4 undef)), (200005, .hold (.ptr 5 0) (T2.getD 5 undef)), (2002, .row 36 true 2 (List.map TRecipient.pc j6)), (5, .cells [.i 0, .i 0]), (4, .cells [.s (([] : Str)), .l TRecipient.pc ([]), .s (([] : Str))]), (3, .cells [.s a1]), (2, .cells [.s a0.From, .l TRecipient.pc a0.To, .s a0.Id])]) rfl rfl (fun s12 x16 hr => ?_) (fun b13 hr => ?_) (fun b14 hr => ?_)
     ·
      unfold envelope_For_l1 at hr
      refine rn tk 6 rfl ?_
      refine ac 9 hr rfl (fun c17 hr => ?_) (fun c17 hr => ?_)
      ·
       refine rn tk 15 rfl ?_
       obtain ⟨v18, h19, hr⟩ := bind_some hr
       refine wih tk h19 rfl rfl rfl rfl rfl ?_
       obtain ⟨v20, h21, hr⟩ := bind_some hr
       refine wq (ev_hloadN (F := TRecipient.pc) (l := j6) (n := s12) (j := 0) rfl rfl ty_api_Recipient rfl h21 rfl) rfl rfl rfl ?_
       refine il (fn := Try.f38) (args := [.agg [.s v20.Address, .i v20.Notify], .ptr 3 0]) 500000 599999 [(0, .hs 2002 0), (1, .fn (.func 38) [] [.ptr 3 0]), (5, .i s12), (7, .i ((j6.length : Int))), (8, .i s12)] rfl ⟨Try.func38, rfl, by kernel_rfl⟩ rfl rfl rfl fun T5 ds5 => ?_
       refine rn tk 2 rfl ?_
       refine wo (opTo_box (k := 2) 1002 rfl rfl rfl rfl rfl) rfl ?_
       refine rn tk 7 rfl ?_
       obtain ⟨v22, h23, hr⟩ := bind_some hr
       refine cl (envelope_Split_run _ _ h23) rfl rfl ?_
       refine rn tk 18 rfl ?_
       refine ie tk [.bo ((v22.2.1 != a1))] [(0, .hs 2002 0), (1, .fn (.func 38) [] [.ptr 3 0]), (5, .i s12), (7, .i ((j6.length : Int))), (8, .i s12)] [(1002, .cells [.s v20.Address, .i v20.Notify]), (399999, .sus g0.w.heap.size ds3), (300000, .hold (.hs 2002 0) (T3.getD 0 undef)), (300001, .hold (.fn (.func 38) [] [.ptr 3 0]) (T3.getD 1 undef)), (299999, .sus g0.w.heap.size ds2), (200002, .hold (.ptr 2 0) (T2.getD 2 undef)), (200004, .hold (.ptr 4 0) (T2.getD 4 undef)), (200005, .hold (.ptr 5 0) (T2.getD 5 undef)), (2002, .row 36 true 2 (List.map TRecipient.pc j6)), (5, .cells [.i 0, .i 0]), (4, .cells [.s (([] : Str)), .l TRecipient.pc ([]), .s (([] : Str))]), (3, .cells [.s a1]), (2, .cells [.s a0.From, .l TRecipient.pc a0.To, .s a0.Id])] (.inr rfl) rfl rfl rfl rfl (hO ?_)
       refine rn tk 2 rfl ?_
       refine ac 16 hr rfl (fun c24 hr => ?_) (fun c24 hr => ?_)
       ·
        refine rn tk 9 rfl ?_
        cases hr
        exact ato rfl rfl rfl rfl
       ·
        refine rn tk 7 rfl ?_
        cases hr
        exact atc rfl rfl
      ·
       refine rn tk 2 rfl ?_
       cases hr
       exact ato rfl rfl rfl rfl
     ·
      refine rn tk 8 rfl ?_
      refine ie tk [.i ((-1))] [(0, .hs 2002 0), (1, .fn (.func 38) [] [.ptr 3 0])] [(299999, .sus g0.w.heap.size ds2), (200002, .hold (.ptr 2 0) (T2.getD 2 undef)), (200004, .hold (.ptr 4 0) (T2.getD 4 undef)), (200005, .hold (.ptr 5 0) (T2.getD 5 undef)), (2002, .row 36 true 2 (List.map TRecipient.pc j6)), (5, .cells [.i 0, .i 0]), (4, .cells [.s (([] : Str)), .l TRecipient.pc ([]), .s (([] : Str))]), (3, .cells [.s a1]), (2, .cells [.s a0.From, .l TRecipient.pc a0.To, .s a0.Id])] (.inr rfl) rfl rfl rfl rfl ?_
      cases hr
      exact jump3 _ _ rfl rfl
     ·
      refine rn tk 2 rfl ?_
      refine ie tk [.i b14] [(0, .hs 2002 0), (1, .fn (.func 38) [] [.ptr 3 0])] [(299999, .sus g0.w.heap.size ds2), (200002, .hold (.ptr 2 0) (T2.getD 2 undef)), (200004, .hold (.ptr 4 0) (T2.getD 4 undef)), (200005, .hold (.ptr 5 0) (T2.getD 5 undef)), (2002, .row 36 true 2 (List.map TRecipient.pc j6)), (5, .cells [.i 0, .i 0]), (4, .cells [.s (([] : Str)), .l TRecipient.pc ([]), .s (([] : Str))]), (3, .cells [.s a1]), (2, .cells [.s a0.From, .l TRecipient.pc a0.To, .s a0.Id])] (.inr rfl) rfl rfl rfl rfl ?_
      cases hr
      exact jump3 _ _ rfl rfl
    ·
     refine rn tk 10 rfl ?_
     refine ac 12 hr rfl (fun c25 hr => ?_) (fun c25 hr => ?_)
     ·
      refine rn tk 6 rfl ?_
      refine awp_unmu 2002 rfl (hC ?_)
      refine awp_pub (d := 4) (F := TRecipient.pc) (l := j6) rfl rfl (hC ?_)
      refine rn tk 2 rfl ?_
      refine ie tk [.l TRecipient.pc j6] [(2, .ptr 2 0), (4, .ptr 4 0), (5, .ptr 5 0)] [(2002, .row 36 false 2 (List.map TRecipient.pc j6)), (5, .cells [.i 0, .i 0]), (4, .cells [.s (([] : Str)), .l TRecipient.pc ([]), .s (([] : Str))]), (3, .cells [.s a1]), (2, .cells [.s a0.From, .l TRecipient.pc a0.To, .s a0.Id])] (.inr rfl) rfl rfl rfl rfl ?_
      cases hr
      exact jump2 _ _ rfl rfl
     ·
      refine rn tk 11 rfl ?_
      refine al1 hr (fun s26 => [(0, .hs 2002 0), (1, .fn (.func 38) [] [.ptr 3 0]), (5, .i s26.1), (6, .i s26.2.1)]) (fun s26 => [(299999, .sus g0.w.heap.size ds2), (200002, .hold (.ptr 2 0) (T2.getD 2 undef)), (200004, .hold (.ptr 4 0) (T2.getD 4 undef)), (200005, .hold (.ptr 5 0) (T2.getD 5 undef)), (2002, .row 36 true 2 (List.map TRecipient.pc s26.2.2)), (5, .cells [.i 0, .i 0]), (4, .cells [.s (([] : Str)), .l TRecipient.pc ([]), .s (([] : Str))]), (3, .cells [.s a1]), (2, .cells [.s a0.From, .l TRecipient.pc a0.To, .s a0.Id])]) (.exit 0) (fun b27 => [(0, .hs 2002 0), (5, .i b27.1)]) (fun b27 => [(299999, .sus g0.w.heap.size ds2), (200002, .hold (.ptr 2 0) (T2.getD 2 undef)), (200004, .hold (.ptr 4 0) (T2.getD 4 undef)), (200005, .hold (.ptr 5 0) (T2.getD 5 undef)), (2002, .row 36 true 2 (List.map TRecipient.pc b27.2)), (5, .cells [.i 0, .i 0]), (4, .cells [.s (([] : Str)), .l TRecipient.pc ([]), .s (([] : Str))]), (2, .cells [.s a0.From, .l TRecipient.pc a0.To, .s a0.Id])]) rfl rfl (fun s26 x28 hr => ?_) (fun b27 hr => ?_)
      ·
       unfold envelope_For_l2 at hr
       refine rn tk 5 rfl ?_
       refine wnh tk rfl rfl rfl rfl ?_
       refine rn tk 3 rfl ?_
       refine ac 19 hr rfl (fun c29 hr => ?_) (fun c29 hr => ?_)
       ·
        refine rn tk 2 rfl ?_
        refine jb hr (fun j30 => [(0, .hs 2002 0), (1, .fn (.func 38) [] [.ptr 3 0]), (5, .i j30.1), (6, .i s26.2.1)]) (fun j30 => [(299999, .sus g0.w.heap.size ds2), (200002, .hold (.ptr 2 0) (T2.getD 2 undef)), (200004, .hold (.ptr 4 0) (T2.getD 4 undef)), (200005, .hold (.ptr 5 0) (T2.getD 5 undef)), (2002, .row 36 true 2 (List.map TRecipient.pc j30.2)), (5, .cells [.i 0, .i 0]), (4, .cells [.s (([] : Str)), .l TRecipient.pc ([]), .s (([] : Str))]), (3, .cells [.s a1]), (2, .cells [.s a0.From, .l TRecipient.pc a0.To, .s a0.Id])]) (fun j30 hr => ?_) (fun j30 hr => ?_)
        ·
         refine rn tk 5 rfl ?_
         obtain ⟨v31, h32, hr⟩ := bind_some hr
         refine wih tk h32 rfl rfl rfl rfl rfl ?_
         obtain ⟨v33, h34, hr⟩ := bind_some hr
         refine wq (ev_hloadN (F := TRecipient.pc) (l := s26.2.2) (n := s26.2.1) (j := 0) rfl rfl ty_api_Recipient rfl h34 rfl) rfl rfl rfl ?_
         refine rn tk 8 rfl ?_
         refine il (fn := Try.f38) (args := [.agg [.s v33.Address, .i v33.Notify], .ptr 3 0]) 1100000 1199999 [(0, .hs 2002 0), (1, .fn (.func 38) [] [.ptr 3 0]), (5, .i s26.1), (6, .i s26.2.1), (7, .ptr 7 0)] rfl ⟨Try.func38, rfl, by kernel_rfl⟩ rfl rfl rfl fun T11 ds11 => ?_
         refine rn tk 2 rfl ?_
         refine wo (opTo_box (k := 2) 1002 rfl rfl rfl rfl rfl) rfl ?_
         refine rn tk 7 rfl ?_
         obtain ⟨v35, h36, hr⟩ := bind_some hr
         refine cl (envelope_Split_run _ _ h36) rfl rfl ?_
         refine rn tk 18 rfl ?_
         refine ie tk [.bo ((v35.2.1 != a1))] [(0, .hs 2002 0), (1, .fn (.func 38) [] [.ptr 3 0]), (5, .i s26.1), (6, .i s26.2.1), (7, .ptr 7 0)] [(1002, .cells [.s v33.Address, .i v33.Notify]), (7, .cells [.s v33.Address, .i v33.Notify]), (299999, .sus g0.w.heap.size ds2), (200002, .hold (.ptr 2 0) (T2.getD 2 undef)), (200004, .hold (.ptr 4 0) (T2.getD 4 undef)), (200005, .hold (.ptr 5 0) (T2.getD 5 undef)), (2002, .row 36 true 2 (List.map TRecipient.pc s26.2.2)), (5, .cells [.i 0, .i 0]), (4, .cells [.s (([] : Str)), .l TRecipient.pc ([]), .s (([] : Str))]), (3, .cells [.s a1]), (2, .cells [.s a0.From, .l TRecipient.pc a0.To, .s a0.Id])] (.inr rfl) rfl rfl rfl rfl (hO ?_)
         refine rn tk 3 rfl ?_
         refine ac 29 hr rfl (fun c37 hr => ?_) (fun c37 hr => ?_)
         ·
          refine rn tk 5 rfl ?_
          obtain ⟨v38, h39, hr⟩ := bind_some hr
          refine wih tk h39 rfl rfl rfl rfl rfl ?_
          obtain ⟨v40, h41, hr⟩ := bind_some hr
          refine wo (opTo_hstore (F := TRecipient.pc) (l := s26.2.2) (n := s26.1) (j := 0) (v := v40) (v' := v33) (pcs := [pS v33.Address, pI v33.Notify]) rfl rfl rfl ty_api_Recipient rfl h41 rfl rfl) rfl ?_
          refine rn tk 8 rfl ?_
          cases hr
          exact jn _ rfl rfl rfl
         ·
          refine rn tk 2 rfl ?_
          cases hr
          exact jn _ rfl rfl rfl
        ·
         refine rn tk 5 rfl ?_
         cases hr
         exact atc rfl rfl
       ·
        refine rn tk 2 rfl ?_
        cases hr
        exact ato rfl rfl rfl rfl
      ·
       refine rn tk 6 rfl ?_
       obtain ⟨v42, h43, hr⟩ := bind_some hr
       refine wq (ev_hsub (F := TRecipient.pc) (l := b27.2) (p := b27.1) rfl rfl rfl ty_s_api_Recipient ty_api_Recipient h43) rfl rfl rfl ?_
       refine wo (opTo_clear (F := TRecipient.pc) (l := b27.2) (z := ((TRecipient.mk (([] : Str)) 0))) rfl rfl ty_s_api_Recipient ty_api_Recipient rfl rfl) rfl ?_
       refine rn tk 6 rfl ?_
       refine awpl_unmu 2002 rfl (hO ?_)
       refine awpl_pub (d := 39) (F := TRecipient.pc) (l := ((clr0 b27.2 (Int.toNat b27.1) ((TRecipient.mk (([] : Str)) 0))))) rfl rfl (hO ?_)
       obtain ⟨v44, h45, hr⟩ := bind_some hr
       refine wlH tk h45 rfl rfl rfl (fun _ => rfl) rfl ?_
       refine rn tk 4 rfl ?_
       refine ie tk [.l TRecipient.pc v44] [(2, .ptr 2 0), (4, .ptr 4 0), (5, .ptr 5 0)] [(2002, .row 36 false 2 (List.map TRecipient.pc ((clr0 b27.2 (Int.toNat b27.1) ((TRecipient.mk (([] : Str)) 0)))))), (5, .cells [.i 0, .i 0]), (4, .cells [.s (([] : Str)), .l TRecipient.pc ([]), .s (([] : Str))]), (2, .cells [.s a0.From, .l TRecipient.pc a0.To, .s a0.Id])] (.inr rfl) rfl rfl rfl rfl ?_
       cases hr
       exact jump2 _ _ rfl rfl
   ·
    refine rn tk 9 rfl ?_
    refine wn tk rfl rfl rfl ?_
    refine rn tk 3 rfl ?_
    refine ac 22 hr rfl (fun c46 hr => ?_) (fun c46 hr => ?_)
    ·
     refine rn tk 3 rfl ?_
     obtain ⟨v47, h48, hr⟩ := bind_some hr
     refine cl (basic_Fault_run _ _ _ h48) rfl rfl ?_
     refine rn tk 6 rfl ?_
     cases hr
     exact kr tk (.inr rfl) rfl rfl
    ·
     refine rn tk 3 rfl ?_
     obtain ⟨v49, h50, hr⟩ := bind_some hr
     refine dr 2 [(26, .agg [.i v49.Code, .i v49.Index]), (25, .agg [.s a0.From, .l TRecipient.pc j10, .s a0.Id])] mixed (by kernel_rfl) rfl rfl (pq tk rfl (.plain rfl) (.run (.plain rfl) (opG_call (basic_None_run  v49 h50) rfl) .nil)) rfl ?_
     refine rn tk 5 rfl ?_
     cases hr
     exact kr tk (.inr rfl) rfl rfl
theorem envelope_Merge_run (a0 : List TRecipient) (r : (List TRecipient) × TFault) (hr : envelope_Merge a0 = some r) : Run Try.prog 18 [.l TRecipient.pc a0] (.tup [.l TRecipient.pc r.1, .agg [.i r.2.Code, .i r.2.Index]]) := by
 unfold envelope_Merge at hr
 refine rf (fn := Try.f18) ⟨Try.func18, rfl, by kernel_rfl⟩ rfl (fun _ => rfl) fun g0 hg => ?_
 refine rn tk 10 rfl ?_
 refine wn tk rfl rfl rfl ?_
 refine rn tk 3 rfl ?_
 refine ac 12 hr rfl (fun c1 hr => ?_) (fun c1 hr => ?_)
 ·
  refine rn tk 2 rfl ?_
  obtain ⟨v2, h3, hr⟩ := bind_some hr
  refine cl (basic_Fault_run _ _ _ h3) rfl rfl ?_
  refine rn tk 6 rfl ?_
  cases hr
  exact kr tk (.inr rfl) rfl rfl
 ·
  refine rn tk 4 rfl ?_
  refine wo (opTo_makeMap (k0 := 14) 1014 false rfl rfl rfl) rfl ?_
  refine rn tk 6 rfl ?_
  refine awpl_adoptM 1005 (d := 5) 36 2 rfl rfl rfl (hO ?_)
  refine rn tk 6 rfl ?_
  refine wn tk rfl rfl rfl ?_
  refine rn tk 4 rfl ?_
  refine al2 hr (fun s4 => [(3, .ptr 3 0), (4, .mp 1014), (5, .hs 1005 0), (15, .l TRecipient.pc a0), (16, .i ((a0.length : Int))), (17, .i s4.1)]) (fun s4 => [(1005, .row 36 true 2 (List.map TRecipient.pc s4.2.1)), (1014, .mapo false (menc keyS cI s4.2.2)), (3, .cells [.i 0, .i 0])]) (.exit 0) (fun b5 => [(3, .ptr 3 0), (5, .hs 1005 0)]) (fun b5 => [(1005, .row 36 true 2 (List.map TRecipient.pc b5)), (3, .cells [.i 0, .i 0])]) .ret (fun b6 => [(2, .l TRecipient.pc b6.1), (3, .ptr 3 0)]) (fun b6 => [(3, .cells [.i b6.2.Code, .i b6.2.Index])]) rfl rfl (fun s4 x8 hr => ?_) (fun b5 hr => ?_) (fun b6 hr => ?_)
  ·
   unfold envelope_Merge_l1 at hr
   refine rn tk 6 rfl ?_
   refine ac 18 hr rfl (fun c9 hr => ?_) (fun c9 hr => ?_)
   ·
    refine rn tk 2 rfl ?_
    refine jk (fun j10 => [(3, .ptr 3 0), (4, .mp 1014), (5, .hs 1005 0), (15, .l TRecipient.pc a0), (16, .i ((a0.length : Int))), (17, .i s4.1)]) (fun j10 => [(1005, .row 36 true 2 (List.map TRecipient.pc j10.1)), (1014, .mapo false (menc keyS cI j10.2)), (3, .cells [.i 0, .i 0])]) (fun j10 => envelope_Merge_k2 s4 j10 = some x8) ?_ ?_
    ·
     refine rn tk 4 rfl ?_
     obtain ⟨v11, h12, hr⟩ := bind_some hr
     refine wi tk h12 rfl rfl rfl rfl rfl ?_
     refine rn tk 11 rfl ?_
     obtain ⟨v13, h14, hr⟩ := bind_some hr
     refine cl (envelope_Address_run _ _ h14) rfl rfl ?_
     refine rn tk 3 rfl ?_
     refine ac 25 hr rfl (fun c15 hr => ?_) (fun c15 hr => ?_)
     ·
      refine rn tk 3 rfl ?_
      obtain ⟨v16, h17, hr⟩ := bind_some hr
      refine cl (basic_Fault_run _ _ _ h17) rfl rfl ?_
      refine rn tk 8 rfl ?_
      cases hr
      exact ato rfl rfl rfl rfl
     ·
      refine rn tk 7 rfl ?_
      obtain ⟨v18, h19, hr⟩ := bind_some hr
      refine cl (envelope_Notify_run _ _ h19) rfl rfl ?_
      refine rn tk 3 rfl ?_
      refine ac 31 hr rfl (fun c20 hr => ?_) (fun c20 hr => ?_)
      ·
       refine rn tk 3 rfl ?_
       obtain ⟨v21, h22, hr⟩ := bind_some hr
       refine cl (basic_Fault_run _ _ _ h22) rfl rfl ?_
       refine rn tk 8 rfl ?_
       cases hr
       exact ato rfl rfl rfl rfl
      ·
       refine rn tk 7 rfl ?_
       refine wq (ev_lookupOk (KK := keyS) (F := cI) (es := s4.2.2) (k := v11.Address) (z := 0) rfl rfl rfl ty_map_string_int.u ty_string.u ty_int rfl) rfl rfl rfl ?_
       refine rn tk 13 rfl ?_
       refine ac 41 hr rfl (fun c23 hr => ?_) (fun c23 hr => ?_)
       ·
        refine rn tk 1 rfl ?_
        obtain ⟨v24, h25, hr⟩ := bind_some hr
        obtain ⟨v26, h27, hr⟩ := bind_some hr
        refine dr 7 [(48, .i v11.Notify), (47, .ptr 7 1), (46, .i v26.Notify), (45, .hp 1005 (Int.toNat (((mget s4.2.2 v11.Address).getD 0))) 1), (44, .hp 1005 (Int.toNat (((mget s4.2.2 v11.Address).getD 0))) 0), (43, .i (((mget s4.2.2 v11.Address).getD 0))), (42, .hs 1005 0)] mixed (by kernel_rfl) rfl rfl (pq tk rfl (.plain rfl) (pq tk rfl (.plain rfl) (.run (.plain rfl) (opG_q (ev_hidx (F := TRecipient.pc) (l := s4.2.1) (n := (((mget s4.2.2 v11.Address).getD 0))) rfl rfl rfl ty_s_api_Recipient ty_api_Recipient h25)) (pq tk rfl (.plain rfl) (.run (.plain rfl) (opG_q (ev_hload (F := TRecipient.pc) (l := s4.2.1) (n := (((mget s4.2.2 v11.Address).getD 0))) (j := 1) rfl rfl ty_int rfl h27 rfl)) (pq tk rfl (.plain rfl) (pq tk rfl (.plain rfl) .nil))))))) rfl ?_
        refine wq (ev_ior rfl rfl) rfl rfl rfl ?_
        obtain ⟨v28, h29, hr⟩ := bind_some hr
        refine wih tk h29 rfl rfl rfl rfl rfl ?_
        refine rn tk 1 rfl ?_
        obtain ⟨v30, h31, hr⟩ := bind_some hr
        refine wo (opTo_hstore (F := TRecipient.pc) (l := s4.2.1) (n := (((mget s4.2.2 v11.Address).getD 0))) (j := 1) (v := v30) (v' := ((TRecipient.mk v30.Address ((iOr v26.Notify v11.Notify))))) (pcs := [pI ((iOr v26.Notify v11.Notify))]) rfl rfl rfl ty_int rfl h31 rfl rfl) rfl ?_
        refine rn tk 5 rfl ?_
        exact jn (((List.set s4.2.1 (Int.toNat (((mget s4.2.2 v11.Address).getD 0))) ((TRecipient.mk v30.Address ((iOr v26.Notify v11.Notify))))), s4.2.2)) hr rfl rfl
       ·
        refine rn tk 8 rfl ?_
        refine wnh tk rfl rfl rfl rfl ?_
        refine wo (opTo_mapUpdate (KK := keyS) (F := cI) (es := s4.2.2) (k := v11.Address) (v := ((s4.2.1.length : Int))) rfl rfl rfl rfl rfl ty_map_string_int.u ty_string.u) rfl ?_
        refine rn tk 5 rfl ?_
        refine wz TRecipient.pc ([v11] : List TRecipient) tk rfl rfl (fun _ => rfl) rfl rfl rfl ?_
        obtain ⟨v32, h33, hr⟩ := bind_some hr
        refine wa tk h33 rfl rfl rfl rfl (fun _ => rfl) rfl rfl ?_
        refine rn tk 3 rfl ?_
        exact jn ((v32, (mput s4.2.2 v11.Address ((s4.2.1.length : Int))))) hr rfl rfl
    ·
     intro j10 hr
     unfold envelope_Merge_k2 at hr
     refine rn tk 4 rfl ?_
     cases hr
     exact atc rfl rfl
   ·
    refine rn tk 2 rfl ?_
    cases hr
    exact ato rfl rfl rfl rfl
  ·
   refine rn tk 5 rfl ?_
   obtain ⟨v34, h35, hr⟩ := bind_some hr
   refine cl (basic_None_run _ h35) rfl rfl ?_
   refine rn tk 4 rfl ?_
   refine awp_unmu 1005 rfl (hC ?_)
   refine awp_pub (d := 2) (F := TRecipient.pc) (l := b5) rfl rfl (hC ?_)
   refine rn tk 1 rfl ?_
   cases hr
   exact kr tk (.inr rfl) rfl rfl
  ·
   refine rn tk 2 rfl ?_
   cases hr
   exact kr tk (.inr rfl) rfl rfl
theorem L_envelopes_run  (r : Bool) (hr : L_envelopes = some r) : Run Try.prog 12 [] (.bo r) := by
 unfold L_envelopes at hr
 refine rf (fn := Try.f12) ⟨Try.func12, rfl, by kernel_rfl⟩ rfl (fun _ => rfl) fun g0 hg => ?_
 refine rn tk 9 rfl ?_
 refine wz TRecipient.pc ([(TRecipient.mk (([97, 64, 120] : Str)) 0), (TRecipient.mk (([98, 64, 121] : Str)) 1)] : List TRecipient) tk rfl rfl (fun _ => rfl) rfl rfl rfl ?_
 refine rn tk 8 rfl ?_
 obtain ⟨v1, h2, hr⟩ := bind_some hr
 refine cl (envelope_Domains_run _ _ h2) rfl rfl ?_
 refine rn tk 11 rfl ?_
 obtain ⟨v3, h4, hr⟩ := bind_some hr
 refine cl (envelope_For_run _ _ _ h4) rfl rfl ?_
 refine rn tk 13 rfl ?_
 refine wz TRecipient.pc ([(TRecipient.mk (([97, 64, 98] : Str)) 1), (TRecipient.mk (([97, 64, 98] : Str)) 4)] : List TRecipient) tk rfl rfl (fun _ => rfl) rfl rfl rfl ?_
 obtain ⟨v5, h6, hr⟩ := bind_some hr
 refine cl (envelope_Merge_run _ _ h6) rfl rfl ?_
 refine rn tk 8 rfl ?_
 refine jb hr (fun j7 => [(0, .bo j7)]) (fun j7 => []) (fun j7 hr => ?_) (fun j7 hr => ?_)
 ·
  refine rn tk 5 rfl ?_
  refine bs 32 hr rfl (fun c8 hr => ?_) (fun c8 hr => ?_)
  ·
   refine rn tk 5 rfl ?_
   refine bs 37 hr rfl (fun c9 hr => ?_) (fun c9 hr => ?_)
   ·
    refine rn tk 5 rfl ?_
    refine bs 42 hr rfl (fun c10 hr => ?_) (fun c10 hr => ?_)
    ·
     refine rn tk 1 rfl ?_
     refine ug rfl rfl rfl ?_
     refine wz cS ([([120] : Str), ([121] : Str)] : List Str) tk rfl rfl (fun _ => rfl) rfl rfl rfl ?_
     obtain ⟨v11, h12, hr⟩ := bind_some hr
     refine ug rfl rfl rfl ?_
     refine cl (R_Strings_run _ _ _ h12) rfl rfl ?_
     refine rn tk 2 rfl ?_
     refine bs 47 hr rfl (fun c13 hr => ?_) (fun c13 hr => ?_)
     ·
      refine rn tk 3 rfl ?_
      refine ug rfl rfl rfl ?_
      refine wz TRecipient.pc ([(TRecipient.mk (([98, 64, 121] : Str)) 1)] : List TRecipient) tk rfl rfl (fun _ => rfl) rfl rfl rfl ?_
      obtain ⟨v14, h15, hr⟩ := bind_some hr
      refine ug rfl rfl rfl ?_
      refine cl (R_SameRecipients_run _ _ _ h15) rfl rfl ?_
      refine rn tk 2 rfl ?_
      refine bs 54 hr rfl (fun c16 hr => ?_) (fun c16 hr => ?_)
      ·
       refine rn tk 2 rfl ?_
       refine ug rfl rfl rfl ?_
       refine wz TRecipient.pc ([(TRecipient.mk (([97, 64, 98] : Str)) 5)] : List TRecipient) tk rfl rfl (fun _ => rfl) rfl rfl rfl ?_
       obtain ⟨v17, h18, hr⟩ := bind_some hr
       refine ug rfl rfl rfl ?_
       refine cl (R_SameRecipients_run _ _ _ h18) rfl rfl ?_
       refine rn tk 2 rfl ?_
       refine bs 60 hr rfl (fun c19 hr => ?_) (fun c19 hr => ?_)
       ·
        refine rn tk 1 rfl ?_
        obtain ⟨v20, h21, hr⟩ := bind_some hr
        refine ug rfl rfl rfl ?_
        refine cl (envelope_Validate_run _ _ h21) rfl rfl ?_
        obtain ⟨v22, h23, hr⟩ := bind_some hr
        refine ug rfl rfl rfl ?_
        refine cl (R_At_run _ _ _ h23) rfl rfl ?_
        refine ug rfl rfl rfl ?_
        refine wq (ev_structeq rfl rfl ty_api_Fault cmp_api_Fault (.int rfl (by decide) ty_int (.int rfl (by decide) ty_int .nil))) rfl rfl rfl ?_
        refine rn tk 3 rfl ?_
        cases hr
        exact jn _ rfl rfl rfl
       ·
        refine rn tk 7 rfl ?_
        cases hr
        exact jn _ rfl rfl rfl
      ·
       refine rn tk 13 rfl ?_
       cases hr
       exact jn _ rfl rfl rfl
     ·
      refine rn tk 20 rfl ?_
      cases hr
      exact jn _ rfl rfl rfl
    ·
     refine rn tk 25 rfl ?_
     cases hr
     exact jn _ rfl rfl rfl
   ·
    refine rn tk 30 rfl ?_
    cases hr
    exact jn _ rfl rfl rfl
  ·
   refine rn tk 35 rfl ?_
   cases hr
   exact jn _ rfl rfl rfl
 ·
  refine rn tk 1 rfl ?_
  cases hr
  exact kr tk (.inr rfl) rfl rfl
theorem R_Known_run (a0 : List TRecipient) (a1 : Str) (r : Int) (hr : R_Known a0 a1 = some r) : Run Try.prog 23 [.l TRecipient.pc a0, .s a1] (.i r) := by
 unfold R_Known at hr
 refine rf (fn := Try.f23) ⟨Try.func23, rfl, by kernel_rfl⟩ rfl (fun _ => rfl) fun g0 hg => ?_
 refine rn tk 12 rfl ?_
 refine al2 hr (fun s1 => [(0, .l TRecipient.pc a0), (1, .s a1), (5, .i s1)]) (fun s1 => []) (.exit 0) (fun b2 => []) (fun b2 => []) .ret (fun b3 => [(4, .i b3)]) (fun b3 => []) rfl rfl (fun s1 x5 hr => ?_) (fun b2 hr => ?_) (fun b3 hr => ?_)
 ·
  unfold R_Known_l1 at hr
  refine rn tk 5 rfl ?_
  refine wn tk rfl rfl rfl ?_
  refine rn tk 3 rfl ?_
  refine ac 9 hr rfl (fun c6 hr => ?_) (fun c6 hr => ?_)
  ·
   refine rn tk 8 rfl ?_
   obtain ⟨v7, h8, hr⟩ := bind_some hr
   refine wi tk h8 rfl rfl rfl rfl rfl ?_
   refine rn tk 6 rfl ?_
   refine ac 18 hr rfl (fun c9 hr => ?_) (fun c9 hr => ?_)
   ·
    refine rn tk 9 rfl ?_
    cases hr
    exact ato rfl rfl rfl rfl
   ·
    refine rn tk 8 rfl ?_
    cases hr
    exact atc rfl rfl
  ·
   refine rn tk 2 rfl ?_
   cases hr
   exact ato rfl rfl rfl rfl
 ·
  refine rn tk 8 rfl ?_
  cases hr
  exact kr tk (.inr rfl) rfl rfl
 ·
  refine rn tk 2 rfl ?_
  cases hr
  exact kr tk (.inr rfl) rfl rfl
theorem L_EnvelopesOfDomainsJoin_run (a0 : TEnvelope) (r : Bool) (hr : L_EnvelopesOfDomainsJoin a0 = some r) : Run Try.prog 5 [.agg [.s a0.From, .l TRecipient.pc a0.To, .s a0.Id]] (.bo r) := by
 unfold L_EnvelopesOfDomainsJoin at hr
 refine rf (fn := Try.f5) ⟨Try.func5, rfl, by kernel_rfl⟩ rfl (fun _ => rfl) fun g0 hg => ?_
 refine rn tk 9 rfl ?_
 obtain ⟨v1, h2, hr⟩ := bind_some hr
 refine cl (envelope_Domains_run _ _ h2) rfl rfl ?_
 refine rn tk 9 rfl ?_
 refine jb hr (fun j3 => [(1, .ptr 1 0), (3, .l cS v1.1), (22, .bo j3)]) (fun j3 => [(1, .cells [.s a0.From, .l TRecipient.pc a0.To, .s a0.Id])]) (fun j3 hr => ?_) (fun j3 hr => ?_)
 ·
  refine rn tk 1 rfl ?_
  obtain ⟨v4, h5, hr⟩ := bind_some hr
  refine cl (L_envelopes_run _ h5) rfl rfl ?_
  refine rn tk 2 rfl ?_
  refine bs 18 hr rfl (fun c6 hr => ?_) (fun c6 hr => ?_)
  ·
   refine rn tk 5 rfl ?_
   cases hr
   exact jn _ rfl rfl rfl
  ·
   refine rn tk 5 rfl ?_
   cases hr
   exact jn _ rfl rfl rfl
 ·
  refine ac 22 hr rfl (fun c7 hr => ?_) (fun c7 hr => ?_)
  ·
   refine jb hr (fun j8 => [(2, .bo j8)]) (fun j8 => []) (fun j8 hr => ?_) (fun j8 hr => ?_)
   ·
    refine rn tk 1 rfl ?_
    obtain ⟨v9, h10, hr⟩ := bind_some hr
    refine cl (L_envelopes_run _ h10) rfl rfl ?_
    refine rn tk 1 rfl ?_
    refine bs 24 hr rfl (fun c11 hr => ?_) (fun c11 hr => ?_)
    ·
     refine rn tk 1 rfl ?_
     refine ug rfl rfl rfl ?_
     refine wn tk rfl rfl rfl ?_
     refine rn tk 4 rfl ?_
     cases hr
     exact jn _ rfl rfl rfl
    ·
     refine rn tk 6 rfl ?_
     cases hr
     exact jn _ rfl rfl rfl
   ·
    refine rn tk 2 rfl ?_
    cases hr
    exact kr tk (.inr rfl) rfl rfl
  ·
   refine rn tk 5 rfl ?_
   refine awpl_adopt 1005 (d := 5) 36 2 rfl rfl rfl (hO ?_)
   refine rn tk 9 rfl ?_
   refine al2 hr (fun s12 => [(1, .ptr 1 0), (3, .l cS v1.1), (5, .hs 1005 0), (6, .i s12.1)]) (fun s12 => [(1005, .row 36 false 2 (List.map TRecipient.pc s12.2)), (1, .cells [.s a0.From, .l TRecipient.pc a0.To, .s a0.Id])]) (.exit 0) (fun b13 => [(1, .ptr 1 0), (5, .hs 1005 0)]) (fun b13 => [(1005, .row 36 false 2 (List.map TRecipient.pc b13)), (1, .cells [.s a0.From, .l TRecipient.pc a0.To, .s a0.Id])]) .ret (fun b14 => [(2, .bo b14)]) (fun b14 => []) rfl rfl (fun s12 x16 hr => ?_) (fun b13 hr => ?_) (fun b14 hr => ?_)
   ·
    unfold L_EnvelopesOfDomainsJoin_l1 at hr
    refine rn tk 5 rfl ?_
    refine wn tk rfl rfl rfl ?_
    refine rn tk 3 rfl ?_
    refine ac 32 hr rfl (fun c17 hr => ?_) (fun c17 hr => ?_)
    ·
     refine rn tk 5 rfl ?_
     obtain ⟨v18, h19, hr⟩ := bind_some hr
     obtain ⟨v20, h21, hr⟩ := bind_some hr
     refine drF 11 8 [(8, .ptr 8 0), (7, .ptr 7 0), (43, .agg [.i v20.2.Code, .i v20.2.Index]), (42, .agg [.s v20.1.From, .l TRecipient.pc v20.1.To, .s v20.1.Id]), (35, .tup [.agg [.s v20.1.From, .l TRecipient.pc v20.1.To, .s v20.1.Id], .agg [.i v20.2.Code, .i v20.2.Index]]), (41, .tup [.agg [.s v20.1.From, .l TRecipient.pc v20.1.To, .s v20.1.Id], .agg [.i v20.2.Code, .i v20.2.Index]]), (40, .s v18), (39, .ep [pS v18]), (38, .i s12.1), (37, .l cS v1.1), (36, .agg [.s a0.From, .l TRecipient.pc a0.To, .s a0.Id])] [(8, .ptr 8 0), (7, .ptr 7 0), (43, .any), (42, .agg [.s v20.1.From, .l TRecipient.pc v20.1.To, .s v20.1.Id]), (35, .tup [.agg [.s v20.1.From, .l TRecipient.pc v20.1.To, .s v20.1.Id], .agg [.i v20.2.Code, .i v20.2.Index]]), (41, .tup [.agg [.s v20.1.From, .l TRecipient.pc v20.1.To, .s v20.1.Id], .agg [.i v20.2.Code, .i v20.2.Index]]), (40, .s v18), (39, .ep [pS v18]), (38, .i s12.1), (37, .l cS v1.1), (36, .agg [.s a0.From, .l TRecipient.pc a0.To, .s a0.Id])] ([(1, .ptr 1 0), (3, .l cS v1.1), (5, .hs 1005 0), (6, .i s12.1), (7, .ptr 7 0), (8, .ptr 8 0), (29, .i s12.1), (30, .l cS v1.1), (31, .i ((v1.1.length : Int))), (32, .bo true), (35, .tup [.agg [.s v20.1.From, .l TRecipient.pc v20.1.To, .s v20.1.Id], .agg [.i v20.2.Code, .i v20.2.Index]]), (36, .agg [.s a0.From, .l TRecipient.pc a0.To, .s a0.Id]), (37, .l cS v1.1), (38, .i s12.1), (39, .ep [pS v18]), (40, .s v18), (41, .tup [.agg [.s v20.1.From, .l TRecipient.pc v20.1.To, .s v20.1.Id], .agg [.i v20.2.Code, .i v20.2.Index]]), (42, .agg [.s v20.1.From, .l TRecipient.pc v20.1.To, .s v20.1.Id]), (43, .agg [.i v20.2.Code, .i v20.2.Index])]) ([(8, .cells [.i 0, .i 0]), (7, .cells [.s v20.1.From, .l TRecipient.pc v20.1.To, .s v20.1.Id]), (1005, .row 36 false 2 (List.map TRecipient.pc s12.2)), (1, .cells [.s a0.From, .l TRecipient.pc a0.To, .s a0.Id])]) mixed (by kernel_rfl) rfl rfl rfl rfl rfl (pqA tk rfl (.plain rfl) (pqA tk rfl (.plain rfl) (pqA tk rfl (.plain rfl) (.run (.plain rfl) (opG_q (ev_idx (f := cS) rfl rfl ty_s_string ty_string rfl h19)) (pqA tk rfl (.plain rfl) (.run (.plain rfl) (opG_call (envelope_For_run a0 v18 v20 h21) rfl) (pqA tk rfl (.plain rfl) (pqA tk rfl (.plain rfl) (pqA tk rfl (.plain rfl) (pnA 7 tk rfl rfl rfl (.plain rfl) (pnA 8 tk rfl rfl rfl (.plain rfl) .nil))))))))))) rfl rfl rfl rfl rfl (fun H => ?_) (fun H => ?_) ?_
     ·
      refine rn tk 1 rfl ?_
      exact H _ _ rfl rfl
     ·
      refine rn tk 2 rfl ?_
      exact H _ _ rfl rfl
     ·
      refine rn tk 4 rfl ?_
      refine jb hr (fun j22 => [(1, .ptr 1 0), (3, .l cS v1.1), (5, .hs 1005 0), (6, .i s12.1), (7, .ptr 7 0), (52, .bo j22)]) (fun j22 => [(7, .cells [.s v20.1.From, .l TRecipient.pc v20.1.To, .s v20.1.Id]), (1005, .row 36 false 2 (List.map TRecipient.pc s12.2)), (1, .cells [.s a0.From, .l TRecipient.pc a0.To, .s a0.Id])]) (fun j22 hr => ?_) (fun j22 hr => ?_)
      ·
       refine rn tk 5 rfl ?_
       refine bs 47 hr rfl (fun c23 hr => ?_) (fun c23 hr => ?_)
       ·
        refine rn tk 6 rfl ?_
        cases hr
        exact jn _ rfl rfl rfl
       ·
        refine rn tk 1 rfl ?_
        obtain ⟨v24, h25, hr⟩ := bind_some hr
        refine ug rfl rfl rfl ?_
        refine cl (envelope_Validate_run _ _ h25) rfl rfl ?_
        refine rn tk 1 rfl ?_
        refine ug rfl rfl rfl ?_
        refine wq (ev_structne rfl rfl ty_api_Fault cmp_api_Fault (.int rfl (by decide) ty_int (.int rfl (by decide) ty_int .nil))) rfl rfl rfl ?_
        refine rn tk 2 rfl ?_
        cases hr
        exact jn _ rfl rfl rfl
      ·
       refine ac 52 hr rfl (fun c26 hr => ?_) (fun c26 hr => ?_)
       ·
        refine rn tk 9 rfl ?_
        cases hr
        exact ato rfl rfl rfl rfl
       ·
        refine rn tk 6 rfl ?_
        obtain ⟨v27, h28, hr⟩ := bind_some hr
        refine wa tk h28 rfl rfl rfl rfl (fun _ => rfl) rfl rfl ?_
        refine rn tk 9 rfl ?_
        cases hr
        exact atc rfl rfl
    ·
     refine rn tk 2 rfl ?_
     cases hr
     exact ato rfl rfl rfl rfl
   ·
    refine rn tk 6 rfl ?_
    refine wnh tk rfl rfl rfl rfl ?_
    refine rn tk 2 rfl ?_
    refine wn tk rfl rfl rfl ?_
    refine rn tk 3 rfl ?_
    refine ac 62 hr rfl (fun c29 hr => ?_) (fun c29 hr => ?_)
    ·
     refine rn tk 7 rfl ?_
     cases hr
     exact kr tk (.inr rfl) rfl rfl
    ·
     refine rn tk 9 rfl ?_
     refine al2 hr (fun s30 => [(1, .ptr 1 0), (5, .hs 1005 0), (9, .i s30)]) (fun s30 => [(1005, .row 36 false 2 (List.map TRecipient.pc b13)), (1, .cells [.s a0.From, .l TRecipient.pc a0.To, .s a0.Id])]) (.exit 2) (fun b31 => []) (fun b31 => []) .ret (fun b32 => [(2, .bo b32)]) (fun b32 => []) rfl rfl (fun s30 x34 hr => ?_) (fun b31 hr => ?_) (fun b32 hr => ?_)
     ·
      unfold L_EnvelopesOfDomainsJoin_l2 at hr
      refine rn tk 6 rfl ?_
      refine wn tk rfl rfl rfl ?_
      refine rn tk 3 rfl ?_
      refine ac 67 hr rfl (fun c35 hr => ?_) (fun c35 hr => ?_)
      ·
       refine rn tk 10 rfl ?_
       obtain ⟨v36, h37, hr⟩ := bind_some hr
       refine wi tk h37 rfl rfl rfl rfl rfl ?_
       refine rn tk 2 rfl ?_
       refine awpl_pub (d := 70) (F := TRecipient.pc) (l := b13) rfl rfl (hO ?_)
       obtain ⟨v38, h39, hr⟩ := bind_some hr
       refine cl (R_Known_run _ _ _ h39) rfl rfl ?_
       refine rn tk 3 rfl ?_
       refine jb hr (fun j40 => [(1, .ptr 1 0), (5, .hs 1005 0), (9, .i s30), (91, .bo j40)]) (fun j40 => [(1005, .row 36 false 2 (List.map TRecipient.pc b13)), (1, .cells [.s a0.From, .l TRecipient.pc a0.To, .s a0.Id])]) (fun j40 hr => ?_) (fun j40 hr => ?_)
       ·
        refine bool_split (decide (v38 < 0)) (fun c41 => ?_) (fun c41 => ?_)
        ·
         replace hr := cond_t c41 hr
         refine dr 12 [(89, .tup []), (88, .tup []), (87, .tup []), (86, .tup []), (85, .tup []), (84, .tup []), (83, .tup []), (82, .tup []), (81, .tup []), (80, .bo (decide (v38 < 0))), (79, .bo (decide (v38 < 0))), (78, .i v38)] mixed (by kernel_rfl) rfl rfl (pq tk rfl (.plain rfl) (pq tk rfl (.plain rfl) (pq tk rfl (.plain rfl) (.skip (.no (d := 80) rfl rfl rfl c41) (.skip (.no (d := 80) rfl rfl rfl c41) (.skip (.no (d := 80) rfl rfl rfl c41) (.skip (.no (d := 80) rfl rfl rfl c41) (.skip (.no (d := 80) rfl rfl rfl c41) (.skip (.no (d := 80) rfl rfl rfl c41) (.skip (.no (d := 80) rfl rfl rfl c41) (.skip (.no (d := 80) rfl rfl rfl c41) (.skip (.no (d := 80) rfl rfl rfl c41) .nil)))))))))))) rfl ?_
         refine kn 80 c41 rfl ?_
         refine rn tk 3 rfl ?_
         cases hr
         exact jn _ rfl rfl rfl
        ·
         replace hr := cond_f c41 hr
         obtain ⟨v42, h43, hr⟩ := bind_some hr
         obtain ⟨v44, h45, hr⟩ := bind_some hr
         obtain ⟨v46, h47, hr⟩ := bind_some hr
         refine dr 12 [(89, .agg [.s v46.Address, .i v46.Notify]), (88, .ep [pS v46.Address, pI v46.Notify]), (87, .i s30), (86, .l TRecipient.pc a0.To), (85, .ptr 1 1), (84, .agg [.s v44.Address, .i v44.Notify]), (83, .hp 1005 (Int.toNat v38) 0), (82, .i v38), (81, .hs 1005 0), (80, .bo (decide (v38 < 0))), (79, .bo (decide (v38 < 0))), (78, .i v38)] mixed (by kernel_rfl) rfl rfl (pq tk rfl (.plain rfl) (pq tk rfl (.plain rfl) (pq tk rfl (.plain rfl) (pq tk rfl (.yes (d := 80) rfl rfl rfl c41) (pq tk rfl (.yes (d := 80) rfl rfl rfl c41) (.run (.yes (d := 80) rfl rfl rfl c41) (opG_q (ev_hidx (F := TRecipient.pc) (l := b13) (n := v38) rfl rfl rfl ty_s_api_Recipient ty_api_Recipient h43)) (.run (.yes (d := 80) rfl rfl rfl c41) (opG_q (ev_hloadN (F := TRecipient.pc) (l := b13) (n := v38) (j := 0) rfl rfl ty_api_Recipient rfl h45 rfl)) (pq tk rfl (.yes (d := 80) rfl rfl rfl c41) (pq tk rfl (.yes (d := 80) rfl rfl rfl c41) (pq tk rfl (.yes (d := 80) rfl rfl rfl c41) (.run (.yes (d := 80) rfl rfl rfl c41) (opG_q (ev_idx (f := TRecipient.pc) rfl rfl ty_s_api_Recipient ty_api_Recipient rfl h47)) (pq tk rfl (.yes (d := 80) rfl rfl rfl c41) .nil)))))))))))) rfl ?_
         refine kn 80 c41 rfl ?_
         refine ug rfl rfl rfl ?_
         refine wq (ev_structne rfl rfl ty_api_Recipient cmp_api_Recipient (.str rfl (by decide) ty_string (.int rfl (by decide) ty_int .nil))) rfl rfl rfl ?_
         refine rn tk 2 rfl ?_
         cases hr
         exact jn _ rfl rfl rfl
       ·
        refine ac 91 hr rfl (fun c48 hr => ?_) (fun c48 hr => ?_)
        ·
         refine rn tk 8 rfl ?_
         cases hr
         exact ato rfl rfl rfl rfl
        ·
         refine rn tk 8 rfl ?_
         cases hr
         exact atc rfl rfl
      ·
       refine rn tk 2 rfl ?_
       cases hr
       exact ato rfl rfl rfl rfl
     ·
      refine rn tk 8 rfl ?_
      cases hr
      exact kr tk (.inr rfl) rfl rfl
     ·
      refine rn tk 2 rfl ?_
      cases hr
      exact kr tk (.inr rfl) rfl rfl
   ·
    refine rn tk 2 rfl ?_
    cases hr
    exact kr tk (.inr rfl) rfl rfl
end Go.Proofs.Ytfhfjckjmacekaa

namespace Go.Proofs.Ytfhfjckjmacekaa.envelopesOfDomainsJoin
open Go.ChangeShapes Go.WideShapes Go.ChangeAt Go.RowKit
set_option linter.unusedVariables false
set_option maxRecDepth 100000

theorem contract (H : Type) (enc : TypeId × Value → H) (W : World) (base : Nat) (args : Array Value) (ds gs : List (DataW H)) (before : List MemPlace)
    (hval : ∀ (j : Nat) t v, Try.f5.params[j]? = some t → args[j]? = some v → Value.okWide Try.prog W .any base t v)
    (hW : DataW.Whole enc Try.prog Try.f5.params.toList Rows.envelopesOfDomainsJoinSpec.vars false W args.toList ds gs before) (hk : Rows.uptoSmall H (ds ++ gs) = true) (hgl : Gl (gAll W)) :
    Calls Try.prog 5 args W fun e W' => ∃ v, e = .returned v ∧ Rows.envelopesOfDomainsJoinSpec.post enc Try.prog Try.f5 false true false false W args v W' := by
  have hW' := hW
  obtain ⟨p, q, hA0, hV, rfl, hfz, hnd⟩ := hW
  have hA : DataW.TrodAll enc Try.prog W 0 (fun _ => true) true Try.f5.params.toList args.toList ds p := hA0
  rw [Try.params5] at hA hval
  obtain ⟨v0, vs0, d0, ds0, p0, q0, hargs, rfl, rfl, h0, r0⟩ := trodAll_cons hA
  obtain ⟨rfl, rfl, rfl⟩ := trodAll_nil r0
  obtain rfl : args = #[v0] := by cases args; simp_all
  obtain ⟨rfl, rfl⟩ := trodVars_none hV
  obtain ⟨a0, e0, o0, k0⟩ := arg_agg op_api_Envelope (by obtain ⟨cs, h, _⟩ := okWide_struct ty_api_Envelope.u (hval 0 _ v0 rfl rfl); exact ⟨cs, h⟩) h0
  have hk2 := of_decide_eq_true hk
  simp only [List.append_nil, Rows.uptoBulkAll] at hk2
  have ht := L_EnvelopesOfDomainsJoin_true a0 o0 (by (try dsimp only); omega)
  have key : Calls Try.prog 5 #[v0] W fun e W' => e = .returned (.bool true) ∧ Below W.heap.size W W' := calls_of_run (L_EnvelopesOfDomainsJoin_run a0 true ht) hgl (relArgs_of (.cons e0 .nil))
  refine key.mono fun e W' ⟨he, hb⟩ => ⟨_, he, ?_⟩
  exact post_true laidOut (by kernel_rfl) Try.underlying4 (by kernel_rfl) rfl rfl hW' hb

theorem lifted (os : Os) (started : os.Started) (H : Type) (enc : TypeId × Value → H) (F : Stop.Interp) :
    ReturnsInHanded {} Try.checked os 5 .any ((Rows.OpenSpec.upto Rows.envelopesOfDomainsJoinSpec).pre6 enc Try.prog Try.f5 Rows.envelopesOfDomainsJoinUptoRow.domain false) (((Rows.OpenSpec.upto Rows.envelopesOfDomainsJoinSpec).at F).post enc Try.prog Try.f5 false true false false) := by
  refine returnsInHanded_of_cond_shaped (C := Try.checked) (s := Rows.OpenSpec.upto Rows.envelopesOfDomainsJoinSpec) (k := Rows.uptoSmall) rfl own started (by kernel_rfl) Try.func5
    (OpenSpec.witness (enc := enc) (C := Try.checked) (s := Rows.OpenSpec.upto Rows.envelopesOfDomainsJoinSpec) (k := Rows.uptoSmall) rfl false ⟨#[], #[.agg #[.string ⟨#[]⟩, .slice none 0 0, .string ⟨#[]⟩]], []⟩ 8 (by kernel_rfl) (by kernel_rfl) (by kernel_rfl)
      (x := ([.agg [.lit (.string []), .nil, .lit (.string [])]], [], [])) (by kernel_rfl) rfl (by kernel_rfl)) ?_
  intro W base args ds gs before hval hW _ hk hsh _
  exact contract H enc W base args ds gs before hval hW hk (gl_of_shaped hsh)

theorem over : Rows.envelopesOfDomainsJoinUptoRow.holds Try.pinned (Rows.OpenSpec.upto Rows.envelopesOfDomainsJoinSpec) :=
  OpenClaim.holds_of_cond 5 Try.f5 rfl rfl rfl rfl rfl rfl rfl ⟨rfl, rfl, rfl, rfl, rfl⟩ rfl rfl rfl rfl rfl (by kernel_rfl) Try.func5 (by kernel_rfl)
    (of_decide_eq_true (by kernel_rfl)) (by unfold Func.isWrapper; first | (rw [if_pos (by decide +kernel)]; kernel_rfl) | (rw [if_neg (by decide +kernel)]; exact ⟨rfl, rfl⟩))
    (fun os started H enc _ F => lifted os started H enc F)

theorem proved : Rows.EnvelopesOfDomainsJoinUptoSaid := over
#print axioms proved
end Go.Proofs.Ytfhfjckjmacekaa.envelopesOfDomainsJoin

/- Part 2 of the proof of the law EnvelopeMatchesSpec: what it needs. -/
import Derived.Test.YtfhfjckjmacekaaKEnvelopeMatchesSpec1
import Derived.Test.YtfhfjckjmacekaaShelf
set_option linter.unusedVariables false
set_option linter.unusedSimpArgs false
/- Envelopes by domains: the plain functions, and what the typed functions compute. -/
namespace Go.Proofs.Ytfhfjckjmacekaa
open Go.RowKit
set_option linter.unusedVariables false
set_option maxHeartbeats 1000000

instance : DecidableEq TRecipient := fun a b => decidable_of_iff (a.Address = b.Address ∧ a.Notify = b.Notify) (by cases a; cases b; simp)
instance : DecidableEq TFault := fun a b => decidable_of_iff (a.Code = b.Code ∧ a.Index = b.Index) (by cases a; cases b; simp)
instance : DecidableEq TEnvelope := fun a b => decidable_of_iff (a.From = b.From ∧ a.To = b.To ∧ a.Id = b.Id) (by cases a; cases b; simp)
theorem rec_eq (a b : TRecipient) : allEq [(a.Address == b.Address), (a.Notify == b.Notify)] = (a == b) := by
  cases a; cases b
  rw [Bool.eq_iff_iff]
  simp [allEq]
theorem R_SameRecipients_eq (a b : List TRecipient) (ha : a.length ≤ 1048576) : R_SameRecipients a b = some (a == b) := by
  unfold R_SameRecipients
  by_cases hlen : a.length = b.length
  · have h1 : ((a.length : Int) != (b.length : Int)) = false := by rw [hlen]; simp
    rw [h1]
    simp only [cond_false]
    rw [iter_first a (fun i x => if b[i]? != some x then some false else none) (.inl ()) .inr]
    · simp only [Option.bind_some]
      cases hf : firstI (fun i x => if b[i]? != some x then some false else none) 0 a with
      | none =>
        rw [firstI_none] at hf
        have : a = b := by
          apply List.ext_getElem?
          intro i
          by_cases hi : i < a.length
          · have := hf i a[i] (List.getElem?_eq_getElem hi)
            rw [Nat.zero_add] at this
            rw [List.getElem?_eq_getElem hi]
            simp at this; exact this.symm
          · rw [List.getElem?_eq_none (by omega), List.getElem?_eq_none (by omega)]
        subst this; simp
      | some r =>
        obtain ⟨i, x, hx, hq⟩ := firstI_some hf
        rw [Nat.zero_add] at hq
        split at hq
        · cases hq
          rename_i hne
          have : (a == b) = false := by
            rw [beq_eq_false_iff_ne]
            rintro rfl
            rw [hx] at hne; simp at hne
          rw [this]; rfl
        · cases hq
    · unfold R_SameRecipients_l1; rw [dec_len]; rfl
    · intro i x hx
      have hi := lt_get hx
      unfold R_SameRecipients_l1
      have hib : i < b.length := by omega
      rw [dec_lt hx, idx_get hx, idx_lt hib, List.getElem?_eq_getElem hib]
      simp only [cond_true, Option.bind_some, sc i (by omega), rec_eq]
      by_cases hxb : x = b[i]
      · subst hxb; simp
      · have e1 : (x == b[i]) = false := by simpa using hxb
        have e2 : (some b[i] != some x) = true := by simp; exact fun h => hxb h.symm
        rw [e1, e2]; rfl
  · have h1 : ((a.length : Int) != (b.length : Int)) = true := by simp; omega
    rw [h1]
    simp only [cond_true]
    have : (a == b) = false := by rw [beq_eq_false_iff_ne]; rintro rfl; exact hlen rfl
    rw [this]
def domOf (s : Str) : Str := if atP s < s.length then s.drop (atP s + 1) else []
theorem splitP_dom (s : Str) : (splitP s).2.1 = domOf s := by
  unfold splitP domOf
  by_cases h : atP s < s.length
  · rw [if_pos h, if_pos h]
  · rw [if_neg h, if_neg h]
theorem R_DomainOf_eq (s : Str) (hs : s.length ≤ 1048576) : R_DomainOf s = some (domOf s) := by
  unfold R_DomainOf domOf
  rw [R_sign_eq s (by omega)]
  have hle : atP s ≤ s.length := List.findIdx_le_length
  simp only [Option.bind_some]
  by_cases h : atP s < s.length
  · have e : (((atP s : Nat) : Int) == (s.length : Int)) = false := by rw [beq_eq_false_iff_ne]; omega
    rw [e, if_pos h, sc _ (by omega)]
    simp only [cond_false]
    rw [cut_nl (by omega)]; rfl
  · have e : (((atP s : Nat) : Int) == (s.length : Int)) = true := by rw [beq_iff_eq]; omega
    rw [e, if_neg h]; rfl
theorem slices_Contains_eq (l : List Str) (s : Str) (hl : l.length ≤ 1048576) : slices_Contains_string_string l s = some (l.contains s) := by
  unfold slices_Contains_string_string slices_Index_string_string
  rw [iter_first l (fun i x => if x == s then some ((i : Nat) : Int) else none) (.inl ()) .inr]
  · simp only [Option.bind_some, elim_idx, first_idx (fun x => x == s) l 0]
    congr 1
    rw [Bool.eq_iff_iff]; simp
  · unfold slices_Index_string_string_l1; rw [dec_len]; rfl
  · intro i x hx
    have hi := lt_get hx
    unfold slices_Index_string_string_l1
    rw [dec_lt hx, idx_get hx]
    have e : (s == x) = (x == s) := by rw [Bool.eq_iff_iff]; simp; exact ⟨fun h => h.symm, fun h => h.symm⟩
    simp only [cond_true, Option.bind_some, sc i (by omega), e]
    cases x == s <;> rfl
def addD (acc : List Str) (r : TRecipient) : List Str := if acc.contains (domOf r.Address) then acc else acc ++ [domOf r.Address]
def domsP (l : List TRecipient) : List Str := l.foldl addD []
def domsE (e : TEnvelope) : List Str × TFault := if (envF e).Code != 0 then ([], envF e) else (domsP e.To, ⟨0, 0⟩)
theorem addD_len (acc : List Str) (r : TRecipient) : (addD acc r).length ≤ acc.length + 1 := by unfold addD; split <;> simp
theorem envelope_Domains_eq (e : TEnvelope) (h : smallE e) : envelope_Domains e = some (domsE e) := by
  unfold envelope_Domains domsE
  rw [envelope_Validate_eq e h]
  simp only [Option.bind_some, basic_Failed_eq, basic_None_eq]
  obtain ⟨_, _, h3, h4⟩ := h
  cases (envF e).Code != 0 with
  | true => rfl
  | false =>
    simp only [cond_false, Bool.false_eq_true, if_false]
    have := (iter_fold e.To (fun i acc => (i, acc)) addD (fun acc => acc) (fun i acc => acc.length ≤ i) (body := envelope_Domains_l1 e) (fun s hs => by unfold envelope_Domains_l1; simp [dec_len]) (fun i r acc hr hi => by
      have hlt := lt_get hr
      have ha := h4 r (List.mem_of_getElem? hr)
      refine ⟨?_, Nat.le_trans (addD_len acc r) (by omega)⟩
      unfold envelope_Domains_l1
      dsimp only
      rw [dec_lt hr, idx_get hr]
      simp only [cond_true, Option.bind_some, envelope_Split_eq _ (show r.Address.length < 4294967281 by omega), splitP_dom, slices_Contains_eq acc _ (by omega), sc i (by omega)]
      unfold addD
      cases acc.contains (domOf r.Address) with
      | true => rfl
      | false => simp only [Bool.not_false, cond_true, Bool.false_eq_true, if_false]; rw [app_ok (by simp; omega)]; rfl) ([] : List Str) (by simp)).1
    rw [this]; rfl
def inDom (d : Str) (r : TRecipient) : Bool := domOf r.Address == d
def forE (e : TEnvelope) (d : Str) : TEnvelope × TFault :=
  if (envF e).Code != 0 then (⟨[], [], []⟩, envF e) else if e.To.filter (inDom d) = [] then (⟨[], [], []⟩, ⟨6, -13⟩) else (⟨e.From, e.To.filter (inDom d), e.Id⟩, ⟨0, 0⟩)
theorem clr0_take {α : Type} (l : List α) (i : Nat) (z : α) (h : i ≤ l.length) : (clr0 l i z).take i = l.take i := by
  unfold clr0; simp [List.take_append, h]
theorem envelope_For_eq (e : TEnvelope) (d : Str) (h : smallE e) : envelope_For e d = some (forE e d) := by
  unfold envelope_For forE
  rw [envelope_Validate_eq e h]
  simp only [Option.bind_some, basic_Failed_eq, basic_None_eq, basic_Fault_eq]
  obtain ⟨_, _, h3, h4⟩ := h
  cases (envF e).Code != 0 with
  | true => rfl
  | false =>
    simp only [cond_false, Bool.false_eq_true, if_false]
    rw [app_ok (by simp; omega)]
    simp only [List.nil_append, Option.bind_some]
    rw [nilE_same _ _ _ (fun he => by rw [List.isEmpty_iff.1 he])]
    simp only [Option.bind_some]
    have hl1 : iter (envelope_For_l1 d e.To) 0 = some ((firstI (fun i x => if !inDom d x then some ((i : Nat) : Int) else none) 0 e.To).elim (.inl ()) .inr) := by
      refine iter_first e.To _ (Sum.inl ()) Sum.inr ?_ ?_
      · unfold envelope_For_l1; rw [dec_len]; rfl
      · intro i r hr
        have hlt := lt_get hr
        have ha := h4 r (List.mem_of_getElem? hr)
        unfold envelope_For_l1
        rw [dec_lt hr, idx_get hr]
        simp only [cond_true, Option.bind_some, envelope_Split_eq _ (show r.Address.length < 4294967281 by omega), splitP_dom, sc i (by omega)]
        unfold inDom bne
        cases domOf r.Address == d <;> rfl
    rw [hl1]
    simp only [Option.bind_some, elim_idx]
    have key : ∀ X : Option (List TRecipient), X = some (e.To.filter (inDom d)) → (X.bind fun j10 => bif ((j10.length : Int) == 0) then some ((⟨[], [], []⟩ : TEnvelope), (⟨6, -13⟩ : TFault)) else some (⟨e.From, j10, e.Id⟩, ⟨0, 0⟩)) = some (if e.To.filter (inDom d) = [] then (⟨[], [], []⟩, ⟨6, -13⟩) else (⟨e.From, e.To.filter (inDom d), e.Id⟩, ⟨0, 0⟩)) := by
      rintro _ rfl
      simp only [Option.bind_some]
      by_cases hn : e.To.filter (inDom d) = []
      · rw [hn]; simp
      · have : (((e.To.filter (inDom d)).length : Int) == 0) = false := by
          rw [beq_eq_false_iff_ne]
          have := List.length_pos_iff.2 hn
          omega
        rw [this, if_neg hn]; rfl
    refine key _ ?_
    cases hf : firstI (fun i x => if !inDom d x then some ((i : Nat) : Int) else none) 0 e.To with
    | none =>
      rw [firstI_none] at hf
      have hall : e.To.filter (inDom d) = e.To := by
        rw [List.filter_eq_self]
        intro x hx
        obtain ⟨i, hi⟩ := List.mem_iff_getElem?.1 hx
        have := hf i x hi
        cases hq : inDom d x with
        | true => rfl
        | false => rw [hq] at this; simp at this
      rw [hall]; rfl
    | some j =>
      obtain ⟨j, rfl, x, hx, hxq, hbefore⟩ : ∃ n : Nat, j = (n : Int) ∧ ∃ x, e.To[n]? = some x ∧ inDom d x = false ∧ ∀ y ∈ e.To.take n, inDom d y = true := by
        have aux : ∀ (r : List TRecipient) (n : Nat) (j : Int), firstI (fun i x => if !inDom d x then some ((i : Nat) : Int) else none) n r = some j → ∃ m : Nat, j = ((n + m : Nat) : Int) ∧ ∃ x, r[m]? = some x ∧ inDom d x = false ∧ ∀ y ∈ r.take m, inDom d y = true := by
          intro r
          induction r with
          | nil => intro n j hj; cases hj
          | cons y r ih =>
            intro n j hj
            unfold firstI at hj
            cases hy : inDom d y with
            | false => rw [hy] at hj; simp at hj; exact ⟨0, by omega, y, rfl, hy, by simp⟩
            | true =>
              rw [hy] at hj
              simp only [Bool.not_true, Bool.false_eq_true, if_false] at hj
              obtain ⟨m, h1, x, h2, h3, h4⟩ := ih (n + 1) j hj
              refine ⟨m + 1, by omega, x, by simpa using h2, h3, fun z hz => ?_⟩
              rw [List.take_succ_cons] at hz
              rcases List.mem_cons.1 hz with rfl | hz
              · exact hy
              · exact h4 z hz
        obtain ⟨m, h1, h2⟩ := aux e.To 0 j hf
        exact ⟨m, by omega, h2⟩
      have hjl := lt_get hx
      have hne : (((j : Nat) : Int) == -1) = false := by rw [beq_eq_false_iff_ne]; omega
      simp only [Option.getD_some, hne, cond_false, sc j (by omega)]
      obtain ⟨L', q1, q2, q3⟩ := down_loop (fun r => !inDom d r) e.To (fun r => r.Address.length ≤ 1048576) (body := envelope_For_l2 d) (fun i L hL => by unfold envelope_For_l2; simp [hL, dec_len]) (fun i k L r hL hr hik ha => by
        have hlt := lt_get hr
        have hil : i < L.length := by omega
        unfold envelope_For_l2
        dsimp only
        rw [dec_lt hr, idx_get hr, idx_lt hil]
        simp only [cond_true, Option.bind_some, envelope_Split_eq _ (show r.Address.length < 4294967281 by omega), splitP_dom, sc i (by omega), sc k (by omega)]
        unfold inDom bne
        cases domOf r.Address == d <;> rfl) (e.To.drop (j + 1)) j (j + 1) e.To rfl rfl (by omega) (by omega) h4
      have e9 : (fun r => !!inDom d r) = inDom d := by funext r; simp
      rw [e9] at q1 q3
      rw [q1]
      simp only [Option.bind_some]
      have hfil : e.To.filter (inDom d) = e.To.take j ++ (e.To.drop (j + 1)).filter (inDom d) := by
        conv => lhs; rw [← List.take_append_drop j e.To, List.filter_append]
        have h5 : (e.To.take j).filter (inDom d) = e.To.take j := List.filter_eq_self.2 hbefore
        have h6 : e.To.drop j = x :: e.To.drop (j + 1) := by
          rw [List.drop_eq_getElem_cons hjl]
          congr 1
          rw [List.getElem?_eq_getElem hjl] at hx
          exact Option.some.inj hx
        rw [h5, h6, List.filter_cons, hxq]; simp
      have hlen : j + ((e.To.drop (j + 1)).filter (inDom d)).length ≤ L'.length := by
        rw [q2]
        have := List.length_filter_le (inDom d) (e.To.drop (j + 1))
        simp at this; omega
      rw [cut_nl hlen]
      simp only [Option.bind_some, Int.toNat_natCast]
      rw [cut_0n (by unfold clr0; simp; omega), clr0_take _ _ _ hlen, q3, hfil]; rfl
end Go.Proofs.Ytfhfjckjmacekaa

/- The union of recipients: the plain functions, and what the typed functions compute. -/
namespace Go.Proofs.Ytfhfjckjmacekaa
open Go.RowKit
set_option linter.unusedVariables false
set_option maxHeartbeats 1000000

/-! ### conditions -/
def eithS (a b : Int) (s : Int × Int) : Int × Int := (bif (iRem (iQuo a s.2) 2 == 1 || iRem (iQuo b s.2) 2 == 1) then w64 (s.1 + s.2) else s.1, w64 (2 * s.2))
def eithP (a b : Int) : Int := (eithS a b (eithS a b (eithS a b (0, 1)))).1
theorem eith_step (a b n k : Int) (hk : k ≤ 4) (h0 : (k == 0) = false) : R_Either_l1 a b (n, k) = some (.cont (eithS a b (n, k))) := by
  unfold R_Either_l1 eithS
  have h1 : decide (k ≤ 4) = true := by simp; exact hk
  have h2 : nz k = some true := by unfold nz; rw [h0]; rfl
  dsimp only
  rw [h1, h2]
  simp only [cond_true, Option.bind_some]
  cases iRem (iQuo a k) 2 == 1 <;> cases iRem (iQuo b k) 2 == 1 <;> rfl
theorem R_Either_eq (a b : Int) : R_Either a b = some (eithP a b) := by
  unfold R_Either
  have e1 : (eithS a b (0, 1)).2 = 2 := show w64 (2 * 1) = 2 by decide
  have e2 : ∀ n, (eithS a b (n, 2)).2 = 4 := fun n => show w64 (2 * 2) = 4 by decide
  have e3 : ∀ n, (eithS a b (n, 4)).2 = 8 := fun n => show w64 (2 * 4) = 8 by decide
  rw [iter_cont (eith_step a b 0 1 (by decide) (by decide))]
  have f1 : eithS a b (0, 1) = ((eithS a b (0, 1)).1, 2) := Prod.ext rfl e1
  rw [f1, iter_cont (eith_step a b _ 2 (by decide) (by decide))]
  have f2 : ∀ n, eithS a b (n, 2) = ((eithS a b (n, 2)).1, 4) := fun n => Prod.ext rfl (e2 n)
  rw [f2, iter_cont (eith_step a b _ 4 (by decide) (by decide))]
  have f3 : ∀ n, eithS a b (n, 4) = ((eithS a b (n, 4)).1, 8) := fun n => Prod.ext rfl (e3 n)
  rw [f3]
  have hlast : ∀ n : Int, R_Either_l1 a b (n, 8) = some (.out n) := by intro n; unfold R_Either_l1; rfl
  rw [iter_out (hlast _)]
  unfold eithP
  rw [f1, f2]; rfl
theorem eith_small : ∀ a b : Fin 8, eithP (a.val : Int) (b.val : Int) = iOr (a.val : Int) (b.val : Int) ∧ noteP (eithP (a.val : Int) (b.val : Int)) = true := by decide +kernel
theorem note_fin {n : Int} (h : noteP n = true) : ∃ a : Fin 8, n = (a.val : Int) := by
  unfold noteP at h
  simp at h
  exact ⟨⟨n.toNat, by omega⟩, by simp; omega⟩
theorem eith_or {a b : Int} (ha : noteP a = true) (hb : noteP b = true) : eithP a b = iOr a b ∧ noteP (iOr a b) = true := by
  obtain ⟨x, rfl⟩ := note_fin ha
  obtain ⟨y, rfl⟩ := note_fin hb
  obtain ⟨h1, h2⟩ := eith_small x y
  exact ⟨h1, h1 ▸ h2⟩

/-! ### one recipient for each address -/
def orL (n : Int) (l : List TRecipient) : Int := l.foldl (fun n r => iOr n r.Notify) n
def sameA (s : Str) (r : TRecipient) : Bool := r.Address == s
/-- one for each address, as the first of them stands -/
def mergeP : Nat → List TRecipient → List TRecipient
  | 0, _ => []
  | _, [] => []
  | n + 1, r :: t => ⟨r.Address, orL r.Notify (t.filter (sameA r.Address))⟩ :: mergeP n (t.filter fun x => !sameA r.Address x)
theorem mergeP_enough : ∀ (n m : Nat) (l : List TRecipient), l.length ≤ n → l.length ≤ m → mergeP n l = mergeP m l := by
  intro n
  induction n with
  | zero => intro m l h1 h2; have : l = [] := List.length_eq_zero_iff.1 (by omega); subst this; cases m <;> rfl
  | succ n ih =>
    intro m l h1 h2
    cases l with
    | nil => cases m <;> rfl
    | cons r t =>
      cases m with
      | zero => simp at h2
      | succ m =>
        unfold mergeP
        congr 1
        have := List.length_filter_le (fun x => !sameA r.Address x) t
        simp at h1 h2
        exact ih m _ (by omega) (by omega)
def merged (l : List TRecipient) : List TRecipient := mergeP l.length l
theorem merged_cons (r : TRecipient) (t : List TRecipient) : merged (r :: t) = ⟨r.Address, orL r.Notify (t.filter (sameA r.Address))⟩ :: merged (t.filter fun x => !sameA r.Address x) := by
  unfold merged
  rw [List.length_cons, mergeP]
  congr 1
  have := List.length_filter_le (fun x => !sameA r.Address x) t
  exact mergeP_enough _ _ _ this (Nat.le_refl _)
def hasA (out : List TRecipient) (s : Str) : Bool := out.any (sameA s)
def putR (out : List TRecipient) (r : TRecipient) : List TRecipient := if hasA out r.Address then out.map (fun x => if sameA r.Address x then ⟨x.Address, iOr x.Notify r.Notify⟩ else x) else out ++ [r]
theorem put_merged : ∀ (l out : List TRecipient), l.foldl putR out = out.map (fun x => ⟨x.Address, orL x.Notify (l.filter (sameA x.Address))⟩) ++ merged (l.filter fun x => !hasA out x.Address) := by
  intro l
  induction l with
  | nil => intro out; simp [orL, merged, mergeP]
  | cons r t ih =>
    intro out
    rw [List.foldl_cons, ih]
    unfold putR
    cases hh : hasA out r.Address with
    | true =>
      simp only [if_true, List.map_map]
      have hs : ∀ s, hasA (out.map fun x => if sameA r.Address x then (⟨x.Address, iOr x.Notify r.Notify⟩ : TRecipient) else x) s = hasA out s := by
        intro s
        unfold hasA
        rw [List.any_map]
        congr 1
        funext x
        show sameA s (if sameA r.Address x then _ else x) = sameA s x
        by_cases hq : sameA r.Address x = true
        · rw [if_pos hq]; rfl
        · rw [if_neg hq]
      have h1 : (r :: t).filter (fun x => !hasA out x.Address) = t.filter fun x => !hasA out x.Address := by rw [List.filter_cons, hh]; rfl
      rw [h1]
      simp only [hs]
      congr 1
      apply List.map_congr_left
      intro x hx
      simp only [Function.comp]
      by_cases hr : sameA r.Address x = true
      · rw [if_pos hr]
        have : r.Address = x.Address := by simpa [sameA] using (beq_iff_eq.1 hr).symm
        have h2 : (r :: t).filter (sameA x.Address) = r :: t.filter (sameA x.Address) := by
          rw [List.filter_cons]; simp [sameA, this]
        rw [h2]; rfl
      · rw [if_neg hr]
        have h2 : (r :: t).filter (sameA x.Address) = t.filter (sameA x.Address) := by
          rw [List.filter_cons]
          have : sameA x.Address r = false := by
            rw [Bool.eq_false_iff]; intro h; exact hr (by simp [sameA] at h ⊢; exact h.symm)
          rw [this]; rfl
        rw [h2]
    | false =>
      simp only [Bool.false_eq_true, if_false, List.map_append, List.map_cons, List.map_nil, List.append_assoc]
      have h1 : (r :: t).filter (fun x => !hasA out x.Address) = r :: t.filter fun x => !hasA out x.Address := by rw [List.filter_cons, hh]; rfl
      rw [h1, merged_cons]
      have hno : ∀ x ∈ out, sameA x.Address r = false := by
        intro x hx
        unfold hasA at hh
        rw [List.any_eq_false] at hh
        have := hh x hx
        rw [Bool.eq_false_iff]
        intro h
        exact this (by simp [sameA] at h ⊢; exact h.symm)
      congr 1
      · apply List.map_congr_left
        intro x hx
        rw [List.filter_cons, hno x hx]; rfl
      · have h3 : (t.filter fun x => !hasA out x.Address).filter (sameA r.Address) = t.filter (sameA r.Address) := by
          rw [List.filter_filter]
          apply List.filter_congr
          intro x hx
          by_cases hs : sameA r.Address x = true
          · have : x.Address = r.Address := by simpa [sameA] using hs
            rw [hs, this, hh]; rfl
          · rw [Bool.not_eq_true] at hs; rw [hs]; rfl
        have h4 : (t.filter fun x => !hasA out x.Address).filter (fun x => !sameA r.Address x) = t.filter fun x => !hasA (out ++ [r]) x.Address := by
          rw [List.filter_filter]
          apply List.filter_congr
          intro x hx
          unfold hasA
          rw [List.any_append]
          simp only [List.any_cons, List.any_nil, Bool.or_false, Bool.not_or]
          have : sameA x.Address r = sameA r.Address x := by unfold sameA; rw [Bool.eq_iff_iff]; simp; exact ⟨fun h => h.symm, fun h => h.symm⟩
          rw [this, Bool.and_comm]
        rw [h3, h4]; rfl
theorem put_all (l : List TRecipient) : l.foldl putR [] = merged l := by
  rw [put_merged]
  have : l.filter (fun x => !hasA [] x.Address) = l := List.filter_eq_self.2 (fun x _ => by simp [hasA])
  rw [this]; rfl
/-- the same by the reference's way -/
def refM : List TRecipient → List TRecipient → List TRecipient
  | out, [] => out
  | out, r :: t => refM (if hasA out r.Address then out else out ++ [⟨r.Address, orL r.Notify (t.filter (sameA r.Address))⟩]) t
theorem refM_eq : ∀ (l out : List TRecipient), refM out l = out ++ merged (l.filter fun x => !hasA out x.Address) := by
  intro l
  induction l with
  | nil => intro out; simp [refM, merged, mergeP]
  | cons r t ih =>
    intro out
    unfold refM
    rw [ih]
    cases hh : hasA out r.Address with
    | true =>
      simp only [if_true]
      rw [List.filter_cons, hh]; rfl
    | false =>
      simp only [Bool.false_eq_true, if_false]
      have h1 : (r :: t).filter (fun x => !hasA out x.Address) = r :: t.filter fun x => !hasA out x.Address := by rw [List.filter_cons, hh]; rfl
      rw [h1, merged_cons, List.append_assoc]
      have h3 : (t.filter fun x => !hasA out x.Address).filter (sameA r.Address) = t.filter (sameA r.Address) := by
        rw [List.filter_filter]
        apply List.filter_congr
        intro x hx
        by_cases hs : sameA r.Address x = true
        · have : x.Address = r.Address := by simpa [sameA] using hs
          rw [hs, this, hh]; rfl
        · rw [Bool.not_eq_true] at hs; rw [hs]; rfl
      have h4 : (t.filter fun x => !hasA out x.Address).filter (fun x => !sameA r.Address x) = t.filter fun x => !hasA (out ++ [⟨r.Address, orL r.Notify (t.filter (sameA r.Address))⟩]) x.Address := by
        rw [List.filter_filter]
        apply List.filter_congr
        intro x hx
        unfold hasA
        rw [List.any_append]
        simp only [List.any_cons, List.any_nil, Bool.or_false, Bool.not_or]
        have : sameA x.Address (⟨r.Address, orL r.Notify (t.filter (sameA r.Address))⟩ : TRecipient) = sameA r.Address x := by unfold sameA; rw [Bool.eq_iff_iff]; simp; exact ⟨fun h => h.symm, fun h => h.symm⟩
        rw [this, Bool.and_comm]
      rw [h3, h4]; rfl
theorem refM_all (l : List TRecipient) : refM [] l = merged l := by
  rw [refM_eq]
  have : l.filter (fun x => !hasA [] x.Address) = l := List.filter_eq_self.2 (fun x _ => by simp [hasA])
  rw [this]; rfl
theorem orL_filter (s : Str) : ∀ (l : List TRecipient) (n : Int), noteP n = true → (∀ r ∈ l, noteP r.Notify = true) → l.foldl (fun n r => if r.Address == s then eithP n r.Notify else n) n = orL n (l.filter (sameA s)) := by
  intro l
  induction l with
  | nil => intro n _ _; rfl
  | cons r t ih =>
    intro n hn h
    have hr := h r (by simp)
    obtain ⟨e1, e2⟩ := eith_or hn hr
    rw [List.foldl_cons, List.filter_cons]
    unfold sameA
    by_cases hs : (r.Address == s) = true
    · rw [if_pos hs, if_pos hs, ih _ (by rw [e1]; exact e2) (fun x hx => h x (by simp [hx])), e1]; rfl
    · rw [if_neg hs, if_neg hs, ih _ hn (fun x hx => h x (by simp [hx]))]; rfl
end Go.Proofs.Ytfhfjckjmacekaa

/- The union of recipients: what the typed functions compute; the closed example. -/
namespace Go.Proofs.Ytfhfjckjmacekaa
open Go.RowKit
set_option linter.unusedVariables false
set_option maxHeartbeats 1000000

def mq (i : Nat) (r : TRecipient) : Option TFault := if !addrP r.Address then some ⟨10, i⟩ else if !noteP r.Notify then some ⟨3, i⟩ else none
def mergeE (l : List TRecipient) : List TRecipient × TFault := if 300 < l.length then ([], ⟨2, -1⟩) else match firstI mq 0 l with | some f => ([], f) | none => (merged l, ⟨0, 0⟩)
theorem firstI_cons {α R : Type} (q : Nat → α → Option R) (i : Nat) (x : α) (r : List α) : firstI q i (x :: r) = match q i x with | some y => some y | none => firstI q (i + 1) r := rfl
def posA (out : List TRecipient) (s : Str) : Option Nat := out.findIdx? (sameA s)
theorem posA_has (out : List TRecipient) (s : Str) : (posA out s).isSome = hasA out s := by unfold posA hasA; exact List.findIdx?_isSome
theorem posA_app (out : List TRecipient) (r : TRecipient) (s : Str) (h : hasA out r.Address = false) : posA (out ++ [r]) s = if r.Address == s then some out.length else posA out s := by
  unfold posA
  rw [List.findIdx?_append]
  by_cases hs : (r.Address == s) = true
  · rw [if_pos hs]
    have e : r.Address = s := beq_iff_eq.1 hs
    subst e
    have : out.findIdx? (sameA r.Address) = none := by
      have := posA_has out r.Address
      rw [h] at this
      unfold posA at this
      simpa using this
    rw [this]
    simp [sameA]
  · rw [if_neg hs]
    have : sameA s r = false := by unfold sameA; simpa using hs
    simp [List.findIdx?_cons, this]
theorem posA_map (out : List TRecipient) (f : TRecipient → TRecipient) (hf : ∀ x, (f x).Address = x.Address) (s : Str) : posA (out.map f) s = posA out s := by
  unfold posA
  rw [List.findIdx?_map]
  congr 1
  funext x
  simp [Function.comp, sameA, hf]
theorem posA_get : ∀ (out : List TRecipient) (s : Str) (k : Nat), posA out s = some k → ∃ x, out[k]? = some x ∧ x.Address = s := by
  intro out s k h
  unfold posA at h
  rw [List.findIdx?_eq_some_iff_getElem] at h
  obtain ⟨h1, h2, _⟩ := h
  exact ⟨out[k], List.getElem?_eq_getElem h1, by simpa [sameA] using h2⟩
theorem set_map (s : Str) (f : TRecipient → TRecipient) : ∀ (out : List TRecipient) (k : Nat) (x : TRecipient), (out.map (·.Address)).Nodup → posA out s = some k → out[k]? = some x → out.set k (f x) = out.map (fun y => if sameA s y then f y else y) := by
  intro out
  induction out with
  | nil => intro k x _ h; simp [posA] at h
  | cons y out ih =>
    intro k x hn hp hk
    rw [List.map_cons, List.nodup_cons] at hn
    unfold posA at hp
    rw [List.findIdx?_cons] at hp
    by_cases hy : sameA s y = true
    · rw [if_pos hy] at hp
      cases hp
      simp at hk; subst hk
      rw [List.set_cons_zero, List.map_cons, if_pos hy]
      congr 1
      symm
      rw [List.map_congr_left (g := id)]
      · simp
      · intro z hz
        have : ¬ sameA s z = true := by
          intro h
          have e1 : y.Address = s := by simpa [sameA] using hy
          have e2 : z.Address = s := by simpa [sameA] using h
          exact hn.1 (by rw [e1, ← e2]; exact List.mem_map_of_mem hz)
        rw [if_neg this]; rfl
    · rw [if_neg hy] at hp
      cases hq : out.findIdx? (sameA s) with
      | none => rw [hq] at hp; simp at hp
      | some k' =>
        rw [hq] at hp
        simp at hp
        subst hp
        rw [List.set_cons_succ, List.map_cons, if_neg hy, ih k' x hn.2 hq (by simpa using hk)]
structure MInv (i : Nat) (out : List TRecipient) (m : List (Str × Int)) : Prop where
  len : out.length ≤ i
  nd : (out.map (·.Address)).Nodup
  mp : ∀ s, mget m s = (posA out s).map fun k => ((k : Nat) : Int)
theorem MInv.put {i : Nat} {out : List TRecipient} {m : List (Str × Int)} (h : MInv i out m) (r : TRecipient) : MInv (i + 1) (putR out r) (if hasA out r.Address then m else mput m r.Address (out.length : Int)) := by
  unfold putR
  cases hh : hasA out r.Address with
  | true =>
    simp only [if_true]
    have hf : ∀ x : TRecipient, (if sameA r.Address x then (⟨x.Address, iOr x.Notify r.Notify⟩ : TRecipient) else x).Address = x.Address := by intro x; split <;> rfl
    refine ⟨by simp; have := h.len; omega, ?_, fun s => ?_⟩
    · rw [List.map_map, show ((·.Address) ∘ fun x : TRecipient => if sameA r.Address x then (⟨x.Address, iOr x.Notify r.Notify⟩ : TRecipient) else x) = (·.Address) from funext hf]; exact h.nd
    · rw [posA_map _ _ hf]; exact h.mp s
  | false =>
    simp only [Bool.false_eq_true, if_false]
    refine ⟨by simp; exact h.len, ?_, fun s => ?_⟩
    · rw [List.map_append, List.nodup_append]
      refine ⟨h.nd, by simp, ?_⟩
      intro a ha b hb
      simp at hb; subst hb
      rintro rfl
      obtain ⟨x, hx, hxe⟩ := List.mem_map.1 ha
      unfold hasA at hh
      rw [List.any_eq_false] at hh
      exact hh x hx (by simp [sameA, hxe])
    · rw [mget_mputG, posA_app _ _ _ hh, h.mp s]
      by_cases hs : (r.Address == s) = true
      · rw [if_pos hs, if_pos hs]; rfl
      · rw [if_neg hs, if_neg hs]
theorem envelope_Merge_eq (l : List TRecipient) (h : smallR l) : envelope_Merge l = some (mergeE l) := by
  obtain ⟨h3, h4⟩ := h
  unfold envelope_Merge mergeE
  by_cases h300 : 300 < l.length
  · have : decide ((300 : Int) < (l.length : Int)) = true := by simp; omega
    rw [this, if_pos h300]; rfl
  · have : decide ((300 : Int) < (l.length : Int)) = false := by simp; omega
    rw [this, if_neg h300]
    simp only [cond_false]
    rw [iter_listI (body := envelope_Merge_l1 l) (s0 := ((0 : Int), ([] : List TRecipient), ([] : List (Str × Int)))) (S := List TRecipient × List (Str × Int)) l (fun i s => ((i : Int), s.1, s.2)) (fun i r s => match firstI mq i r with | some f => Sum.inr ([], f) | none => Sum.inl (r.foldl putR s.1)) (fun i r s => MInv i s.1 s.2)
      (fun s hi => by unfold envelope_Merge_l1; simp [dec_len, firstI])
      (fun p x r s hl hi => by
        have hx : l[p.length]? = some x := by rw [hl]; simp
        have hlt := lt_get hx
        have ha := h4 x (List.mem_of_getElem? hx)
        have hil := hi.len
        have hmp := hi.mp x.Address
        have hq0 : mq p.length x = if !addrP x.Address then some ⟨10, (p.length : Int)⟩ else if !noteP x.Notify then some ⟨3, (p.length : Int)⟩ else none := rfl
        rw [firstI_cons, hq0]
        unfold envelope_Merge_l1
        dsimp only
        rw [dec_lt hx, idx_get hx]
        simp only [cond_true, Option.bind_some, envelope_Address_eq _ (show x.Address.length < 4294967281 by omega), envelope_Notify_eq, basic_Fault_eq]
        cases hA : addrP x.Address with
        | false => left; rfl
        | true =>
          cases hN : noteP x.Notify with
          | false => left; rfl
          | true =>
            right
            simp only [Bool.not_true, cond_false, Bool.false_eq_true, if_false]
            refine ⟨(putR s.1 x, if hasA s.1 x.Address then s.2 else mput s.2 x.Address (s.1.length : Int)), ?_, rfl, hi.put x⟩
            unfold envelope_Merge_k2
            rw [hmp]
            cases hp : posA s.1 x.Address with
            | some k =>
              obtain ⟨y, hy, hya⟩ := posA_get _ _ _ hp
              have hh : hasA s.1 x.Address = true := by rw [← posA_has, hp]; rfl
              simp only [Option.map_some, Option.isSome_some, cond_true, Option.getD_some, idx_get hy, Option.bind_some, Int.toNat_natCast, sc p.length (by omega), hh, if_true]
              unfold putR
              rw [hh, if_pos rfl, set_map x.Address (fun y => ⟨y.Address, iOr y.Notify x.Notify⟩) s.1 k y hi.nd hp hy]
            | none =>
              have hh : hasA s.1 x.Address = false := by rw [← posA_has, hp]; rfl
              simp only [Option.map_none, Option.isSome_none, cond_false, hh, Bool.false_eq_true, if_false]
              rw [app_ok (by simp; omega)]
              simp only [Option.bind_some, sc p.length (by omega)]
              unfold putR
              rw [hh]; rfl) ([], []) rfl ⟨Nat.le_refl _, by simp, fun s => rfl⟩]
    simp only [Option.bind_some, basic_None_eq, put_all]
    cases firstI mq 0 l with
    | some f => rfl
    | none => rfl
theorem R_Merged_eq (l : List TRecipient) (h : l.length ≤ 1048576) (hn : ∀ r ∈ l, noteP r.Notify = true) : R_Merged l = some (merged l) := by
  unfold R_Merged
  rw [iter_listI (body := R_Merged_l1 l) (s0 := ((0 : Int), ([] : List TRecipient))) (S := List TRecipient) l (fun i s => ((i : Int), s)) (fun i r s => refM s r) (fun i r s => s.length ≤ i)
    (fun s hi => by unfold R_Merged_l1; simp [dec_len, refM])
    (fun p x r s hl hi => by
      have hx : l[p.length]? = some x := by rw [hl]; simp
      have hlt := lt_get hx
      have hnx := hn x (List.mem_of_getElem? hx)
      right
      refine ⟨_, ?_, rfl, ?_⟩
      · unfold R_Merged_l1
        dsimp only
        rw [dec_lt hx, idx_get hx]
        simp only [cond_true, Option.bind_some, R_Known_eq _ _ (show s.length ≤ 1048576 by omega), sc p.length (by omega)]
        have hk : decide ((0 : Int) ≤ (firstI (fun i y => if y.Address == x.Address then some ((i : Nat) : Int) else none) 0 s).getD (-1)) = hasA s x.Address := first_idx (fun y => y.Address == x.Address) s 0
        rw [hk]
        cases hh : hasA s x.Address with
        | true => rfl
        | false =>
          have hin := iter_foldFrom l (fun i (n : Int) => (i, n)) (fun n y => if y.Address == x.Address then eithP n y.Notify else n) (fun n => n) (fun _ _ => True) (body := R_Merged_l2 l x)
            (fun n _ => by unfold R_Merged_l2; simp [dec_len]) (fun i y n hy _ => by
              have hlt2 := lt_get hy
              refine ⟨?_, trivial⟩
              unfold R_Merged_l2
              dsimp only
              rw [dec_lt hy, idx_get hy]
              simp only [cond_true, Option.bind_some, R_Either_eq, sc i (by omega)]
              cases y.Address == x.Address <;> rfl) r (p ++ [x]) x.Notify (by simp [hl]) trivial
          have e : (((p ++ [x]).length : Nat) : Int) = ((p.length + 1 : Nat) : Int) := by simp
          rw [e] at hin
          rw [hin, orL_filter x.Address r x.Notify hnx (fun y hy => hn y (by rw [hl]; simp [hy]))]
          simp only [cond_false, Option.bind_some, Bool.false_eq_true, if_false]
          rw [app_ok (by simp; omega)]; rfl
      · split
        · omega
        · simp; omega) ([] : List TRecipient) rfl (Nat.zero_le _)]
  simp only [Option.bind_some, refM_all]
theorem L_envelopes_eq : L_envelopes = some true := by
  unfold L_envelopes
  have s1 : smallE ⟨[], [⟨[97, 64, 120], 0⟩, ⟨[98, 64, 121], 1⟩], []⟩ := ⟨by decide, by decide, by decide, by intro a ha; simp at ha; rcases ha with rfl | rfl <;> decide⟩
  have s2 : smallE ⟨[], [], []⟩ := ⟨by decide, by decide, by decide, by intro a ha; simp at ha⟩
  have s3 : smallR [⟨[97, 64, 98], 1⟩, ⟨[97, 64, 98], 4⟩] := ⟨by decide, by intro a ha; simp at ha; rcases ha with rfl | rfl <;> decide⟩
  rw [envelope_Domains_eq _ s1, envelope_For_eq _ _ s1, envelope_Merge_eq _ s3, envelope_Validate_eq _ s2]
  have e1 : domsE ⟨[], [⟨[97, 64, 120], 0⟩, ⟨[98, 64, 121], 1⟩], []⟩ = ([[120], [121]], ⟨0, 0⟩) := by decide +kernel
  have e2 : forE ⟨[], [⟨[97, 64, 120], 0⟩, ⟨[98, 64, 121], 1⟩], []⟩ [121] = (⟨[], [⟨[98, 64, 121], 1⟩], []⟩, ⟨0, 0⟩) := by decide +kernel
  have e3 : mergeE [⟨[97, 64, 98], 1⟩, ⟨[97, 64, 98], 4⟩] = ([⟨[97, 64, 98], 5⟩], ⟨0, 0⟩) := by decide +kernel
  have e4 : envF ⟨[], [], []⟩ = ⟨2, -11⟩ := by decide +kernel
  rw [e1, e2, e3, e4]
  simp only [Option.bind_some, R_Strings_eq _ _ (show ([[120], [121]] : List Str).length ≤ 9223372036854775806 by decide), R_SameRecipients_eq _ _ (show ([⟨[98, 64, 121], 1⟩] : List TRecipient).length ≤ 1048576 by decide), R_SameRecipients_eq _ _ (show ([⟨[97, 64, 98], 5⟩] : List TRecipient).length ≤ 1048576 by decide), R_At_eq]
  rfl
end Go.Proofs.Ytfhfjckjmacekaa

/- The law EnvelopeDomainsMatchSpec, as a plain statement. -/
namespace Go.Proofs.Ytfhfjckjmacekaa
open Go.RowKit
set_option linter.unusedVariables false
theorem recF_ok (l : List TRecipient) (h : (recF l).Code = 0) : recF l = ⟨0, 0⟩ := by
  unfold recF at h ⊢
  cases hf : firstI (recQ l) 0 l with
  | none => rfl
  | some f =>
    exfalso
    obtain ⟨i, x, hx, hq⟩ := firstI_some hf
    rw [hf] at h
    unfold recQ at hq
    split at hq
    · cases hq; simp at h
    · split at hq
      · cases hq; simp at h
      · split at hq
        · cases hq; simp at h
        · cases hq
theorem envF_ok (e : TEnvelope) (h : (envF e).Code = 0) : envF e = ⟨0, 0⟩ := by
  unfold envF at h ⊢
  split
  · rename_i h1; rw [if_pos h1] at h; simp at h
  · rename_i h1
    rw [if_neg h1] at h
    split
    · rename_i h2; rw [if_pos h2] at h; simp at h
    · rename_i h2
      rw [if_neg h2] at h
      split
      · rename_i h3; rw [if_pos h3] at h; simp at h
      · rename_i h3
        rw [if_neg h3] at h
        exact recF_ok _ h
theorem fold_pair (d : Str) : ∀ (l to : List TRecipient) (all : List Str), l.foldl (fun (s : List TRecipient × List Str) r => (if inDom d r then s.1 ++ [r] else s.1, addD s.2 r)) (to, all) = (to ++ l.filter (inDom d), l.foldl addD all) := by
  intro l
  induction l with
  | nil => intro to all; simp
  | cons r t ih =>
    intro to all
    rw [List.foldl_cons, List.foldl_cons, List.filter_cons, ih]
    cases inDom d r <;> simp
theorem fault_self (f : TFault) : allEq [(f.Code == f.Code), (f.Index == f.Index)] = true := by simp [allEq]
theorem L_EnvelopeDomainsMatchSpec_true (a0 : TEnvelope) (a1 : Str) (o0 : TEnvelope.ok a0) (o1 : okStr a1) (hk : TEnvelope.bk a0 + (fun s => s.length + 1) a1 ≤ 1048576) : L_EnvelopeDomainsMatchSpec a0 a1 = some true := by
  have hs : smallE a0 := smallE_of (by omega)
  unfold L_EnvelopeDomainsMatchSpec
  rw [R_EnvelopeFault_eq _ hs, envelope_Domains_eq _ hs, envelope_For_eq _ _ hs, L_envelopes_eq]
  simp only [Option.bind_some, Bool.not_true, cond_false, cond_true]
  unfold domsE forE
  by_cases hc : (envF a0).Code = 0
  · have hf := envF_ok a0 hc
    have h0 : ((envF a0).Code != 0) = false := by simp [hc]
    rw [h0]
    simp only [Bool.false_eq_true, if_false, hf, fault_self, Bool.not_true, cond_false, Option.bind_some]
    obtain ⟨_, _, h3, h4⟩ := hs
    have hl := (iter_fold a0.To (fun i (s : List TRecipient × List Str) => (i, s.1, s.2)) (fun s r => (if inDom a1 r then s.1 ++ [r] else s.1, addD s.2 r)) (fun s => (s.1, s.2)) (fun i s => s.1.length ≤ i ∧ s.2.length ≤ i) (body := L_EnvelopeDomainsMatchSpec_l1 a0 a1)
      (fun s hi => by unfold L_EnvelopeDomainsMatchSpec_l1; simp [dec_len]) (fun i r s hr hi => by
        have hlt := lt_get hr
        have ha := h4 r (List.mem_of_getElem? hr)
        refine ⟨?_, ?_, Nat.le_trans (addD_len _ _) (by omega)⟩
        · unfold L_EnvelopeDomainsMatchSpec_l1
          dsimp only
          rw [dec_lt hr, idx_get hr]
          simp only [cond_true, Option.bind_some, R_DomainOf_eq _ ha, R_Has_eq s.2 _ (by omega), sc i (by omega)]
          unfold addD inDom
          cases s.2.contains (domOf r.Address) <;> cases domOf r.Address == a1 <;> simp [app_ok (show s.1.length + [r].length ≤ 5864062014805 by simp; omega), app_ok (show s.2.length + [domOf r.Address].length ≤ 8796093022208 by simp; omega)]
        · dsimp only
          split
          · simp; omega
          · omega) (([] : List TRecipient), ([] : List Str)) (by simp)).1
    rw [hl, fold_pair]
    simp only [Option.bind_some, List.nil_append]
    have hdl : (domsP a0.To).length ≤ 9223372036854775806 := by
      have : ∀ (l : List TRecipient) (acc : List Str), (l.foldl addD acc).length ≤ acc.length + l.length := by
        intro l
        induction l with
        | nil => intro acc; simp
        | cons r t ih => intro acc; have := ih (addD acc r); have := addD_len acc r; simp; omega
      have := this a0.To []
      unfold domsP; simp at this; omega
    rw [R_Strings_eq _ _ hdl]
    have e1 : (domsP a0.To == a0.To.foldl addD []) = true := by unfold domsP; simp
    rw [e1]
    have hfl := List.length_filter_le (inDom a1) a0.To
    by_cases hn : a0.To.filter (inDom a1) = []
    · rw [hn]; rfl
    · have : (((a0.To.filter (inDom a1)).length : Int) == 0) = false := by
        rw [beq_eq_false_iff_ne]
        have := List.length_pos_iff.2 hn
        omega
      rw [this, if_neg hn]
      simp only [Bool.not_true, cond_false, Option.bind_some, beq_self_eq_true, cond_true]
      rw [R_SameRecipients_eq _ _ (by omega)]
      simp [allEq]
  · have h0 : ((envF a0).Code != 0) = true := by simpa using hc
    rw [h0]
    simp only [if_true, fault_self, Bool.not_true, cond_false, Option.bind_some, cond_true]
    rfl
end Go.Proofs.Ytfhfjckjmacekaa

/- The law EnvelopeMatchesSpec in plain Lean. -/
namespace Go.Proofs.Ytfhfjckjmacekaa
open Go.RowKit
set_option linter.unusedVariables false
set_option maxHeartbeats 1000000

theorem smallM_of {m : TMessage} (h : TMessage.bk m ≤ 1048576) : smallM m := by
  unfold TMessage.bk at h
  have h1 := bkL_len (bk := TField.bk) (fun x => by unfold TField.bk; omega) m.Fields
  have h2 := bkL_len (bk := fun _ : UInt8 => 1) (fun x => by simp) m.Body
  refine ⟨⟨by omega, fun f hf => ?_⟩, by omega⟩
  have h5 := bkL_mem (bk := TField.bk) hf
  have h6 : TField.bk f = f.Name.length + 1 + (f.Value.length + 1) + 1 := rfl
  omega
def mailF (m : TMail) : TFault := if (envF m.Envelope).Code != 0 then envF m.Envelope else if (msgF m.Message).Code != 0 then ⟨(msgF m.Message).Code, -30⟩ else ⟨0, 0⟩
theorem envelope_Check_eq (m : TMail) (h1 : smallE m.Envelope) (h2 : smallM m.Message) : envelope_Check m = some (mailF m) := by
  unfold envelope_Check mailF
  rw [envelope_Validate_eq _ h1, message_Validate_eq _ h2]
  simp only [Option.bind_some, basic_Failed_eq, basic_Fault_eq, basic_None_eq]
  cases (envF m.Envelope).Code != 0 <;> cases (msgF m.Message).Code != 0 <;> rfl
theorem R_MailFault_eq (m : TMail) (h1 : smallE m.Envelope) (h2 : smallM m.Message) : R_MailFault m = some (mailF m) := by
  unfold R_MailFault mailF
  rw [R_EnvelopeFault_eq _ h1, R_MessageFault_eq _ h2]
  simp only [Option.bind_some, R_At_eq]
  by_cases hc : (envF m.Envelope).Code = 0
  · have hz := envF_ok _ hc
    rw [hz]
    cases h : (msgF m.Message).Code != 0 <;> simp [h]
  · have e1 : ((envF m.Envelope).Code != 0) = true := by simpa using hc
    have e2 : ((envF m.Envelope).Code == 0) = false := by simpa using hc
    rw [e1, e2]
    simp only [cond_false, Option.bind_some, if_true]
theorem L_EnvelopeMatchesSpec_true (a0 : TMail) (o0 : TMail.ok a0) (hk : TMail.bk a0 ≤ 1048576) : L_EnvelopeMatchesSpec a0 = some true := by
  have hb : TMail.bk a0 = TEnvelope.bk a0.Envelope + TMessage.bk a0.Message + 1 := rfl
  have h1 : smallE a0.Envelope := smallE_of (by omega)
  have h2 : smallM a0.Message := smallM_of (by omega)
  unfold L_EnvelopeMatchesSpec
  rw [R_EnvelopeFault_eq _ h1, envelope_Validate_eq _ h1, L_envelopes_eq, envelope_Check_eq _ h1 h2, R_MailFault_eq _ h1 h2]
  simp only [Option.bind_some, cond_true, fault_self]
end Go.Proofs.Ytfhfjckjmacekaa

namespace Go.Proofs.Ytfhfjckjmacekaa
open Go.RowKit
set_option maxRecDepth 100000
set_option maxHeartbeats 40000000
set_option linter.unusedVariables false
theorem R_At_run (a0 : Int) (a1 : Int) (r : TFault) (hr : R_At a0 a1 = some r) : Run Try.prog 16 [.i a0, .i a1] (.agg [.i r.Code, .i r.Index]) := by
 unfold R_At at hr
 refine rf (fn := Try.f16) ⟨Try.func16, rfl, by kernel_rfl⟩ rfl (fun _ => rfl) fun g0 hg => ?_
 refine rn tk 14 rfl ?_
 cases hr
 exact kr tk (.inr rfl) rfl rfl
theorem R_SameRecipients_run (a0 : List TRecipient) (a1 : List TRecipient) (r : Bool) (hr : R_SameRecipients a0 a1 = some r) : Run Try.prog 17 [.l TRecipient.pc a0, .l TRecipient.pc a1] (.bo r) := by
 unfold R_SameRecipients at hr
 refine rf (fn := Try.f17) ⟨Try.func17, rfl, by kernel_rfl⟩ rfl (fun _ => rfl) fun g0 hg => ?_
 refine rn tk 9 rfl ?_
 refine wn tk rfl rfl rfl ?_
 refine rn tk 1 rfl ?_
 refine wn tk rfl rfl rfl ?_
 refine rn tk 3 rfl ?_
 refine ac 10 hr rfl (fun c1 hr => ?_) (fun c1 hr => ?_)
 ·
  refine rn tk 7 rfl ?_
  cases hr
  exact kr tk (.inr rfl) rfl rfl
 ·
  refine rn tk 9 rfl ?_
  refine al2 hr (fun s2 => [(0, .l TRecipient.pc a0), (1, .l TRecipient.pc a1), (5, .i s2)]) (fun s2 => []) (.exit 0) (fun b3 => []) (fun b3 => []) .ret (fun b4 => [(4, .bo b4)]) (fun b4 => []) rfl rfl (fun s2 x6 hr => ?_) (fun b3 hr => ?_) (fun b4 hr => ?_)
  ·
   unfold R_SameRecipients_l1 at hr
   refine rn tk 5 rfl ?_
   refine wn tk rfl rfl rfl ?_
   refine rn tk 3 rfl ?_
   refine ac 14 hr rfl (fun c7 hr => ?_) (fun c7 hr => ?_)
   ·
    refine rn tk 5 rfl ?_
    obtain ⟨v8, h9, hr⟩ := bind_some hr
    obtain ⟨v10, h11, hr⟩ := bind_some hr
    refine dr 8 [(24, .agg [.s v10.Address, .i v10.Notify]), (23, .ep [pS v10.Address, pI v10.Notify]), (22, .i s2), (21, .l TRecipient.pc a1), (20, .agg [.s v8.Address, .i v8.Notify]), (19, .ep [pS v8.Address, pI v8.Notify]), (18, .i s2), (17, .l TRecipient.pc a0)] mixed (by kernel_rfl) rfl rfl (pq tk rfl (.plain rfl) (pq tk rfl (.plain rfl) (.run (.plain rfl) (opG_q (ev_idx (f := TRecipient.pc) rfl rfl ty_s_api_Recipient ty_api_Recipient rfl h9)) (pq tk rfl (.plain rfl) (pq tk rfl (.plain rfl) (pq tk rfl (.plain rfl) (.run (.plain rfl) (opG_q (ev_idx (f := TRecipient.pc) rfl rfl ty_s_api_Recipient ty_api_Recipient rfl h11)) (pq tk rfl (.plain rfl) .nil)))))))) rfl ?_
    refine wq (ev_structne rfl rfl ty_api_Recipient cmp_api_Recipient (.str rfl (by decide) ty_string (.int rfl (by decide) ty_int .nil))) rfl rfl rfl ?_
    refine rn tk 2 rfl ?_
    refine ac 25 hr rfl (fun c12 hr => ?_) (fun c12 hr => ?_)
    ·
     refine rn tk 8 rfl ?_
     cases hr
     exact ato rfl rfl rfl rfl
    ·
     refine rn tk 8 rfl ?_
     cases hr
     exact atc rfl rfl
   ·
    refine rn tk 2 rfl ?_
    cases hr
    exact ato rfl rfl rfl rfl
  ·
   refine rn tk 8 rfl ?_
   cases hr
   exact kr tk (.inr rfl) rfl rfl
  ·
   refine rn tk 2 rfl ?_
   cases hr
   exact kr tk (.inr rfl) rfl rfl
theorem R_Strings_run (a0 : List Str) (a1 : List Str) (r : Bool) (hr : R_Strings a0 a1 = some r) : Run Try.prog 15 [.l cS a0, .l cS a1] (.bo r) := by
 unfold R_Strings at hr
 refine rf (fn := Try.f15) ⟨Try.func15, rfl, by kernel_rfl⟩ rfl (fun _ => rfl) fun g0 hg => ?_
 refine rn tk 9 rfl ?_
 refine wn tk rfl rfl rfl ?_
 refine rn tk 1 rfl ?_
 refine wn tk rfl rfl rfl ?_
 refine rn tk 3 rfl ?_
 refine ac 10 hr rfl (fun c1 hr => ?_) (fun c1 hr => ?_)
 ·
  refine rn tk 7 rfl ?_
  cases hr
  exact kr tk (.inr rfl) rfl rfl
 ·
  refine rn tk 9 rfl ?_
  refine al2 hr (fun s2 => [(0, .l cS a0), (1, .l cS a1), (5, .i s2)]) (fun s2 => []) (.exit 0) (fun b3 => []) (fun b3 => []) .ret (fun b4 => [(4, .bo b4)]) (fun b4 => []) rfl rfl (fun s2 x6 hr => ?_) (fun b3 hr => ?_) (fun b4 hr => ?_)
  ·
   unfold R_Strings_l1 at hr
   refine rn tk 5 rfl ?_
   refine wn tk rfl rfl rfl ?_
   refine rn tk 3 rfl ?_
   refine ac 14 hr rfl (fun c7 hr => ?_) (fun c7 hr => ?_)
   ·
    refine rn tk 5 rfl ?_
    obtain ⟨v8, h9, hr⟩ := bind_some hr
    obtain ⟨v10, h11, hr⟩ := bind_some hr
    refine dr 8 [(24, .s v10), (23, .ep [pS v10]), (22, .i s2), (21, .l cS a1), (20, .s v8), (19, .ep [pS v8]), (18, .i s2), (17, .l cS a0)] mixed (by kernel_rfl) rfl rfl (pq tk rfl (.plain rfl) (pq tk rfl (.plain rfl) (.run (.plain rfl) (opG_q (ev_idx (f := cS) rfl rfl ty_s_string ty_string rfl h9)) (pq tk rfl (.plain rfl) (pq tk rfl (.plain rfl) (pq tk rfl (.plain rfl) (.run (.plain rfl) (opG_q (ev_idx (f := cS) rfl rfl ty_s_string ty_string rfl h11)) (pq tk rfl (.plain rfl) .nil)))))))) rfl ?_
    refine rn tk 3 rfl ?_
    refine ac 25 hr rfl (fun c12 hr => ?_) (fun c12 hr => ?_)
    ·
     refine rn tk 8 rfl ?_
     cases hr
     exact ato rfl rfl rfl rfl
    ·
     refine rn tk 8 rfl ?_
     cases hr
     exact atc rfl rfl
   ·
    refine rn tk 2 rfl ?_
    cases hr
    exact ato rfl rfl rfl rfl
  ·
   refine rn tk 8 rfl ?_
   cases hr
   exact kr tk (.inr rfl) rfl rfl
  ·
   refine rn tk 2 rfl ?_
   cases hr
   exact kr tk (.inr rfl) rfl rfl
theorem basic_Failed_run (a0 : TFault) (r : Bool) (hr : basic_Failed a0 = some r) : Run Try.prog 32 [.agg [.i a0.Code, .i a0.Index]] (.bo r) := by
 unfold basic_Failed at hr
 refine rf (fn := Try.f32) ⟨Try.func32, rfl, by kernel_rfl⟩ rfl (fun _ => rfl) fun g0 hg => ?_
 refine rn tk 15 rfl ?_
 cases hr
 exact kr tk (.inr rfl) rfl rfl
theorem basic_None_run  (r : TFault) (hr : basic_None = some r) : Run Try.prog 35 [] (.agg [.i r.Code, .i r.Index]) := by
 unfold basic_None at hr
 refine rf (fn := Try.f35) ⟨Try.func35, rfl, by kernel_rfl⟩ rfl (fun _ => rfl) fun g0 hg => ?_
 refine rn tk 12 rfl ?_
 cases hr
 exact kr tk (.inr rfl) rfl rfl
end Go.Proofs.Ytfhfjckjmacekaa

/- Library functions compute what their Lean functions do. -/
namespace Go.Proofs.Ytfhfjckjmacekaa
open Go.RowKit
set_option maxRecDepth 100000
theorem old_drewN (g : G) (q : Nat) : Old (fun _ => False) g ⟨g.w.drewN q, g.u, g.loc⟩ :=
  ⟨rfl, rfl, rfl, ⟨Nat.le_refl _, fun _ _ => Nat.le_refl _, fun _ _ _ _ => rfl, fun _ h => h⟩, fun _ _ _ => ⟨rfl, rfl⟩⟩
theorem str_arg {g : G} {s : Str} {v : Value} (h : Rel g (.s s) v) : v = .string (strB s) := rel_b h
theorem strings_IndexByte_run (s : Str) (c : UInt8) (r : Int) (hr : strings_IndexByte s c = some r) : Run Try.prog 59 [.s s, .u8 c] (.i r) := by
  unfold strings_IndexByte at hr
  cases hr
  refine ⟨⟨_, _, ⟨Try.func59, rfl, by kernel_rfl⟩⟩, fun g vs hw hg ha => ?_⟩
  obtain ⟨hsz, hrel⟩ := ha
  obtain ⟨l⟩ := vs
  match l, hsz with
  | [x, y], _ =>
    obtain rfl := str_arg (hrel 0 _ rfl)
    have e2 : y = .int .u8 (c.toNat : Int) := rel_b (hrel 1 _ rfl)
    subst e2
    refine callsIn_wide.2 ((Try.strings_IndexByte (strB s) (c.toNat : Int) g.w).mono ?_)
    rintro e w' ⟨rfl, rfl⟩
    refine ⟨g, _, rfl, rfl, Old.refl _ g, hw, rfl, ?_⟩
    simp [strB]
    exact .pv (.b rfl)
theorem strings_Contains_run (s t : Str) (r : Bool) (hr : strings_Contains s t = some r) : Run Try.prog 87 [.s s, .s t] (.bo r) := by
  unfold strings_Contains at hr
  split at hr
  case isFalse => cases hr
  rename_i hlen
  cases hr
  refine ⟨⟨_, _, ⟨Try.func87, rfl, by kernel_rfl⟩⟩, fun g vs hw hg ha => ?_⟩
  obtain ⟨hsz, hrel⟩ := ha
  obtain ⟨l⟩ := vs
  match l, hsz with
  | [x, y], _ =>
    obtain rfl := str_arg (hrel 0 _ rfl)
    obtain rfl := str_arg (hrel 1 _ rfl)
    obtain ⟨_, _, m, hm⟩ := hg (0, 0) (by simp [globs])
    refine callsIn_wide.2 ((Try.strings_Contains (strB s) (strB t) m g.w (by rw [strB_size]; exact hlen) hm).mono ?_)
    rintro e w' ⟨rfl, rfl⟩
    exact ⟨g, _, rfl, rfl, Old.refl _ g, hw, rfl, .pv (.b rfl)⟩
theorem strings_Cut_run (s t : Str) (r : Str × Str × Bool) (hr : strings_Cut s t = some r) : Run Try.prog 56 [.s s, .s t] (.tup [.s r.1, .s r.2.1, .bo r.2.2]) := by
  unfold strings_Cut at hr
  split at hr
  case isFalse => cases hr
  rename_i hlen
  cases hr
  refine ⟨⟨_, _, ⟨Try.func56, rfl, by kernel_rfl⟩⟩, fun g vs hw hg ha => ?_⟩
  obtain ⟨hsz, hrel⟩ := ha
  obtain ⟨l⟩ := vs
  match l, hsz with
  | [x, y], _ =>
    obtain rfl := str_arg (hrel 0 _ rfl)
    obtain rfl := str_arg (hrel 1 _ rfl)
    obtain ⟨_, _, m, hm⟩ := hg (0, 0) (by simp [globs])
    refine callsIn_wide.2 ((Try.strings_Cut (strB s) (strB t) m g.w (by rw [strB_size]; exact hlen) hm).mono ?_)
    rintro e w' ⟨rfl, q, rfl⟩
    refine ⟨⟨g.w.drewN q, g.u, g.loc⟩, _, rfl, rfl, old_drewN g q, hw, rfl, .tup rfl fun i c hi => ?_⟩
    match i, hi with
    | 0, rfl => exact .pv (.b rfl)
    | 1, rfl => exact .pv (.b rfl)
    | 2, rfl => exact .pv (.b rfl)
end Go.Proofs.Ytfhfjckjmacekaa

namespace Go.Proofs.Ytfhfjckjmacekaa
open Go.RowKit
set_option maxRecDepth 100000
set_option maxHeartbeats 40000000
set_option linter.unusedVariables false
theorem basic_Letter_run (a0 : UInt8) (r : Bool) (hr : basic_Letter a0 = some r) : Run Try.prog 58 [.u8 a0] (.bo r) := by
 unfold basic_Letter at hr
 refine rf (fn := Try.f58) ⟨Try.func58, rfl, by kernel_rfl⟩ rfl (fun _ => rfl) fun g0 hg => ?_
 refine rn tk 5 rfl ?_
 refine jb hr (fun j1 => [(2, .bo j1)]) (fun j1 => []) (fun j1 hr => ?_) (fun j1 hr => ?_)
 ·
  refine rn tk 4 rfl ?_
  refine bs 5 hr rfl (fun c2 hr => ?_) (fun c2 hr => ?_)
  ·
   refine rn tk 4 rfl ?_
   refine bs 9 hr rfl (fun c3 hr => ?_) (fun c3 hr => ?_)
   ·
    refine rn tk 17 rfl ?_
    cases hr
    exact jn _ rfl rfl rfl
   ·
    refine rn tk 3 rfl ?_
    refine bs 12 hr rfl (fun c4 hr => ?_) (fun c4 hr => ?_)
    ·
     refine rn tk 5 rfl ?_
     refine bs 17 hr rfl (fun c5 hr => ?_) (fun c5 hr => ?_)
     ·
      refine rn tk 9 rfl ?_
      cases hr
      exact jn _ rfl rfl rfl
     ·
      refine rn tk 3 rfl ?_
      refine bs 20 hr rfl (fun c6 hr => ?_) (fun c6 hr => ?_)
      ·
       refine rn tk 6 rfl ?_
       cases hr
       exact jn _ rfl rfl rfl
      ·
       refine rn tk 6 rfl ?_
       cases hr
       exact jn _ rfl rfl rfl
    ·
     refine rn tk 8 rfl ?_
     refine bs 20 hr rfl (fun c7 hr => ?_) (fun c7 hr => ?_)
     ·
      refine rn tk 6 rfl ?_
      cases hr
      exact jn _ rfl rfl rfl
     ·
      refine rn tk 6 rfl ?_
      cases hr
      exact jn _ rfl rfl rfl
  ·
   refine rn tk 7 rfl ?_
   refine bs 12 hr rfl (fun c8 hr => ?_) (fun c8 hr => ?_)
   ·
    refine rn tk 5 rfl ?_
    refine bs 17 hr rfl (fun c9 hr => ?_) (fun c9 hr => ?_)
    ·
     refine rn tk 9 rfl ?_
     cases hr
     exact jn _ rfl rfl rfl
    ·
     refine rn tk 3 rfl ?_
     refine bs 20 hr rfl (fun c10 hr => ?_) (fun c10 hr => ?_)
     ·
      refine rn tk 6 rfl ?_
      cases hr
      exact jn _ rfl rfl rfl
     ·
      refine rn tk 6 rfl ?_
      cases hr
      exact jn _ rfl rfl rfl
   ·
    refine rn tk 8 rfl ?_
    refine bs 20 hr rfl (fun c11 hr => ?_) (fun c11 hr => ?_)
    ·
     refine rn tk 6 rfl ?_
     cases hr
     exact jn _ rfl rfl rfl
    ·
     refine rn tk 6 rfl ?_
     cases hr
     exact jn _ rfl rfl rfl
 ·
  refine rn tk 1 rfl ?_
  cases hr
  exact kr tk (.inr rfl) rfl rfl
theorem internal_stringslite_HasPrefix_run (a0 : Str) (a1 : Str) (r : Bool) (hr : internal_stringslite_HasPrefix a0 a1 = some r) : Run Try.prog 102 [.s a0, .s a1] (.bo r) := by
 unfold internal_stringslite_HasPrefix at hr
 refine rf (fn := Try.f102) ⟨Try.func102, rfl, by kernel_rfl⟩ rfl (fun _ => rfl) fun g0 hg => ?_
 refine rn tk 5 rfl ?_
 refine jb hr (fun j1 => [(4, .bo j1)]) (fun j1 => []) (fun j1 hr => ?_) (fun j1 hr => ?_)
 ·
  refine rn tk 7 rfl ?_
  refine bs 10 hr rfl (fun c2 hr => ?_) (fun c2 hr => ?_)
  ·
   refine rn tk 3 rfl ?_
   obtain ⟨v3, h4, hr⟩ := bind_some hr
   refine ug rfl rfl rfl ?_
   refine wscH tk h4 rfl rfl rfl rfl ?_
   refine rn tk 5 rfl ?_
   cases hr
   exact jn _ rfl rfl rfl
  ·
   refine rn tk 9 rfl ?_
   cases hr
   exact jn _ rfl rfl rfl
 ·
  refine rn tk 1 rfl ?_
  cases hr
  exact kr tk (.inr rfl) rfl rfl
theorem strings_HasPrefix_run (a0 : Str) (a1 : Str) (r : Bool) (hr : strings_HasPrefix a0 a1 = some r) : Run Try.prog 85 [.s a0, .s a1] (.bo r) := by
 unfold strings_HasPrefix at hr
 refine rf (fn := Try.f85) ⟨Try.func85, rfl, by kernel_rfl⟩ rfl (fun _ => rfl) fun g0 hg => ?_
 refine rn tk 9 rfl ?_
 obtain ⟨v1, h2, hr⟩ := bind_some hr
 refine cl (internal_stringslite_HasPrefix_run _ _ _ h2) rfl rfl ?_
 refine rn tk 4 rfl ?_
 cases hr
 exact kr tk (.inr rfl) rfl rfl
theorem internal_stringslite_HasSuffix_run (a0 : Str) (a1 : Str) (r : Bool) (hr : internal_stringslite_HasSuffix a0 a1 = some r) : Run Try.prog 103 [.s a0, .s a1] (.bo r) := by
 unfold internal_stringslite_HasSuffix at hr
 refine rf (fn := Try.f103) ⟨Try.func103, rfl, by kernel_rfl⟩ rfl (fun _ => rfl) fun g0 hg => ?_
 refine rn tk 5 rfl ?_
 refine jb hr (fun j1 => [(4, .bo j1)]) (fun j1 => []) (fun j1 hr => ?_) (fun j1 hr => ?_)
 ·
  refine rn tk 7 rfl ?_
  refine bs 10 hr rfl (fun c2 hr => ?_) (fun c2 hr => ?_)
  ·
   refine rn tk 6 rfl ?_
   obtain ⟨v3, h4, hr⟩ := bind_some hr
   refine ug rfl rfl rfl ?_
   refine wscL tk h4 rfl rfl rfl rfl ?_
   refine rn tk 5 rfl ?_
   cases hr
   exact jn _ rfl rfl rfl
  ·
   refine rn tk 12 rfl ?_
   cases hr
   exact jn _ rfl rfl rfl
 ·
  refine rn tk 1 rfl ?_
  cases hr
  exact kr tk (.inr rfl) rfl rfl
theorem strings_HasSuffix_run (a0 : Str) (a1 : Str) (r : Bool) (hr : strings_HasSuffix a0 a1 = some r) : Run Try.prog 86 [.s a0, .s a1] (.bo r) := by
 unfold strings_HasSuffix at hr
 refine rf (fn := Try.f86) ⟨Try.func86, rfl, by kernel_rfl⟩ rfl (fun _ => rfl) fun g0 hg => ?_
 refine rn tk 9 rfl ?_
 obtain ⟨v1, h2, hr⟩ := bind_some hr
 refine cl (internal_stringslite_HasSuffix_run _ _ _ h2) rfl rfl ?_
 refine rn tk 4 rfl ?_
 cases hr
 exact kr tk (.inr rfl) rfl rfl
theorem envelope_Domain_run (a0 : Str) (r : Bool) (hr : envelope_Domain a0 = some r) : Run Try.prog 61 [.s a0] (.bo r) := by
 unfold envelope_Domain at hr
 refine rf (fn := Try.f61) ⟨Try.func61, rfl, by kernel_rfl⟩ rfl (fun _ => rfl) fun g0 hg => ?_
 refine rn tk 10 rfl ?_
 refine jb hr (fun j1 => [(2, .bo j1)]) (fun j1 => []) (fun j1 hr => ?_) (fun j1 hr => ?_)
 ·
  refine rn tk 4 rfl ?_
  refine bs 6 hr rfl (fun c2 hr => ?_) (fun c2 hr => ?_)
  ·
   refine rn tk 5 rfl ?_
   refine bs 11 hr rfl (fun c3 hr => ?_) (fun c3 hr => ?_)
   ·
    refine rn tk 2 rfl ?_
    refine ug rfl rfl rfl ?_
    refine ct hr (fun j4 => [(0, .s a0), (11, .bo true), (14, .bo j4)]) (fun j4 => []) (fun j4 hr jump4 => ?_) (fun j4 hr => ?_)
    ·
     refine il (fn := Try.f60) (args := [.s a0, .fn (.func 84) [] []]) 400000 499999 [(0, .s a0), (11, .bo true)] rfl ⟨Try.func60, rfl, by kernel_rfl⟩ rfl rfl rfl fun T4 ds4 => ?_
     refine rn tk 14 rfl ?_
     refine al2 hr (fun s5 => [(0, .s a0), (1, .fn (.func 84) [] []), (7, .i ((a0.length : Int))), (8, .i s5)]) (fun s5 => [(499999, .sus g0.w.heap.size ds4), (400000, .hold (.s a0) (T4.getD 0 undef)), (400011, .hold (.bo true) (T4.getD 11 undef))]) (.exit 0) (fun b6 => []) (fun b6 => [(499999, .sus g0.w.heap.size ds4), (400000, .hold (.s a0) (T4.getD 0 undef)), (400011, .hold (.bo true) (T4.getD 11 undef))]) .ret (fun b7 => [(4, .bo false)]) (fun b7 => [(499999, .sus g0.w.heap.size ds4), (400000, .hold (.s a0) (T4.getD 0 undef)), (400011, .hold (.bo true) (T4.getD 11 undef))]) rfl rfl (fun s5 x9 hr => ?_) (fun b6 hr => ?_) (fun b7 hr => ?_)
     ·
      unfold envelope_Domain_l1 at hr
      refine rn tk 6 rfl ?_
      refine ac 9 hr rfl (fun c10 hr => ?_) (fun c10 hr => ?_)
      ·
       refine rn tk 15 rfl ?_
       obtain ⟨v11, h12, hr⟩ := bind_some hr
       refine ws tk h12 rfl rfl rfl rfl ?_
       refine il (fn := Try.f84) (args := [.u8 v11]) 600000 699999 [(0, .s a0), (1, .fn (.func 84) [] []), (7, .i ((a0.length : Int))), (8, .i s5)] rfl ⟨Try.func84, rfl, by kernel_rfl⟩ rfl rfl rfl fun T6 ds6 => ?_
       refine rn tk 5 rfl ?_
       refine jb hr (fun j13 => [(2, .bo j13)]) (fun j13 => [(699999, .sus g0.w.heap.size ds6), (600000, .hold (.s a0) (T6.getD 0 undef)), (600001, .hold (.fn (.func 84) [] []) (T6.getD 1 undef)), (600007, .hold (.i ((a0.length : Int))) (T6.getD 7 undef)), (600008, .hold (.i s5) (T6.getD 8 undef)), (499999, .sus g0.w.heap.size ds4), (400000, .hold (.s a0) (T4.getD 0 undef)), (400011, .hold (.bo true) (T4.getD 11 undef))]) (fun j13 hr => ?_) (fun j13 hr => ?_)
       ·
        refine rn tk 4 rfl ?_
        refine bs 5 hr rfl (fun c14 hr => ?_) (fun c14 hr => ?_)
        ·
         refine rn tk 4 rfl ?_
         refine bs 9 hr rfl (fun c15 hr => ?_) (fun c15 hr => ?_)
         ·
          refine rn tk 17 rfl ?_
          cases hr
          exact jn _ rfl rfl rfl
         ·
          refine rn tk 3 rfl ?_
          refine bs 12 hr rfl (fun c16 hr => ?_) (fun c16 hr => ?_)
          ·
           refine rn tk 5 rfl ?_
           refine bs 17 hr rfl (fun c17 hr => ?_) (fun c17 hr => ?_)
           ·
            refine rn tk 9 rfl ?_
            cases hr
            exact jn _ rfl rfl rfl
           ·
            refine rn tk 4 rfl ?_
            refine bs 21 hr rfl (fun c18 hr => ?_) (fun c18 hr => ?_)
            ·
             refine rn tk 5 rfl ?_
             cases hr
             exact jn _ rfl rfl rfl
            ·
             refine rn tk 5 rfl ?_
             cases hr
             exact jn _ rfl rfl rfl
          ·
           refine rn tk 9 rfl ?_
           refine bs 21 hr rfl (fun c19 hr => ?_) (fun c19 hr => ?_)
           ·
            refine rn tk 5 rfl ?_
            cases hr
            exact jn _ rfl rfl rfl
           ·
            refine rn tk 5 rfl ?_
            cases hr
            exact jn _ rfl rfl rfl
        ·
         refine rn tk 7 rfl ?_
         refine bs 12 hr rfl (fun c20 hr => ?_) (fun c20 hr => ?_)
         ·
          refine rn tk 5 rfl ?_
          refine bs 17 hr rfl (fun c21 hr => ?_) (fun c21 hr => ?_)
          ·
           refine rn tk 9 rfl ?_
           cases hr
           exact jn _ rfl rfl rfl
          ·
           refine rn tk 4 rfl ?_
           refine bs 21 hr rfl (fun c22 hr => ?_) (fun c22 hr => ?_)
           ·
            refine rn tk 5 rfl ?_
            cases hr
            exact jn _ rfl rfl rfl
           ·
            refine rn tk 5 rfl ?_
            cases hr
            exact jn _ rfl rfl rfl
         ·
          refine rn tk 9 rfl ?_
          refine bs 21 hr rfl (fun c23 hr => ?_) (fun c23 hr => ?_)
          ·
           refine rn tk 5 rfl ?_
           cases hr
           exact jn _ rfl rfl rfl
          ·
           refine rn tk 5 rfl ?_
           cases hr
           exact jn _ rfl rfl rfl
       ·
        refine rn tk 1 rfl ?_
        refine ie tk [.bo j13] [(0, .s a0), (1, .fn (.func 84) [] []), (7, .i ((a0.length : Int))), (8, .i s5)] [(499999, .sus g0.w.heap.size ds4), (400000, .hold (.s a0) (T4.getD 0 undef)), (400011, .hold (.bo true) (T4.getD 11 undef))] (.inr rfl) rfl rfl rfl rfl (hO ?_)
        refine rn tk 3 rfl ?_
        refine ac 16 hr rfl (fun c24 hr => ?_) (fun c24 hr => ?_)
        ·
         refine rn tk 8 rfl ?_
         cases hr
         exact ato rfl rfl rfl rfl
        ·
         refine rn tk 7 rfl ?_
         cases hr
         exact atc rfl rfl
      ·
       refine rn tk 2 rfl ?_
       cases hr
       exact ato rfl rfl rfl rfl
     ·
      refine rn tk 8 rfl ?_
      refine ie tk [.bo true] [(0, .s a0), (11, .bo true)] [] (.inr rfl) rfl rfl rfl rfl ?_
      cases hr
      exact jump4 _ _ rfl rfl
     ·
      refine rn tk 2 rfl ?_
      refine ie tk [.bo false] [(0, .s a0), (11, .bo true)] [] (.inr rfl) rfl rfl rfl rfl ?_
      cases hr
      exact jump4 _ _ rfl rfl
    ·
     refine rn tk 2 rfl ?_
     refine bs 16 hr rfl (fun c25 hr => ?_) (fun c25 hr => ?_)
     ·
      refine rn tk 1 rfl ?_
      obtain ⟨v26, h27, hr⟩ := bind_some hr
      refine ug rfl rfl rfl ?_
      refine cl (strings_HasPrefix_run _ _ _ h27) rfl rfl ?_
      refine rn tk 3 rfl ?_
      refine bs 21 hr rfl (fun c28 hr => ?_) (fun c28 hr => ?_)
      ·
       refine rn tk 1 rfl ?_
       obtain ⟨v29, h30, hr⟩ := bind_some hr
       refine ug rfl rfl rfl ?_
       refine cl (strings_HasSuffix_run _ _ _ h30) rfl rfl ?_
       refine rn tk 3 rfl ?_
       refine bs 26 hr rfl (fun c31 hr => ?_) (fun c31 hr => ?_)
       ·
        refine rn tk 1 rfl ?_
        obtain ⟨v32, h33, hr⟩ := bind_some hr
        refine ug rfl rfl rfl ?_
        refine cl (strings_Contains_run _ _ _ h33) rfl rfl ?_
        refine rn tk 4 rfl ?_
        cases hr
        exact jn _ rfl rfl rfl
       ·
        refine rn tk 6 rfl ?_
        cases hr
        exact jn _ rfl rfl rfl
      ·
       refine rn tk 11 rfl ?_
       cases hr
       exact jn _ rfl rfl rfl
     ·
      refine rn tk 16 rfl ?_
      cases hr
      exact jn _ rfl rfl rfl
   ·
    refine rn tk 21 rfl ?_
    cases hr
    exact jn _ rfl rfl rfl
  ·
   refine rn tk 26 rfl ?_
   cases hr
   exact jn _ rfl rfl rfl
 ·
  refine rn tk 1 rfl ?_
  cases hr
  exact kr tk (.inr rfl) rfl rfl
theorem envelope_Split_run (a0 : Str) (r : Str × Str × Bool) (hr : envelope_Split a0 = some r) : Run Try.prog 33 [.s a0] (.tup [.s r.1, .s r.2.1, .bo r.2.2]) := by
 unfold envelope_Split at hr
 refine rf (fn := Try.f33) ⟨Try.func33, rfl, by kernel_rfl⟩ rfl (fun _ => rfl) fun g0 hg => ?_
 refine rn tk 10 rfl ?_
 obtain ⟨v1, h2, hr⟩ := bind_some hr
 refine cl (strings_Cut_run _ _ _ h2) rfl rfl ?_
 refine rn tk 14 rfl ?_
 refine jb hr (fun j3 => [(2, .s v1.1), (3, .s v1.2.1), (4, .bo j3)]) (fun j3 => []) (fun j3 hr => ?_) (fun j3 hr => ?_)
 ·
  refine rn tk 5 rfl ?_
  refine bs 15 hr rfl (fun c4 hr => ?_) (fun c4 hr => ?_)
  ·
   refine rn tk 4 rfl ?_
   refine bs 19 hr rfl (fun c5 hr => ?_) (fun c5 hr => ?_)
   ·
    refine rn tk 5 rfl ?_
    refine bs 24 hr rfl (fun c6 hr => ?_) (fun c6 hr => ?_)
    ·
     refine rn tk 2 rfl ?_
     refine ug rfl rfl rfl ?_
     refine ct hr (fun j7 => [(3, .s v1.2.1), (12, .s v1.1), (13, .s v1.2.1), (24, .bo true), (27, .bo j7)]) (fun j7 => []) (fun j7 hr jump4 => ?_) (fun j7 hr => ?_)
     ·
      refine il (fn := Try.f60) (args := [.s v1.1, .fn (.func 57) [] []]) 400000 499999 [(3, .s v1.2.1), (12, .s v1.1), (13, .s v1.2.1), (24, .bo true)] rfl ⟨Try.func60, rfl, by kernel_rfl⟩ rfl rfl rfl fun T4 ds4 => ?_
      refine rn tk 14 rfl ?_
      refine al2 hr (fun s8 => [(0, .s v1.1), (1, .fn (.func 57) [] []), (7, .i ((v1.1.length : Int))), (8, .i s8)]) (fun s8 => [(499999, .sus g0.w.heap.size ds4), (400003, .hold (.s v1.2.1) (T4.getD 3 undef)), (400012, .hold (.s v1.1) (T4.getD 12 undef)), (400013, .hold (.s v1.2.1) (T4.getD 13 undef)), (400024, .hold (.bo true) (T4.getD 24 undef))]) (.exit 0) (fun b9 => []) (fun b9 => [(499999, .sus g0.w.heap.size ds4), (400003, .hold (.s v1.2.1) (T4.getD 3 undef)), (400012, .hold (.s v1.1) (T4.getD 12 undef)), (400013, .hold (.s v1.2.1) (T4.getD 13 undef)), (400024, .hold (.bo true) (T4.getD 24 undef))]) .ret (fun b10 => [(4, .bo false)]) (fun b10 => [(499999, .sus g0.w.heap.size ds4), (400003, .hold (.s v1.2.1) (T4.getD 3 undef)), (400012, .hold (.s v1.1) (T4.getD 12 undef)), (400013, .hold (.s v1.2.1) (T4.getD 13 undef)), (400024, .hold (.bo true) (T4.getD 24 undef))]) rfl rfl (fun s8 x12 hr => ?_) (fun b9 hr => ?_) (fun b10 hr => ?_)
      ·
       unfold envelope_Split_l1 at hr
       refine rn tk 6 rfl ?_
       refine ac 9 hr rfl (fun c13 hr => ?_) (fun c13 hr => ?_)
       ·
        refine rn tk 15 rfl ?_
        obtain ⟨v14, h15, hr⟩ := bind_some hr
        refine ws tk h15 rfl rfl rfl rfl ?_
        refine il (fn := Try.f57) (args := [.u8 v14]) 600000 699999 [(0, .s v1.1), (1, .fn (.func 57) [] []), (7, .i ((v1.1.length : Int))), (8, .i s8)] rfl ⟨Try.func57, rfl, by kernel_rfl⟩ rfl rfl rfl fun T6 ds6 => ?_
        refine rn tk 5 rfl ?_
        refine jb hr (fun j16 => [(2, .bo j16)]) (fun j16 => [(699999, .sus g0.w.heap.size ds6), (600000, .hold (.s v1.1) (T6.getD 0 undef)), (600001, .hold (.fn (.func 57) [] []) (T6.getD 1 undef)), (600007, .hold (.i ((v1.1.length : Int))) (T6.getD 7 undef)), (600008, .hold (.i s8) (T6.getD 8 undef)), (499999, .sus g0.w.heap.size ds4), (400003, .hold (.s v1.2.1) (T4.getD 3 undef)), (400012, .hold (.s v1.1) (T4.getD 12 undef)), (400013, .hold (.s v1.2.1) (T4.getD 13 undef)), (400024, .hold (.bo true) (T4.getD 24 undef))]) (fun j16 hr => ?_) (fun j16 hr => ?_)
        ·
         refine rn tk 2 rfl ?_
         obtain ⟨v17, h18, hr⟩ := bind_some hr
         refine cl (basic_Letter_run _ _ h18) rfl rfl ?_
         refine rn tk 1 rfl ?_
         refine bs 5 hr rfl (fun c19 hr => ?_) (fun c19 hr => ?_)
         ·
          refine rn tk 6 rfl ?_
          cases hr
          exact jn _ rfl rfl rfl
         ·
          refine rn tk 1 rfl ?_
          obtain ⟨v20, h21, hr⟩ := bind_some hr
          refine ug rfl rfl rfl ?_
          refine cl (strings_IndexByte_run _ _ _ h21) rfl rfl ?_
          refine rn tk 4 rfl ?_
          cases hr
          exact jn _ rfl rfl rfl
        ·
         refine rn tk 1 rfl ?_
         refine ie tk [.bo j16] [(0, .s v1.1), (1, .fn (.func 57) [] []), (7, .i ((v1.1.length : Int))), (8, .i s8)] [(499999, .sus g0.w.heap.size ds4), (400003, .hold (.s v1.2.1) (T4.getD 3 undef)), (400012, .hold (.s v1.1) (T4.getD 12 undef)), (400013, .hold (.s v1.2.1) (T4.getD 13 undef)), (400024, .hold (.bo true) (T4.getD 24 undef))] (.inr rfl) rfl rfl rfl rfl (hO ?_)
         refine rn tk 3 rfl ?_
         refine ac 16 hr rfl (fun c22 hr => ?_) (fun c22 hr => ?_)
         ·
          refine rn tk 8 rfl ?_
          cases hr
          exact ato rfl rfl rfl rfl
         ·
          refine rn tk 7 rfl ?_
          cases hr
          exact atc rfl rfl
       ·
        refine rn tk 2 rfl ?_
        cases hr
        exact ato rfl rfl rfl rfl
      ·
       refine rn tk 8 rfl ?_
       refine ie tk [.bo true] [(3, .s v1.2.1), (12, .s v1.1), (13, .s v1.2.1), (24, .bo true)] [] (.inr rfl) rfl rfl rfl rfl ?_
       cases hr
       exact jump4 _ _ rfl rfl
      ·
       refine rn tk 2 rfl ?_
       refine ie tk [.bo false] [(3, .s v1.2.1), (12, .s v1.1), (13, .s v1.2.1), (24, .bo true)] [] (.inr rfl) rfl rfl rfl rfl ?_
       cases hr
       exact jump4 _ _ rfl rfl
     ·
      refine rn tk 2 rfl ?_
      refine bs 29 hr rfl (fun c23 hr => ?_) (fun c23 hr => ?_)
      ·
       refine rn tk 1 rfl ?_
       obtain ⟨v24, h25, hr⟩ := bind_some hr
       refine ug rfl rfl rfl ?_
       refine cl (envelope_Domain_run _ _ h25) rfl rfl ?_
       refine rn tk 5 rfl ?_
       cases hr
       exact jn _ rfl rfl rfl
      ·
       refine rn tk 7 rfl ?_
       cases hr
       exact jn _ rfl rfl rfl
    ·
     refine rn tk 12 rfl ?_
     cases hr
     exact jn _ rfl rfl rfl
   ·
    refine rn tk 17 rfl ?_
    cases hr
    exact jn _ rfl rfl rfl
  ·
   refine rn tk 21 rfl ?_
   cases hr
   exact jn _ rfl rfl rfl
 ·
  refine rn tk 1 rfl ?_
  cases hr
  exact kr tk (.inr rfl) rfl rfl
theorem basic_Fault_run (a0 : Int) (a1 : Int) (r : TFault) (hr : basic_Fault a0 a1 = some r) : Run Try.prog 39 [.i a0, .i a1] (.agg [.i r.Code, .i r.Index]) := by
 unfold basic_Fault at hr
 refine rf (fn := Try.f39) ⟨Try.func39, rfl, by kernel_rfl⟩ rfl (fun _ => rfl) fun g0 hg => ?_
 refine rn tk 14 rfl ?_
 cases hr
 exact kr tk (.inr rfl) rfl rfl
theorem basic_Name_run (a0 : Str) (r : Bool) (hr : basic_Name a0 = some r) : Run Try.prog 46 [.s a0] (.bo r) := by
 unfold basic_Name at hr
 refine rf (fn := Try.f46) ⟨Try.func46, rfl, by kernel_rfl⟩ rfl (fun _ => rfl) fun g0 hg => ?_
 refine rn tk 5 rfl ?_
 refine jb hr (fun j1 => [(2, .bo j1)]) (fun j1 => []) (fun j1 hr => ?_) (fun j1 hr => ?_)
 ·
  refine rn tk 4 rfl ?_
  refine bs 5 hr rfl (fun c2 hr => ?_) (fun c2 hr => ?_)
  ·
   refine rn tk 5 rfl ?_
   refine bs 10 hr rfl (fun c3 hr => ?_) (fun c3 hr => ?_)
   ·
    refine rn tk 1 rfl ?_
    refine ug rfl rfl rfl ?_
    refine ct hr (fun j4 => [(10, .bo true), (12, .bo j4)]) (fun j4 => []) (fun j4 hr jump4 => ?_) (fun j4 hr => ?_)
    ·
     refine il (fn := Try.f60) (args := [.s a0, .fn (.func 64) [] []]) 400000 499999 [(10, .bo true)] rfl ⟨Try.func60, rfl, by kernel_rfl⟩ rfl rfl rfl fun T4 ds4 => ?_
     refine rn tk 14 rfl ?_
     refine al2 hr (fun s5 => [(0, .s a0), (1, .fn (.func 64) [] []), (7, .i ((a0.length : Int))), (8, .i s5)]) (fun s5 => [(499999, .sus g0.w.heap.size ds4), (400010, .hold (.bo true) (T4.getD 10 undef))]) (.exit 0) (fun b6 => []) (fun b6 => [(499999, .sus g0.w.heap.size ds4), (400010, .hold (.bo true) (T4.getD 10 undef))]) .ret (fun b7 => [(4, .bo false)]) (fun b7 => [(499999, .sus g0.w.heap.size ds4), (400010, .hold (.bo true) (T4.getD 10 undef))]) rfl rfl (fun s5 x9 hr => ?_) (fun b6 hr => ?_) (fun b7 hr => ?_)
     ·
      unfold basic_Name_l1 at hr
      refine rn tk 6 rfl ?_
      refine ac 9 hr rfl (fun c10 hr => ?_) (fun c10 hr => ?_)
      ·
       refine rn tk 15 rfl ?_
       obtain ⟨v11, h12, hr⟩ := bind_some hr
       refine ws tk h12 rfl rfl rfl rfl ?_
       refine il (fn := Try.f64) (args := [.u8 v11]) 600000 699999 [(0, .s a0), (1, .fn (.func 64) [] []), (7, .i ((a0.length : Int))), (8, .i s5)] rfl ⟨Try.func64, rfl, by kernel_rfl⟩ rfl rfl rfl fun T6 ds6 => ?_
       refine rn tk 5 rfl ?_
       refine jb hr (fun j13 => [(2, .bo j13)]) (fun j13 => [(699999, .sus g0.w.heap.size ds6), (600000, .hold (.s a0) (T6.getD 0 undef)), (600001, .hold (.fn (.func 64) [] []) (T6.getD 1 undef)), (600007, .hold (.i ((a0.length : Int))) (T6.getD 7 undef)), (600008, .hold (.i s5) (T6.getD 8 undef)), (499999, .sus g0.w.heap.size ds4), (400010, .hold (.bo true) (T4.getD 10 undef))]) (fun j13 hr => ?_) (fun j13 hr => ?_)
       ·
        refine rn tk 2 rfl ?_
        obtain ⟨v14, h15, hr⟩ := bind_some hr
        refine cl (basic_Letter_run _ _ h15) rfl rfl ?_
        refine rn tk 1 rfl ?_
        refine bs 5 hr rfl (fun c16 hr => ?_) (fun c16 hr => ?_)
        ·
         refine rn tk 13 rfl ?_
         cases hr
         exact jn _ rfl rfl rfl
        ·
         refine rn tk 4 rfl ?_
         refine bs 9 hr rfl (fun c17 hr => ?_) (fun c17 hr => ?_)
         ·
          refine rn tk 9 rfl ?_
          cases hr
          exact jn _ rfl rfl rfl
         ·
          refine rn tk 4 rfl ?_
          refine bs 13 hr rfl (fun c18 hr => ?_) (fun c18 hr => ?_)
          ·
           refine rn tk 5 rfl ?_
           cases hr
           exact jn _ rfl rfl rfl
          ·
           refine rn tk 5 rfl ?_
           cases hr
           exact jn _ rfl rfl rfl
       ·
        refine rn tk 1 rfl ?_
        refine ie tk [.bo j13] [(0, .s a0), (1, .fn (.func 64) [] []), (7, .i ((a0.length : Int))), (8, .i s5)] [(499999, .sus g0.w.heap.size ds4), (400010, .hold (.bo true) (T4.getD 10 undef))] (.inr rfl) rfl rfl rfl rfl (hO ?_)
        refine rn tk 3 rfl ?_
        refine ac 16 hr rfl (fun c19 hr => ?_) (fun c19 hr => ?_)
        ·
         refine rn tk 8 rfl ?_
         cases hr
         exact ato rfl rfl rfl rfl
        ·
         refine rn tk 7 rfl ?_
         cases hr
         exact atc rfl rfl
      ·
       refine rn tk 2 rfl ?_
       cases hr
       exact ato rfl rfl rfl rfl
     ·
      refine rn tk 8 rfl ?_
      refine ie tk [.bo true] [(10, .bo true)] [] (.inr rfl) rfl rfl rfl rfl ?_
      cases hr
      exact jump4 _ _ rfl rfl
     ·
      refine rn tk 2 rfl ?_
      refine ie tk [.bo false] [(10, .bo true)] [] (.inr rfl) rfl rfl rfl rfl ?_
      cases hr
      exact jump4 _ _ rfl rfl
    ·
     refine rn tk 3 rfl ?_
     cases hr
     exact jn _ rfl rfl rfl
   ·
    refine rn tk 5 rfl ?_
    cases hr
    exact jn _ rfl rfl rfl
  ·
   refine rn tk 10 rfl ?_
   cases hr
   exact jn _ rfl rfl rfl
 ·
  refine rn tk 1 rfl ?_
  cases hr
  exact kr tk (.inr rfl) rfl rfl
theorem envelope_Address_run (a0 : Str) (r : Bool) (hr : envelope_Address a0 = some r) : Run Try.prog 41 [.s a0] (.bo r) := by
 unfold envelope_Address at hr
 refine rf (fn := Try.f41) ⟨Try.func41, rfl, by kernel_rfl⟩ rfl (fun _ => rfl) fun g0 hg => ?_
 refine rn tk 8 rfl ?_
 obtain ⟨v1, h2, hr⟩ := bind_some hr
 refine cl (envelope_Split_run _ _ h2) rfl rfl ?_
 refine rn tk 16 rfl ?_
 cases hr
 exact kr tk (.inr rfl) rfl rfl
theorem envelope_Notify_run (a0 : Int) (r : Bool) (hr : envelope_Notify a0 = some r) : Run Try.prog 42 [.i a0] (.bo r) := by
 unfold envelope_Notify at hr
 refine rf (fn := Try.f42) ⟨Try.func42, rfl, by kernel_rfl⟩ rfl (fun _ => rfl) fun g0 hg => ?_
 refine rn tk 5 rfl ?_
 refine jb hr (fun j1 => [(2, .bo j1)]) (fun j1 => []) (fun j1 hr => ?_) (fun j1 hr => ?_)
 ·
  refine rn tk 4 rfl ?_
  refine bs 5 hr rfl (fun c2 hr => ?_) (fun c2 hr => ?_)
  ·
   refine rn tk 5 rfl ?_
   cases hr
   exact jn _ rfl rfl rfl
  ·
   refine rn tk 5 rfl ?_
   cases hr
   exact jn _ rfl rfl rfl
 ·
  refine rn tk 1 rfl ?_
  cases hr
  exact kr tk (.inr rfl) rfl rfl
theorem envelope_Recipients_run (a0 : List TRecipient) (r : TFault) (hr : envelope_Recipients a0 = some r) : Run Try.prog 47 [.l TRecipient.pc a0] (.agg [.i r.Code, .i r.Index]) := by
 unfold envelope_Recipients at hr
 refine rf (fn := Try.f47) ⟨Try.func47, rfl, by kernel_rfl⟩ rfl (fun _ => rfl) fun g0 hg => ?_
 refine rn tk 9 rfl ?_
 refine wn tk rfl rfl rfl ?_
 refine rn tk 4 rfl ?_
 refine al2 hr (fun s1 => [(0, .l TRecipient.pc a0), (2, .ptr 2 0), (5, .l TRecipient.pc a0), (6, .i ((a0.length : Int))), (7, .i s1)]) (fun s1 => [(2, .cells [.i 0, .i 0])]) (.exit 0) (fun b2 => [(2, .ptr 2 0)]) (fun b2 => [(2, .cells [.i 0, .i 0])]) .ret (fun b3 => [(2, .ptr 2 0)]) (fun b3 => [(2, .cells [.i b3.Code, .i b3.Index])]) rfl rfl (fun s1 x5 hr => ?_) (fun b2 hr => ?_) (fun b3 hr => ?_)
 ·
  unfold envelope_Recipients_l1 at hr
  refine rn tk 6 rfl ?_
  refine ac 8 hr rfl (fun c6 hr => ?_) (fun c6 hr => ?_)
  ·
   refine rn tk 7 rfl ?_
   obtain ⟨v7, h8, hr⟩ := bind_some hr
   refine wi tk h8 rfl rfl rfl rfl rfl ?_
   refine rn tk 11 rfl ?_
   obtain ⟨v9, h10, hr⟩ := bind_some hr
   refine cl (envelope_Address_run _ _ h10) rfl rfl ?_
   refine rn tk 4 rfl ?_
   refine ac 12 hr rfl (fun c11 hr => ?_) (fun c11 hr => ?_)
   ·
    refine rn tk 3 rfl ?_
    obtain ⟨v12, h13, hr⟩ := bind_some hr
    refine cl (basic_Fault_run _ _ _ h13) rfl rfl ?_
    refine rn tk 7 rfl ?_
    cases hr
    exact ato rfl rfl rfl rfl
   ·
    refine rn tk 4 rfl ?_
    obtain ⟨v14, h15, hr⟩ := bind_some hr
    refine cl (envelope_Notify_run _ _ h15) rfl rfl ?_
    refine rn tk 4 rfl ?_
    refine ac 19 hr rfl (fun c16 hr => ?_) (fun c16 hr => ?_)
    ·
     refine rn tk 3 rfl ?_
     obtain ⟨v17, h18, hr⟩ := bind_some hr
     refine cl (basic_Fault_run _ _ _ h18) rfl rfl ?_
     refine rn tk 7 rfl ?_
     cases hr
     exact ato rfl rfl rfl rfl
    ·
     refine rn tk 4 rfl ?_
     obtain ⟨v19, h20, hr⟩ := bind_some hr
     refine wlH tk h20 rfl rfl rfl (fun _ => rfl) rfl ?_
     refine rn tk 1 rfl ?_
     refine il (fn := Try.f65) (args := [.l TRecipient.pc v19, .fn (.func 66) [] [.ptr 4 0]]) 500000 599999 [(0, .l TRecipient.pc a0), (2, .ptr 2 0), (3, .i s1), (5, .l TRecipient.pc a0), (6, .i ((a0.length : Int))), (7, .i s1)] rfl ⟨Try.func65, rfl, by kernel_rfl⟩ rfl rfl rfl fun T5 ds5 => ?_
     refine rn tk 9 rfl ?_
     refine ct hr (fun j21 => [(7, .i j21)]) (fun j21 => [(599999, .sus g0.w.heap.size ds5), (500000, .hold (.l TRecipient.pc a0) (T5.getD 0 undef)), (500002, .hold (.ptr 2 0) (T5.getD 2 undef)), (500005, .hold (.l TRecipient.pc a0) (T5.getD 5 undef)), (500006, .hold (.i ((a0.length : Int))) (T5.getD 6 undef)), (500007, .hold (.i s1) (T5.getD 7 undef)), (500003, .hold (.i s1) (T5.getD 3 undef)), (2, .cells [.i 0, .i 0])]) (fun j21 hr jump6 => ?_) (fun j21 hr => ?_)
     ·
      refine il (fn := Try.f63) (args := [.l TRecipient.pc v19, .fn (.func 66) [] [.ptr 4 0]]) 600000 699999 [] rfl ⟨Try.func63, rfl, by kernel_rfl⟩ rfl rfl rfl fun T6 ds6 => ?_
      refine rn tk 9 rfl ?_
      refine wn tk rfl rfl rfl ?_
      refine rn tk 4 rfl ?_
      refine al2 hr (fun s22 => [(0, .l TRecipient.pc v19), (1, .fn (.func 66) [] [.ptr 4 0]), (7, .i ((v19.length : Int))), (8, .i s22)]) (fun s22 => [(699999, .sus g0.w.heap.size ds6), (599999, .sus g0.w.heap.size ds5), (500000, .hold (.l TRecipient.pc a0) (T5.getD 0 undef)), (500002, .hold (.ptr 2 0) (T5.getD 2 undef)), (500005, .hold (.l TRecipient.pc a0) (T5.getD 5 undef)), (500006, .hold (.i ((a0.length : Int))) (T5.getD 6 undef)), (500007, .hold (.i s1) (T5.getD 7 undef)), (500003, .hold (.i s1) (T5.getD 3 undef)), (4, .cells [.s v7.Address, .i v7.Notify]), (2, .cells [.i 0, .i 0])]) (.exit 0) (fun b23 => []) (fun b23 => [(699999, .sus g0.w.heap.size ds6), (599999, .sus g0.w.heap.size ds5), (500000, .hold (.l TRecipient.pc a0) (T5.getD 0 undef)), (500002, .hold (.ptr 2 0) (T5.getD 2 undef)), (500005, .hold (.l TRecipient.pc a0) (T5.getD 5 undef)), (500006, .hold (.i ((a0.length : Int))) (T5.getD 6 undef)), (500007, .hold (.i s1) (T5.getD 7 undef)), (500003, .hold (.i s1) (T5.getD 3 undef)), (2, .cells [.i 0, .i 0])]) .ret (fun b24 => [(4, .i b24)]) (fun b24 => [(699999, .sus g0.w.heap.size ds6), (599999, .sus g0.w.heap.size ds5), (500000, .hold (.l TRecipient.pc a0) (T5.getD 0 undef)), (500002, .hold (.ptr 2 0) (T5.getD 2 undef)), (500005, .hold (.l TRecipient.pc a0) (T5.getD 5 undef)), (500006, .hold (.i ((a0.length : Int))) (T5.getD 6 undef)), (500007, .hold (.i s1) (T5.getD 7 undef)), (500003, .hold (.i s1) (T5.getD 3 undef)), (2, .cells [.i 0, .i 0])]) rfl rfl (fun s22 x26 hr => ?_) (fun b23 hr => ?_) (fun b24 hr => ?_)
      ·
       unfold envelope_Recipients_l2 at hr
       refine rn tk 6 rfl ?_
       refine ac 9 hr rfl (fun c27 hr => ?_) (fun c27 hr => ?_)
       ·
        refine rn tk 15 rfl ?_
        obtain ⟨v28, h29, hr⟩ := bind_some hr
        refine wi tk h29 rfl rfl rfl rfl rfl ?_
        refine rn tk 1 rfl ?_
        refine il (fn := Try.f66) (args := [.agg [.s v28.Address, .i v28.Notify], .ptr 4 0]) 800000 899999 [(0, .l TRecipient.pc v19), (1, .fn (.func 66) [] [.ptr 4 0]), (5, .i s22), (7, .i ((v19.length : Int))), (8, .i s22)] rfl ⟨Try.func66, rfl, by kernel_rfl⟩ rfl rfl rfl fun T8 ds8 => ?_
        refine rn tk 2 rfl ?_
        refine wo (opTo_box (k := 2) 1002 rfl rfl rfl rfl rfl) rfl ?_
        refine rn tk 14 rfl ?_
        refine ie tk [.bo ((v28.Address == v7.Address))] [(0, .l TRecipient.pc v19), (1, .fn (.func 66) [] [.ptr 4 0]), (5, .i s22), (7, .i ((v19.length : Int))), (8, .i s22)] [(1002, .cells [.s v28.Address, .i v28.Notify]), (699999, .sus g0.w.heap.size ds6), (599999, .sus g0.w.heap.size ds5), (500000, .hold (.l TRecipient.pc a0) (T5.getD 0 undef)), (500002, .hold (.ptr 2 0) (T5.getD 2 undef)), (500005, .hold (.l TRecipient.pc a0) (T5.getD 5 undef)), (500006, .hold (.i ((a0.length : Int))) (T5.getD 6 undef)), (500007, .hold (.i s1) (T5.getD 7 undef)), (500003, .hold (.i s1) (T5.getD 3 undef)), (4, .cells [.s v7.Address, .i v7.Notify]), (2, .cells [.i 0, .i 0])] (.inr rfl) rfl rfl rfl rfl (hO ?_)
        refine rn tk 2 rfl ?_
        refine ac 16 hr rfl (fun c30 hr => ?_) (fun c30 hr => ?_)
        ·
         refine rn tk 9 rfl ?_
         cases hr
         exact ato rfl rfl rfl rfl
        ·
         refine rn tk 7 rfl ?_
         cases hr
         exact atc rfl rfl
       ·
        refine rn tk 2 rfl ?_
        cases hr
        exact ato rfl rfl rfl rfl
      ·
       refine rn tk 8 rfl ?_
       refine ie tk [.i ((-1))] [] [(599999, .sus g0.w.heap.size ds5), (500000, .hold (.l TRecipient.pc a0) (T5.getD 0 undef)), (500002, .hold (.ptr 2 0) (T5.getD 2 undef)), (500005, .hold (.l TRecipient.pc a0) (T5.getD 5 undef)), (500006, .hold (.i ((a0.length : Int))) (T5.getD 6 undef)), (500007, .hold (.i s1) (T5.getD 7 undef)), (500003, .hold (.i s1) (T5.getD 3 undef)), (2, .cells [.i 0, .i 0])] (.inr rfl) rfl rfl rfl rfl ?_
       cases hr
       exact jump6 _ _ rfl rfl
      ·
       refine rn tk 2 rfl ?_
       refine ie tk [.i b24] [] [(599999, .sus g0.w.heap.size ds5), (500000, .hold (.l TRecipient.pc a0) (T5.getD 0 undef)), (500002, .hold (.ptr 2 0) (T5.getD 2 undef)), (500005, .hold (.l TRecipient.pc a0) (T5.getD 5 undef)), (500006, .hold (.i ((a0.length : Int))) (T5.getD 6 undef)), (500007, .hold (.i s1) (T5.getD 7 undef)), (500003, .hold (.i s1) (T5.getD 3 undef)), (2, .cells [.i 0, .i 0])] (.inr rfl) rfl rfl rfl rfl ?_
       cases hr
       exact jump6 _ _ rfl rfl
     ·
      refine rn tk 5 rfl ?_
      refine ie tk [.bo (decide (0 ≤ j21))] [(0, .l TRecipient.pc a0), (2, .ptr 2 0), (3, .i s1), (5, .l TRecipient.pc a0), (6, .i ((a0.length : Int))), (7, .i s1)] [(2, .cells [.i 0, .i 0])] (.inr rfl) rfl rfl rfl rfl (hO ?_)
      refine rn tk 3 rfl ?_
      refine ac 26 hr rfl (fun c31 hr => ?_) (fun c31 hr => ?_)
      ·
       refine rn tk 3 rfl ?_
       obtain ⟨v32, h33, hr⟩ := bind_some hr
       refine cl (basic_Fault_run _ _ _ h33) rfl rfl ?_
       refine rn tk 7 rfl ?_
       cases hr
       exact ato rfl rfl rfl rfl
      ·
       refine rn tk 8 rfl ?_
       cases hr
       exact atc rfl rfl
  ·
   refine rn tk 2 rfl ?_
   cases hr
   exact ato rfl rfl rfl rfl
 ·
  refine rn tk 4 rfl ?_
  obtain ⟨v34, h35, hr⟩ := bind_some hr
  refine cl (basic_None_run _ h35) rfl rfl ?_
  refine rn tk 4 rfl ?_
  cases hr
  exact kr tk (.inr rfl) rfl rfl
 ·
  refine rn tk 2 rfl ?_
  cases hr
  exact kr tk (.inr rfl) rfl rfl
theorem envelope_Validate_run (a0 : TEnvelope) (r : TFault) (hr : envelope_Validate a0 = some r) : Run Try.prog 22 [.agg [.s a0.From, .l TRecipient.pc a0.To, .s a0.Id]] (.agg [.i r.Code, .i r.Index]) := by
 unfold envelope_Validate at hr
 refine rf (fn := Try.f22) ⟨Try.func22, rfl, by kernel_rfl⟩ rfl (fun _ => rfl) fun g0 hg => ?_
 refine rn tk 8 rfl ?_
 refine jb hr (fun j1 => [(1, .ptr 1 0), (2, .ptr 2 0), (3, .bo j1)]) (fun j1 => [(2, .cells [.i 0, .i 0]), (1, .cells [.s a0.From, .l TRecipient.pc a0.To, .s a0.Id])]) (fun j1 hr => ?_) (fun j1 hr => ?_)
 ·
  refine rn tk 5 rfl ?_
  refine bs 7 hr rfl (fun c2 hr => ?_) (fun c2 hr => ?_)
  ·
   refine rn tk 2 rfl ?_
   obtain ⟨v3, h4, hr⟩ := bind_some hr
   refine ug rfl rfl rfl ?_
   refine cl (envelope_Address_run _ _ h4) rfl rfl ?_
   refine rn tk 4 rfl ?_
   cases hr
   exact jn _ rfl rfl rfl
  ·
   refine rn tk 7 rfl ?_
   cases hr
   exact jn _ rfl rfl rfl
 ·
  refine ac 3 hr rfl (fun c5 hr => ?_) (fun c5 hr => ?_)
  ·
   refine rn tk 2 rfl ?_
   obtain ⟨v6, h7, hr⟩ := bind_some hr
   refine cl (basic_Fault_run _ _ _ h7) rfl rfl ?_
   refine rn tk 6 rfl ?_
   cases hr
   exact kr tk (.inr rfl) rfl rfl
  ·
   refine jb hr (fun j8 => [(1, .ptr 1 0), (2, .ptr 2 0), (14, .bo j8)]) (fun j8 => [(2, .cells [.i 0, .i 0]), (1, .cells [.s a0.From, .l TRecipient.pc a0.To, .s a0.Id])]) (fun j8 hr => ?_) (fun j8 hr => ?_)
   ·
    refine rn tk 3 rfl ?_
    refine wn tk rfl rfl rfl ?_
    refine rn tk 2 rfl ?_
    refine bs 19 hr rfl (fun c9 hr => ?_) (fun c9 hr => ?_)
    ·
     refine rn tk 7 rfl ?_
     cases hr
     exact jn _ rfl rfl rfl
    ·
     refine rn tk 2 rfl ?_
     refine ug rfl rfl rfl ?_
     refine wn tk rfl rfl rfl ?_
     refine rn tk 4 rfl ?_
     cases hr
     exact jn _ rfl rfl rfl
   ·
    refine ac 14 hr rfl (fun c10 hr => ?_) (fun c10 hr => ?_)
    ·
     refine rn tk 2 rfl ?_
     obtain ⟨v11, h12, hr⟩ := bind_some hr
     refine cl (basic_Fault_run _ _ _ h12) rfl rfl ?_
     refine rn tk 6 rfl ?_
     cases hr
     exact kr tk (.inr rfl) rfl rfl
    ·
     refine jb hr (fun j13 => [(1, .ptr 1 0), (2, .ptr 2 0), (26, .bo j13)]) (fun j13 => [(2, .cells [.i 0, .i 0]), (1, .cells [.s a0.From, .l TRecipient.pc a0.To, .s a0.Id])]) (fun j13 hr => ?_) (fun j13 hr => ?_)
     ·
      refine rn tk 5 rfl ?_
      refine bs 30 hr rfl (fun c14 hr => ?_) (fun c14 hr => ?_)
      ·
       refine rn tk 2 rfl ?_
       obtain ⟨v15, h16, hr⟩ := bind_some hr
       refine ug rfl rfl rfl ?_
       refine cl (basic_Name_run _ _ h16) rfl rfl ?_
       refine rn tk 4 rfl ?_
       cases hr
       exact jn _ rfl rfl rfl
      ·
       refine rn tk 7 rfl ?_
       cases hr
       exact jn _ rfl rfl rfl
     ·
      refine ac 26 hr rfl (fun c17 hr => ?_) (fun c17 hr => ?_)
      ·
       refine rn tk 2 rfl ?_
       obtain ⟨v18, h19, hr⟩ := bind_some hr
       refine cl (basic_Fault_run _ _ _ h19) rfl rfl ?_
       refine rn tk 6 rfl ?_
       cases hr
       exact kr tk (.inr rfl) rfl rfl
      ·
       refine rn tk 7 rfl ?_
       obtain ⟨v20, h21, hr⟩ := bind_some hr
       refine cl (envelope_Recipients_run _ _ h21) rfl rfl ?_
       refine rn tk 4 rfl ?_
       cases hr
       exact kr tk (.inr rfl) rfl rfl
theorem slices_Index_string_string_run (a0 : List Str) (a1 : Str) (r : Int) (hr : slices_Index_string_string a0 a1 = some r) : Run Try.prog 62 [.l cS a0, .s a1] (.i r) := by
 unfold slices_Index_string_string at hr
 refine rf (fn := Try.f62) ⟨Try.func62, rfl, by kernel_rfl⟩ rfl (fun _ => rfl) fun g0 hg => ?_
 refine rn tk 9 rfl ?_
 refine wn tk rfl rfl rfl ?_
 refine rn tk 4 rfl ?_
 refine al2 hr (fun s1 => [(0, .l cS a0), (1, .s a1), (7, .i ((a0.length : Int))), (8, .i s1)]) (fun s1 => []) (.exit 0) (fun b2 => []) (fun b2 => []) .ret (fun b3 => [(4, .i b3)]) (fun b3 => []) rfl rfl (fun s1 x5 hr => ?_) (fun b2 hr => ?_) (fun b3 hr => ?_)
 ·
  unfold slices_Index_string_string_l1 at hr
  refine rn tk 6 rfl ?_
  refine ac 9 hr rfl (fun c6 hr => ?_) (fun c6 hr => ?_)
  ·
   refine rn tk 15 rfl ?_
   obtain ⟨v7, h8, hr⟩ := bind_some hr
   refine wi tk h8 rfl rfl rfl rfl rfl ?_
   refine rn tk 4 rfl ?_
   refine ac 16 hr rfl (fun c9 hr => ?_) (fun c9 hr => ?_)
   ·
    refine rn tk 9 rfl ?_
    cases hr
    exact ato rfl rfl rfl rfl
   ·
    refine rn tk 7 rfl ?_
    cases hr
    exact atc rfl rfl
  ·
   refine rn tk 2 rfl ?_
   cases hr
   exact ato rfl rfl rfl rfl
 ·
  refine rn tk 8 rfl ?_
  cases hr
  exact kr tk (.inr rfl) rfl rfl
 ·
  refine rn tk 2 rfl ?_
  cases hr
  exact kr tk (.inr rfl) rfl rfl
theorem slices_Contains_string_string_run (a0 : List Str) (a1 : Str) (r : Bool) (hr : slices_Contains_string_string a0 a1 = some r) : Run Try.prog 34 [.l cS a0, .s a1] (.bo r) := by
 unfold slices_Contains_string_string at hr
 refine rf (fn := Try.f34) ⟨Try.func34, rfl, by kernel_rfl⟩ rfl (fun _ => rfl) fun g0 hg => ?_
 refine rn tk 9 rfl ?_
 obtain ⟨v1, h2, hr⟩ := bind_some hr
 refine cl (slices_Index_string_string_run _ _ _ h2) rfl rfl ?_
 refine rn tk 5 rfl ?_
 cases hr
 exact kr tk (.inr rfl) rfl rfl
theorem envelope_Domains_run (a0 : TEnvelope) (r : (List Str) × TFault) (hr : envelope_Domains a0 = some r) : Run Try.prog 10 [.agg [.s a0.From, .l TRecipient.pc a0.To, .s a0.Id]] (.tup [.l cS r.1, .agg [.i r.2.Code, .i r.2.Index]]) := by
 unfold envelope_Domains at hr
 refine rf (fn := Try.f10) ⟨Try.func10, rfl, by kernel_rfl⟩ rfl (fun _ => rfl) fun g0 hg => ?_
 refine rn tk 11 rfl ?_
 obtain ⟨v1, h2, hr⟩ := bind_some hr
 refine cl (envelope_Validate_run _ _ h2) rfl rfl ?_
 refine rn tk 7 rfl ?_
 obtain ⟨v3, h4, hr⟩ := bind_some hr
 refine cl (basic_Failed_run _ _ h4) rfl rfl ?_
 refine rn tk 2 rfl ?_
 refine ac 14 hr rfl (fun c5 hr => ?_) (fun c5 hr => ?_)
 ·
  refine rn tk 1 rfl ?_
  refine dr 2 [(2, .pv (.sl (some true) [])), (15, .agg [.i v1.Code, .i v1.Index])] mixed (by kernel_rfl) rfl rfl (pq tk rfl (.plain rfl) (pq tk rfl (.plain rfl) .nil)) rfl ?_
  refine rn tk 5 rfl ?_
  cases hr
  exact kr tk (.inr rfl) rfl rfl
 ·
  refine rn tk 5 rfl ?_
  refine awpl_adopt 1005 (d := 5) 9 1 rfl rfl rfl (hO ?_)
  refine rn tk 7 rfl ?_
  refine wn tk rfl rfl rfl ?_
  refine rn tk 4 rfl ?_
  refine al1 hr (fun s6 => [(3, .ptr 3 0), (5, .hs 1005 0), (17, .l TRecipient.pc a0.To), (18, .i ((a0.To.length : Int))), (19, .i s6.1)]) (fun s6 => [(1005, .row 9 false 1 (List.map cS s6.2)), (3, .cells [.i 0, .i 0])]) (.exit 0) (fun b7 => [(3, .ptr 3 0), (5, .hs 1005 0)]) (fun b7 => [(1005, .row 9 false 1 (List.map cS b7)), (3, .cells [.i 0, .i 0])]) rfl rfl (fun s6 x8 hr => ?_) (fun b7 hr => ?_)
  ·
   unfold envelope_Domains_l1 at hr
   refine rn tk 6 rfl ?_
   refine ac 20 hr rfl (fun c9 hr => ?_) (fun c9 hr => ?_)
   ·
    refine rn tk 2 rfl ?_
    refine jb hr (fun j10 => [(3, .ptr 3 0), (5, .hs 1005 0), (17, .l TRecipient.pc a0.To), (18, .i ((a0.To.length : Int))), (19, .i s6.1)]) (fun j10 => [(1005, .row 9 false 1 (List.map cS j10)), (3, .cells [.i 0, .i 0])]) (fun j10 hr => ?_) (fun j10 hr => ?_)
    ·
     refine rn tk 3 rfl ?_
     obtain ⟨v11, h12, hr⟩ := bind_some hr
     refine wi tk h12 rfl rfl rfl rfl rfl ?_
     refine rn tk 9 rfl ?_
     obtain ⟨v13, h14, hr⟩ := bind_some hr
     refine cl (envelope_Split_run _ _ h14) rfl rfl ?_
     refine rn tk 13 rfl ?_
     refine awpl_pub (d := 30) (F := cS) (l := s6.2) rfl rfl (hO ?_)
     obtain ⟨v15, h16, hr⟩ := bind_some hr
     refine cl (slices_Contains_string_string_run _ _ _ h16) rfl rfl ?_
     refine rn tk 3 rfl ?_
     refine ac 33 hr rfl (fun c17 hr => ?_) (fun c17 hr => ?_)
     ·
      refine rn tk 3 rfl ?_
      refine wz cS ([v13.2.1] : List Str) tk rfl rfl (fun _ => rfl) rfl rfl rfl ?_
      obtain ⟨v18, h19, hr⟩ := bind_some hr
      refine wa tk h19 rfl rfl rfl rfl (fun _ => rfl) rfl rfl ?_
      refine rn tk 3 rfl ?_
      cases hr
      exact jn _ rfl rfl rfl
     ·
      refine rn tk 2 rfl ?_
      cases hr
      exact jn _ rfl rfl rfl
    ·
     refine rn tk 4 rfl ?_
     cases hr
     exact atc rfl rfl
   ·
    refine rn tk 2 rfl ?_
    cases hr
    exact ato rfl rfl rfl rfl
  ·
   refine rn tk 5 rfl ?_
   obtain ⟨v20, h21, hr⟩ := bind_some hr
   refine cl (basic_None_run _ h21) rfl rfl ?_
   refine rn tk 4 rfl ?_
   refine awp_pub (d := 2) (F := cS) (l := b7) rfl rfl (hC ?_)
   refine rn tk 1 rfl ?_
   cases hr
   exact kr tk (.inr rfl) rfl rfl
theorem envelope_For_run (a0 : TEnvelope) (a1 : Str) (r : TEnvelope × TFault) (hr : envelope_For a0 a1 = some r) : Run Try.prog 11 [.agg [.s a0.From, .l TRecipient.pc a0.To, .s a0.Id], .s a1] (.tup [.agg [.s r.1.From, .l TRecipient.pc r.1.To, .s r.1.Id], .agg [.i r.2.Code, .i r.2.Index]]) := by
 unfold envelope_For at hr
 refine rf (fn := Try.f11) ⟨Try.func11, rfl, by kernel_rfl⟩ rfl (fun _ => rfl) fun g0 hg => ?_
 refine rn tk 12 rfl ?_
 obtain ⟨v1, h2, hr⟩ := bind_some hr
 refine cl (envelope_Validate_run _ _ h2) rfl rfl ?_
 refine rn tk 7 rfl ?_
 obtain ⟨v3, h4, hr⟩ := bind_some hr
 refine cl (basic_Failed_run _ _ h4) rfl rfl ?_
 refine rn tk 2 rfl ?_
 refine ac 10 hr rfl (fun c5 hr => ?_) (fun c5 hr => ?_)
 ·
  refine rn tk 1 rfl ?_
  refine awp_explore [([false, false, false, false], [(4, .ptr 4 0), (5, .ptr 5 0), (6, .ptr 6 0)], [(6, .cells [.i v1.Code, .i v1.Index]), (5, .cells [.i 0, .i 0]), (4, .cells [.s (([] : Str)), .pv (.sl (some true) []), .s (([] : Str))]), (3, .cells [.s a1]), (2, .cells [.s a0.From, .l TRecipient.pc a0.To, .s a0.Id])]), ([true, false, false, false], [(4, .ptr 4 0), (5, .ptr 5 0), (6, .ptr 6 0), (11, .agg [.s (([] : Str)), .pv (.sl (some true) []), .s (([] : Str))])], [(6, .cells [.i v1.Code, .i v1.Index]), (5, .cells [.i 0, .i 0]), (4, .cells [.s (([] : Str)), .pv (.sl (some true) []), .s (([] : Str))]), (3, .cells [.s a1]), (2, .cells [.s a0.From, .l TRecipient.pc a0.To, .s a0.Id])]), ([false, true, false, false], [(4, .ptr 4 0), (5, .ptr 5 0), (6, .ptr 6 0), (12, .agg [.i v1.Code, .i v1.Index])], [(6, .cells [.i v1.Code, .i v1.Index]), (5, .cells [.i 0, .i 0]), (4, .cells [.s (([] : Str)), .pv (.sl (some true) []), .s (([] : Str))]), (3, .cells [.s a1]), (2, .cells [.s a0.From, .l TRecipient.pc a0.To, .s a0.Id])]), ([true, true, false, false], [(4, .ptr 4 0), (5, .ptr 5 0), (6, .ptr 6 0), (11, .agg [.s (([] : Str)), .pv (.sl (some true) []), .s (([] : Str))]), (12, .agg [.i v1.Code, .i v1.Index])], [(6, .cells [.i v1.Code, .i v1.Index]), (5, .cells [.i 0, .i 0]), (4, .cells [.s (([] : Str)), .pv (.sl (some true) []), .s (([] : Str))]), (3, .cells [.s a1]), (2, .cells [.s a0.From, .l TRecipient.pc a0.To, .s a0.Id])]), ([true, false, true, false], [(4, .ptr 4 0), (5, .ptr 5 0), (6, .ptr 6 0), (11, .agg [.s (([] : Str)), .pv (.sl (some true) []), .s (([] : Str))])], [(6, .cells [.i v1.Code, .i v1.Index]), (5, .cells [.i 0, .i 0]), (4, .cells [.s (([] : Str)), .pv (.sl (some true) []), .s (([] : Str))]), (3, .cells [.s a1]), (2, .cells [.s a0.From, .l TRecipient.pc a0.To, .s a0.Id])]), ([true, true, true, false], [(4, .ptr 4 0), (5, .ptr 5 0), (6, .ptr 6 0), (11, .agg [.s (([] : Str)), .pv (.sl (some true) []), .s (([] : Str))]), (12, .agg [.i v1.Code, .i v1.Index])], [(6, .cells [.i v1.Code, .i v1.Index]), (5, .cells [.i 0, .i 0]), (4, .cells [.s (([] : Str)), .pv (.sl (some true) []), .s (([] : Str))]), (3, .cells [.s a1]), (2, .cells [.s a0.From, .l TRecipient.pc a0.To, .s a0.Id])]), ([true, true, true, true], [(4, .ptr 4 0), (5, .ptr 5 0), (6, .ptr 6 0), (11, .agg [.s (([] : Str)), .pv (.sl (some true) []), .s (([] : Str))]), (12, .agg [.i v1.Code, .i v1.Index])], [(6, .cells [.i v1.Code, .i v1.Index]), (5, .cells [.i v1.Code, .i v1.Index]), (4, .cells [.s (([] : Str)), .pv (.sl (some true) []), .s (([] : Str))]), (3, .cells [.s a1]), (2, .cells [.s a0.From, .l TRecipient.pc a0.To, .s a0.Id])])] mixed (by kernel_rfl) rfl rfl (frLe_cons rfl (frLe_cons rfl (frLe_cons rfl frLe_nil))) (stoLe_cons rfl (stoLe_cons rfl (stoLe_cons rfl (stoLe_cons rfl (stoLe_cons rfl stoLe_nil))))) (.cons (.step [0, 1] (by kernel_rfl) rfl (.cons (.yes 1 rfl (wanted_plain rfl) (opTo_q (d := 11) rfl rfl (ev_build (cs := [.s (([] : Str)), .pv (.sl (some true) []), .s (([] : Str))]) ty_api_Envelope pl_api_Envelope (.inr ⟨rfl, rfl⟩) rfl)) rfl (frLe_cons rfl (frLe_cons rfl (frLe_cons rfl (frLe_cons rfl frLe_nil)))) (stoLe_cons rfl (stoLe_cons rfl (stoLe_cons rfl (stoLe_cons rfl (stoLe_cons rfl stoLe_nil)))))) (.cons (.yes 2 rfl (wanted_plain rfl) (opTo_q (d := 12) rfl rfl (ev_loadN rfl rfl ty_api_Fault rfl rfl)) rfl (frLe_cons rfl (frLe_cons rfl (frLe_cons rfl (frLe_cons rfl frLe_nil)))) (stoLe_cons rfl (stoLe_cons rfl (stoLe_cons rfl (stoLe_cons rfl (stoLe_cons rfl stoLe_nil)))))) .nil))) (.cons (.step [1, 2] (by kernel_rfl) rfl (.cons (.yes 3 rfl (wanted_plain rfl) (opTo_q (d := 12) rfl rfl (ev_loadN rfl rfl ty_api_Fault rfl rfl)) rfl (frLe_cons rfl (frLe_cons rfl (frLe_cons rfl (frLe_cons rfl (frLe_cons rfl frLe_nil))))) (stoLe_cons rfl (stoLe_cons rfl (stoLe_cons rfl (stoLe_cons rfl (stoLe_cons rfl stoLe_nil)))))) (.cons (.yes 4 rfl (wanted_plain rfl) (opTo_store rfl rfl rfl ty_api_Envelope rfl rfl) rfl (frLe_cons rfl (frLe_cons rfl (frLe_cons rfl (frLe_cons rfl frLe_nil)))) (stoLe_cons rfl (stoLe_cons rfl (stoLe_cons rfl (stoLe_cons rfl (stoLe_cons rfl stoLe_nil)))))) .nil))) (.cons (.step [0] (by kernel_rfl) rfl (.cons (.yes 3 rfl (wanted_plain rfl) (opTo_q (d := 11) rfl rfl (ev_build (cs := [.s (([] : Str)), .pv (.sl (some true) []), .s (([] : Str))]) ty_api_Envelope pl_api_Envelope (.inr ⟨rfl, rfl⟩) rfl)) rfl (frLe_cons rfl (frLe_cons rfl (frLe_cons rfl (frLe_cons rfl (frLe_cons rfl frLe_nil))))) (stoLe_cons rfl (stoLe_cons rfl (stoLe_cons rfl (stoLe_cons rfl (stoLe_cons rfl stoLe_nil)))))) .nil)) (.cons (.step [2] (by kernel_rfl) rfl (.cons (.yes 5 rfl (wanted_plain rfl) (opTo_store rfl rfl rfl ty_api_Envelope rfl rfl) rfl (frLe_cons rfl (frLe_cons rfl (frLe_cons rfl (frLe_cons rfl (frLe_cons rfl frLe_nil))))) (stoLe_cons rfl (stoLe_cons rfl (stoLe_cons rfl (stoLe_cons rfl (stoLe_cons rfl stoLe_nil)))))) .nil)) (.cons (.step [1] (by kernel_rfl) rfl (.cons (.yes 5 rfl (wanted_plain rfl) (opTo_q (d := 12) rfl rfl (ev_loadN rfl rfl ty_api_Fault rfl rfl)) rfl (frLe_cons rfl (frLe_cons rfl (frLe_cons rfl (frLe_cons rfl (frLe_cons rfl frLe_nil))))) (stoLe_cons rfl (stoLe_cons rfl (stoLe_cons rfl (stoLe_cons rfl (stoLe_cons rfl stoLe_nil)))))) .nil)) (.cons (.step [3] (by kernel_rfl) rfl (.cons (.yes 6 rfl (wanted_plain rfl) (opTo_store rfl rfl rfl ty_api_Fault rfl rfl) rfl (frLe_cons rfl (frLe_cons rfl (frLe_cons rfl (frLe_cons rfl (frLe_cons rfl frLe_nil))))) (stoLe_cons rfl (stoLe_cons rfl (stoLe_cons rfl (stoLe_cons rfl (stoLe_cons rfl stoLe_nil)))))) .nil)) (.cons (.full (by kernel_rfl) (hA ?_)) .nil)))))))
  refine rn tk 3 rfl ?_
  cases hr
  exact kr tk (.inr rfl) rfl rfl
 ·
  refine rn tk 6 rfl ?_
  refine ct hr (fun j6 => [(2, .ptr 2 0), (3, .ptr 3 0), (4, .ptr 4 0), (5, .ptr 5 0), (15, .hs 2002 0)]) (fun j6 => [(2002, .row 36 true 2 (List.map TRecipient.pc j6)), (5, .cells [.i 0, .i 0]), (4, .cells [.s (([] : Str)), .l TRecipient.pc ([]), .s (([] : Str))]), (3, .cells [.s a1]), (2, .cells [.s a0.From, .l TRecipient.pc a0.To, .s a0.Id])]) (fun j6 hr jump1 => ?_) (fun j6 hr => ?_)
  ·
   refine il (fn := Try.f37) (args := [.l TRecipient.pc a0.To]) 100000 199999 [(2, .ptr 2 0), (3, .ptr 3 0), (4, .ptr 4 0), (5, .ptr 5 0)] rfl ⟨Try.func37, rfl, by kernel_rfl⟩ rfl rfl rfl fun T1 ds1 => ?_
   refine rn tk 3 rfl ?_
   refine awpl_adoptM 1002 (d := 2) 36 2 rfl rfl rfl (hO ?_)
   refine rn tk 6 rfl ?_
   refine awpl_isnil (d := 3) (F := TRecipient.pc) (l := a0.To) rfl rfl rfl ty_s_api_Recipient (fun c7 => hO ?_) (hO ?_)
   ·
    replace hr := nilE_nil c7 hr
    refine rn tk 6 rfl ?_
    refine awpl_adoptM 2002 (d := 2) 36 2 rfl rfl rfl (hO ?_)
    refine rn tk 4 rfl ?_
    refine ie tk [.hs 2002 0] [(2, .ptr 2 0), (3, .ptr 3 0), (4, .ptr 4 0), (5, .ptr 5 0)] [(2002, .row 36 true 2 (List.map TRecipient.pc (([] : List TRecipient)))), (1002, .row 36 true 2 (List.map TRecipient.pc (([] : List TRecipient)))), (6, .cells [.i v1.Code, .i v1.Index]), (5, .cells [.i 0, .i 0]), (4, .cells [.s (([] : Str)), .pv (.sl (some true) []), .s (([] : Str))]), (3, .cells [.s a1]), (2, .cells [.s a0.From, .l TRecipient.pc a0.To, .s a0.Id])] (.inr rfl) rfl rfl rfl rfl ?_
    cases hr
    exact jump1 _ _ rfl rfl
   ·
    replace hr := nilE_not hr
    refine rn tk 7 rfl ?_
    refine wo (opTo_litz (k := 5) rfl ty_s_api_Recipient ty_api_Recipient) rfl ?_
    refine rn tk 1 rfl ?_
    obtain ⟨v8, h9, hr⟩ := bind_some hr
    refine wo (opTo_appendz (k := 7) (F := TRecipient.pc) (xs := a0.To) (lim := 5864062014805) 2002 rfl rfl rfl ty_s_api_Recipient ty_api_Recipient rfl rfl (fun _ => rfl) rfl rfl rfl h9) rfl ?_
    refine rn tk 4 rfl ?_
    refine ie tk [.hs 2002 0] [(2, .ptr 2 0), (3, .ptr 3 0), (4, .ptr 4 0), (5, .ptr 5 0)] [(2002, .row 36 true 2 (List.map TRecipient.pc v8)), (1002, .row 36 true 2 (List.map TRecipient.pc (([] : List TRecipient)))), (6, .cells [.i v1.Code, .i v1.Index]), (5, .cells [.i 0, .i 0]), (4, .cells [.s (([] : Str)), .pv (.sl (some true) []), .s (([] : Str))]), (3, .cells [.s a1]), (2, .cells [.s a0.From, .l TRecipient.pc a0.To, .s a0.Id])] (.inr rfl) rfl rfl rfl rfl ?_
    cases hr
    exact jump1 _ _ rfl rfl
  ·
   refine rn tk 1 rfl ?_
   refine ct hr (fun j10 => [(2, .ptr 2 0), (4, .ptr 4 0), (5, .ptr 5 0), (17, .l TRecipient.pc j10)]) (fun j10 => [(5, .cells [.i 0, .i 0]), (4, .cells [.s (([] : Str)), .l TRecipient.pc ([]), .s (([] : Str))]), (2, .cells [.s a0.From, .l TRecipient.pc a0.To, .s a0.Id])]) (fun j10 hr jump2 => ?_) (fun j10 hr => ?_)
   ·
    refine il (fn := Try.f36) (args := [.hs 2002 0, .fn (.func 38) [] [.ptr 3 0]]) 200000 299999 [(2, .ptr 2 0), (4, .ptr 4 0), (5, .ptr 5 0)] rfl ⟨Try.func36, rfl, by kernel_rfl⟩ rfl rfl rfl fun T2 ds2 => ?_
    refine rn tk 9 rfl ?_
    refine ct hr (fun j11 => [(0, .hs 2002 0), (1, .fn (.func 38) [] [.ptr 3 0]), (10, .i j11)]) (fun j11 => [(299999, .sus g0.w.heap.size ds2), (200002, .hold (.ptr 2 0) (T2.getD 2 undef)), (200004, .hold (.ptr 4 0) (T2.getD 4 undef)), (200005, .hold (.ptr 5 0) (T2.getD 5 undef)), (2002, .row 36 true 2 (List.map TRecipient.pc j6)), (5, .cells [.i 0, .i 0]), (4, .cells [.s (([] : Str)), .l TRecipient.pc ([]), .s (([] : Str))]), (3, .cells [.s a1]), (2, .cells [.s a0.From, .l TRecipient.pc a0.To, .s a0.Id])]) (fun j11 hr jump3 => ?_) (fun j11 hr => ?_)
    ·
     refine il (fn := Try.f63) (args := [.hs 2002 0, .fn (.func 38) [] [.ptr 3 0]]) 300000 399999 [(0, .hs 2002 0), (1, .fn (.func 38) [] [.ptr 3 0])] rfl ⟨Try.func63, rfl, by kernel_rfl⟩ rfl rfl rfl fun T3 ds3 => ?_
     refine rn tk 9 rfl ?_
     refine wnh tk rfl rfl rfl rfl ?_
     refine rn tk 4 rfl ?_
     refine al2 hr (fun s12 => [(0, .hs 2002 0), (1, .fn (.func 38) [] [.ptr 3 0]), (7, .i ((j6.length : Int))), (8, .i s12)]) (fun s12 => [(399999, .sus g0.w.heap.size ds3), (300000, .hold (.hs 2002 0) (T3.getD 0 undef)), (300001, .hold (.fn (.func 38) [] [.ptr 3 0]) (T3.getD 1 undef)), (299999, .sus g0.w.heap.size ds2), (200002, .hold (.ptr 2 0) (T2.getD 2 undef)), (200004, .hold (.ptr 4 0) (T2.getD 4 undef)), (200005, .hold (.ptr 5 0) (T2.getD 5 undef)), (2002, .row 36 true 2 (List.map TRecipient.pc j6)), (5, .cells [.i 0, .i 0]), (4, .cells [.s (([] : Str)), .l TRecipient.pc ([]), .s (([] : Str))]), (3, .cells [.s a1]), (2, .cells [.s a0.From, .l TRecipient.pc a0.To, .s a0.Id])]) (.exit 0) (fun b13 => []) (fun b13 => [(399999, .sus g0.w.heap.size ds3), (300000, .hold (.hs 2002 0) (T3.getD 0 undef)), (300001, .hold (.fn (.func 38) [] [.ptr 3 0]) (T3.getD 1 undef)), (299999, .sus g0.w.heap.size ds2), (200002, .hold (.ptr 2 0) (T2.getD 2 undef)), (200004, .hold (.ptr 4 0) (T2.getD 4 undef)), (200005, .hold (.ptr 5 0) (T2.getD 5 undef)), (2002, .row 36 true 2 (List.map TRecipient.pc j6)), (5, .cells [.i 0, .i 0]), (4, .cells [.s (([] : Str)), .l TRecipient.pc ([]), .s (([] : Str))]), (3, .cells [.s a1]), (2, .cells [.s a0.From, .l TRecipient.pc a0.To, .s a0.Id])]) .ret (fun b14 => [(4, .i b14)]) (fun b14 => [(399999, .sus g0.w.heap.size ds3), (300000, .hold (.hs 2002 0) (T3.getD 0 undef)), (300001, .hold (.fn (.func 38) [] [.ptr 3 0]) (T3.getD 1 undef)), (299999, .sus g0.w.heap.size ds2), (200002, .hold (.ptr 2 0) (T2.getD 2 undef)), (200004, .hold (.ptr 4 0) (T2.getD 4 undef)), (200005, .hold (.ptr 5 0) (T2.getD 5 undef)), (2002, .row 36 true 2 (List.map TRecipient.pc j6)), (5, .cells [.i 0, .i 0]), (4, .cells [.s (([] : Str)), .l TRecipient.pc ([]), .s (([] : Str))]), (3, .cells [.s a1]), (2, .cells [.s a0.From, .l TRecipient.pc a0.To, .s a0.Id])]) rfl rfl (fun s12 x16 hr => ?_) (fun b13 hr => ?_) (fun b14 hr => ?_)
     ·
      unfold envelope_For_l1 at hr
      refine rn tk 6 rfl ?_
      refine ac 9 hr rfl (fun c17 hr => ?_) (fun c17 hr => ?_)
      ·
       refine rn tk 15 rfl ?_
       obtain ⟨v18, h19, hr⟩ := bind_some hr
       refine wih tk h19 rfl rfl rfl rfl rfl ?_
       obtain ⟨v20, h21, hr⟩ := bind_some hr
       refine wq (ev_hloadN (F := TRecipient.pc) (l := j6) (n := s12) (j := 0) rfl rfl ty_api_Recipient rfl h21 rfl) rfl rfl rfl ?_
       refine il (fn := Try.f38) (args := [.agg [.s v20.Address, .i v20.Notify], .ptr 3 0]) 500000 599999 [(0, .hs 2002 0), (1, .fn (.func 38) [] [.ptr 3 0]), (5, .i s12), (7, .i ((j6.length : Int))), (8, .i s12)] rfl ⟨Try.func38, rfl, by kernel_rfl⟩ rfl rfl rfl fun T5 ds5 => ?_
       refine rn tk 2 rfl ?_
       refine wo (opTo_box (k := 2) 1002 rfl rfl rfl rfl rfl) rfl ?_
       refine rn tk 7 rfl ?_
       obtain ⟨v22, h23, hr⟩ := bind_some hr
       refine cl (envelope_Split_run _ _ h23) rfl rfl ?_
       refine rn tk 18 rfl ?_
       refine ie tk [.bo ((v22.2.1 != a1))] [(0, .hs 2002 0), (1, .fn (.func 38) [] [.ptr 3 0]), (5, .i s12), (7, .i ((j6.length : Int))), (8, .i s12)] [(1002, .cells [.s v20.Address, .i v20.Notify]), (399999, .sus g0.w.heap.size ds3), (300000, .hold (.hs 2002 0) (T3.getD 0 undef)), (300001, .hold (.fn (.func 38) [] [.ptr 3 0]) (T3.getD 1 undef)), (299999, .sus g0.w.heap.size ds2), (200002, .hold (.ptr 2 0) (T2.getD 2 undef)), (200004, .hold (.ptr 4 0) (T2.getD 4 undef)), (200005, .hold (.ptr 5 0) (T2.getD 5 undef)), (2002, .row 36 true 2 (List.map TRecipient.pc j6)), (5, .cells [.i 0, .i 0]), (4, .cells [.s (([] : Str)), .l TRecipient.pc ([]), .s (([] : Str))]), (3, .cells [.s a1]), (2, .cells [.s a0.From, .l TRecipient.pc a0.To, .s a0.Id])] (.inr rfl) rfl rfl rfl rfl (hO ?_)
       refine rn tk 2 rfl ?_
       refine ac 16 hr rfl (fun c24 hr => ?_) (fun c24 hr => ?_)
       ·
        refine rn tk 9 rfl ?_
        cases hr
        exact ato rfl rfl rfl rfl
       ·
        refine rn tk 7 rfl ?_
        cases hr
        exact atc rfl rfl
      ·
       refine rn tk 2 rfl ?_
       cases hr
       exact ato rfl rfl rfl rfl
     ·
      refine rn tk 8 rfl ?_
      refine ie tk [.i ((-1))] [(0, .hs 2002 0), (1, .fn (.func 38) [] [.ptr 3 0])] [(299999, .sus g0.w.heap.size ds2), (200002, .hold (.ptr 2 0) (T2.getD 2 undef)), (200004, .hold (.ptr 4 0) (T2.getD 4 undef)), (200005, .hold (.ptr 5 0) (T2.getD 5 undef)), (2002, .row 36 true 2 (List.map TRecipient.pc j6)), (5, .cells [.i 0, .i 0]), (4, .cells [.s (([] : Str)), .l TRecipient.pc ([]), .s (([] : Str))]), (3, .cells [.s a1]), (2, .cells [.s a0.From, .l TRecipient.pc a0.To, .s a0.Id])] (.inr rfl) rfl rfl rfl rfl ?_
      cases hr
      exact jump3 _ _ rfl rfl
     ·
      refine rn tk 2 rfl ?_
      refine ie tk [.i b14] [(0, .hs 2002 0), (1, .fn (.func 38) [] [.ptr 3 0])] [(299999, .sus g0.w.heap.size ds2), (200002, .hold (.ptr 2 0) (T2.getD 2 undef)), (200004, .hold (.ptr 4 0) (T2.getD 4 undef)), (200005, .hold (.ptr 5 0) (T2.getD 5 undef)), (2002, .row 36 true 2 (List.map TRecipient.pc j6)), (5, .cells [.i 0, .i 0]), (4, .cells [.s (([] : Str)), .l TRecipient.pc ([]), .s (([] : Str))]), (3, .cells [.s a1]), (2, .cells [.s a0.From, .l TRecipient.pc a0.To, .s a0.Id])] (.inr rfl) rfl rfl rfl rfl ?_
      cases hr
      exact jump3 _ _ rfl rfl
    ·
     refine rn tk 10 rfl ?_
     refine ac 12 hr rfl (fun c25 hr => ?_) (fun c25 hr => ?_)
     ·
      refine rn tk 6 rfl ?_
      refine awp_unmu 2002 rfl (hC ?_)
      refine awp_pub (d := 4) (F := TRecipient.pc) (l := j6) rfl rfl (hC ?_)
      refine rn tk 2 rfl ?_
      refine ie tk [.l TRecipient.pc j6] [(2, .ptr 2 0), (4, .ptr 4 0), (5, .ptr 5 0)] [(2002, .row 36 false 2 (List.map TRecipient.pc j6)), (5, .cells [.i 0, .i 0]), (4, .cells [.s (([] : Str)), .l TRecipient.pc ([]), .s (([] : Str))]), (3, .cells [.s a1]), (2, .cells [.s a0.From, .l TRecipient.pc a0.To, .s a0.Id])] (.inr rfl) rfl rfl rfl rfl ?_
      cases hr
      exact jump2 _ _ rfl rfl
     ·
      refine rn tk 11 rfl ?_
      refine al1 hr (fun s26 => [(0, .hs 2002 0), (1, .fn (.func 38) [] [.ptr 3 0]), (5, .i s26.1), (6, .i s26.2.1)]) (fun s26 => [(299999, .sus g0.w.heap.size ds2), (200002, .hold (.ptr 2 0) (T2.getD 2 undef)), (200004, .hold (.ptr 4 0) (T2.getD 4 undef)), (200005, .hold (.ptr 5 0) (T2.getD 5 undef)), (2002, .row 36 true 2 (List.map TRecipient.pc s26.2.2)), (5, .cells [.i 0, .i 0]), (4, .cells [.s (([] : Str)), .l TRecipient.pc ([]), .s (([] : Str))]), (3, .cells [.s a1]), (2, .cells [.s a0.From, .l TRecipient.pc a0.To, .s a0.Id])]) (.exit 0) (fun b27 => [(0, .hs 2002 0), (5, .i b27.1)]) (fun b27 => [(299999, .sus g0.w.heap.size ds2), (200002, .hold (.ptr 2 0) (T2.getD 2 undef)), (200004, .hold (.ptr 4 0) (T2.getD 4 undef)), (200005, .hold (.ptr 5 0) (T2.getD 5 undef)), (2002, .row 36 true 2 (List.map TRecipient.pc b27.2)), (5, .cells [.i 0, .i 0]), (4, .cells [.s (([] : Str)), .l TRecipient.pc ([]), .s (([] : Str))]), (2, .cells [.s a0.From, .l TRecipient.pc a0.To, .s a0.Id])]) rfl rfl (fun s26 x28 hr => ?_) (fun b27 hr => ?_)
      ·
       unfold envelope_For_l2 at hr
       refine rn tk 5 rfl ?_
       refine wnh tk rfl rfl rfl rfl ?_
       refine rn tk 3 rfl ?_
       refine ac 19 hr rfl (fun c29 hr => ?_) (fun c29 hr => ?_)
       ·
        refine rn tk 2 rfl ?_
        refine jb hr (fun j30 => [(0, .hs 2002 0), (1, .fn (.func 38) [] [.ptr 3 0]), (5, .i j30.1), (6, .i s26.2.1)]) (fun j30 => [(299999, .sus g0.w.heap.size ds2), (200002, .hold (.ptr 2 0) (T2.getD 2 undef)), (200004, .hold (.ptr 4 0) (T2.getD 4 undef)), (200005, .hold (.ptr 5 0) (T2.getD 5 undef)), (2002, .row 36 true 2 (List.map TRecipient.pc j30.2)), (5, .cells [.i 0, .i 0]), (4, .cells [.s (([] : Str)), .l TRecipient.pc ([]), .s (([] : Str))]), (3, .cells [.s a1]), (2, .cells [.s a0.From, .l TRecipient.pc a0.To, .s a0.Id])]) (fun j30 hr => ?_) (fun j30 hr => ?_)
        ·
         refine rn tk 5 rfl ?_
         obtain ⟨v31, h32, hr⟩ := bind_some hr
         refine wih tk h32 rfl rfl rfl rfl rfl ?_
         obtain ⟨v33, h34, hr⟩ := bind_some hr
         refine wq (ev_hloadN (F := TRecipient.pc) (l := s26.2.2) (n := s26.2.1) (j := 0) rfl rfl ty_api_Recipient rfl h34 rfl) rfl rfl rfl ?_
         refine rn tk 8 rfl ?_
         refine il (fn := Try.f38) (args := [.agg [.s v33.Address, .i v33.Notify], .ptr 3 0]) 1100000 1199999 [(0, .hs 2002 0), (1, .fn (.func 38) [] [.ptr 3 0]), (5, .i s26.1), (6, .i s26.2.1), (7, .ptr 7 0)] rfl ⟨Try.func38, rfl, by kernel_rfl⟩ rfl rfl rfl fun T11 ds11 => ?_
         refine rn tk 2 rfl ?_
         refine wo (opTo_box (k := 2) 1002 rfl rfl rfl rfl rfl) rfl ?_
         refine rn tk 7 rfl ?_
         obtain ⟨v35, h36, hr⟩ := bind_some hr
         refine cl (envelope_Split_run _ _ h36) rfl rfl ?_
         refine rn tk 18 rfl ?_
         refine ie tk [.bo ((v35.2.1 != a1))] [(0, .hs 2002 0), (1, .fn (.func 38) [] [.ptr 3 0]), (5, .i s26.1), (6, .i s26.2.1), (7, .ptr 7 0)] [(1002, .cells [.s v33.Address, .i v33.Notify]), (7, .cells [.s v33.Address, .i v33.Notify]), (299999, .sus g0.w.heap.size ds2), (200002, .hold (.ptr 2 0) (T2.getD 2 undef)), (200004, .hold (.ptr 4 0) (T2.getD 4 undef)), (200005, .hold (.ptr 5 0) (T2.getD 5 undef)), (2002, .row 36 true 2 (List.map TRecipient.pc s26.2.2)), (5, .cells [.i 0, .i 0]), (4, .cells [.s (([] : Str)), .l TRecipient.pc ([]), .s (([] : Str))]), (3, .cells [.s a1]), (2, .cells [.s a0.From, .l TRecipient.pc a0.To, .s a0.Id])] (.inr rfl) rfl rfl rfl rfl (hO ?_)
         refine rn tk 3 rfl ?_
         refine ac 29 hr rfl (fun c37 hr => ?_) (fun c37 hr => ?_)
         ·
          refine rn tk 5 rfl ?_
          obtain ⟨v38, h39, hr⟩ := bind_some hr
          refine wih tk h39 rfl rfl rfl rfl rfl ?_
          obtain ⟨v40, h41, hr⟩ := bind_some hr
          refine wo (opTo_hstore (F := TRecipient.pc) (l := s26.2.2) (n := s26.1) (j := 0) (v := v40) (v' := v33) (pcs := [pS v33.Address, pI v33.Notify]) rfl rfl rfl ty_api_Recipient rfl h41 rfl rfl) rfl ?_
          refine rn tk 8 rfl ?_
          cases hr
          exact jn _ rfl rfl rfl
         ·
          refine rn tk 2 rfl ?_
          cases hr
          exact jn _ rfl rfl rfl
        ·
         refine rn tk 5 rfl ?_
         cases hr
         exact atc rfl rfl
       ·
        refine rn tk 2 rfl ?_
        cases hr
        exact ato rfl rfl rfl rfl
      ·
       refine rn tk 6 rfl ?_
       obtain ⟨v42, h43, hr⟩ := bind_some hr
       refine wq (ev_hsub (F := TRecipient.pc) (l := b27.2) (p := b27.1) rfl rfl rfl ty_s_api_Recipient ty_api_Recipient h43) rfl rfl rfl ?_
       refine wo (opTo_clear (F := TRecipient.pc) (l := b27.2) (z := ((TRecipient.mk (([] : Str)) 0))) rfl rfl ty_s_api_Recipient ty_api_Recipient rfl rfl) rfl ?_
       refine rn tk 6 rfl ?_
       refine awpl_unmu 2002 rfl (hO ?_)
       refine awpl_pub (d := 39) (F := TRecipient.pc) (l := ((clr0 b27.2 (Int.toNat b27.1) ((TRecipient.mk (([] : Str)) 0))))) rfl rfl (hO ?_)
       obtain ⟨v44, h45, hr⟩ := bind_some hr
       refine wlH tk h45 rfl rfl rfl (fun _ => rfl) rfl ?_
       refine rn tk 4 rfl ?_
       refine ie tk [.l TRecipient.pc v44] [(2, .ptr 2 0), (4, .ptr 4 0), (5, .ptr 5 0)] [(2002, .row 36 false 2 (List.map TRecipient.pc ((clr0 b27.2 (Int.toNat b27.1) ((TRecipient.mk (([] : Str)) 0)))))), (5, .cells [.i 0, .i 0]), (4, .cells [.s (([] : Str)), .l TRecipient.pc ([]), .s (([] : Str))]), (2, .cells [.s a0.From, .l TRecipient.pc a0.To, .s a0.Id])] (.inr rfl) rfl rfl rfl rfl ?_
       cases hr
       exact jump2 _ _ rfl rfl
   ·
    refine rn tk 9 rfl ?_
    refine wn tk rfl rfl rfl ?_
    refine rn tk 3 rfl ?_
    refine ac 22 hr rfl (fun c46 hr => ?_) (fun c46 hr => ?_)
    ·
     refine rn tk 3 rfl ?_
     obtain ⟨v47, h48, hr⟩ := bind_some hr
     refine cl (basic_Fault_run _ _ _ h48) rfl rfl ?_
     refine rn tk 6 rfl ?_
     cases hr
     exact kr tk (.inr rfl) rfl rfl
    ·
     refine rn tk 3 rfl ?_
     obtain ⟨v49, h50, hr⟩ := bind_some hr
     refine dr 2 [(26, .agg [.i v49.Code, .i v49.Index]), (25, .agg [.s a0.From, .l TRecipient.pc j10, .s a0.Id])] mixed (by kernel_rfl) rfl rfl (pq tk rfl (.plain rfl) (.run (.plain rfl) (opG_call (basic_None_run  v49 h50) rfl) .nil)) rfl ?_
     refine rn tk 5 rfl ?_
     cases hr
     exact kr tk (.inr rfl) rfl rfl
theorem envelope_Merge_run (a0 : List TRecipient) (r : (List TRecipient) × TFault) (hr : envelope_Merge a0 = some r) : Run Try.prog 18 [.l TRecipient.pc a0] (.tup [.l TRecipient.pc r.1, .agg [.i r.2.Code, .i r.2.Index]]) := by
 unfold envelope_Merge at hr
 refine rf (fn := Try.f18) ⟨Try.func18, rfl, by kernel_rfl⟩ rfl (fun _ => rfl) fun g0 hg => ?_
 refine rn tk 10 rfl ?_
 refine wn tk rfl rfl rfl ?_
 refine rn tk 3 rfl ?_
 refine ac 12 hr rfl (fun c1 hr => ?_) (fun c1 hr => ?_)
 ·
  refine rn tk 2 rfl ?_
  obtain ⟨v2, h3, hr⟩ := bind_some hr
  refine cl (basic_Fault_run _ _ _ h3) rfl rfl ?_
  refine rn tk 6 rfl ?_
  cases hr
  exact kr tk (.inr rfl) rfl rfl
 ·
  refine rn tk 4 rfl ?_
  refine wo (opTo_makeMap (k0 := 14) 1014 false rfl rfl rfl) rfl ?_
  refine rn tk 6 rfl ?_
  refine awpl_adoptM 1005 (d := 5) 36 2 rfl rfl rfl (hO ?_)
  refine rn tk 6 rfl ?_
  refine wn tk rfl rfl rfl ?_
  refine rn tk 4 rfl ?_
  refine al2 hr (fun s4 => [(3, .ptr 3 0), (4, .mp 1014), (5, .hs 1005 0), (15, .l TRecipient.pc a0), (16, .i ((a0.length : Int))), (17, .i s4.1)]) (fun s4 => [(1005, .row 36 true 2 (List.map TRecipient.pc s4.2.1)), (1014, .mapo false (menc keyS cI s4.2.2)), (3, .cells [.i 0, .i 0])]) (.exit 0) (fun b5 => [(3, .ptr 3 0), (5, .hs 1005 0)]) (fun b5 => [(1005, .row 36 true 2 (List.map TRecipient.pc b5)), (3, .cells [.i 0, .i 0])]) .ret (fun b6 => [(2, .l TRecipient.pc b6.1), (3, .ptr 3 0)]) (fun b6 => [(3, .cells [.i b6.2.Code, .i b6.2.Index])]) rfl rfl (fun s4 x8 hr => ?_) (fun b5 hr => ?_) (fun b6 hr => ?_)
  ·
   unfold envelope_Merge_l1 at hr
   refine rn tk 6 rfl ?_
   refine ac 18 hr rfl (fun c9 hr => ?_) (fun c9 hr => ?_)
   ·
    refine rn tk 2 rfl ?_
    refine jk (fun j10 => [(3, .ptr 3 0), (4, .mp 1014), (5, .hs 1005 0), (15, .l TRecipient.pc a0), (16, .i ((a0.length : Int))), (17, .i s4.1)]) (fun j10 => [(1005, .row 36 true 2 (List.map TRecipient.pc j10.1)), (1014, .mapo false (menc keyS cI j10.2)), (3, .cells [.i 0, .i 0])]) (fun j10 => envelope_Merge_k2 s4 j10 = some x8) ?_ ?_
    ·
     refine rn tk 4 rfl ?_
     obtain ⟨v11, h12, hr⟩ := bind_some hr
     refine wi tk h12 rfl rfl rfl rfl rfl ?_
     refine rn tk 11 rfl ?_
     obtain ⟨v13, h14, hr⟩ := bind_some hr
     refine cl (envelope_Address_run _ _ h14) rfl rfl ?_
     refine rn tk 3 rfl ?_
     refine ac 25 hr rfl (fun c15 hr => ?_) (fun c15 hr => ?_)
     ·
      refine rn tk 3 rfl ?_
      obtain ⟨v16, h17, hr⟩ := bind_some hr
      refine cl (basic_Fault_run _ _ _ h17) rfl rfl ?_
      refine rn tk 8 rfl ?_
      cases hr
      exact ato rfl rfl rfl rfl
     ·
      refine rn tk 7 rfl ?_
      obtain ⟨v18, h19, hr⟩ := bind_some hr
      refine cl (envelope_Notify_run _ _ h19) rfl rfl ?_
      refine rn tk 3 rfl ?_
      refine ac 31 hr rfl (fun c20 hr => ?_) (fun c20 hr => ?_)
      ·
       refine rn tk 3 rfl ?_
       obtain ⟨v21, h22, hr⟩ := bind_some hr
       refine cl (basic_Fault_run _ _ _ h22) rfl rfl ?_
       refine rn tk 8 rfl ?_
       cases hr
       exact ato rfl rfl rfl rfl
      ·
       refine rn tk 7 rfl ?_
       refine wq (ev_lookupOk (KK := keyS) (F := cI) (es := s4.2.2) (k := v11.Address) (z := 0) rfl rfl rfl ty_map_string_int.u ty_string.u ty_int rfl) rfl rfl rfl ?_
       refine rn tk 13 rfl ?_
       refine ac 41 hr rfl (fun c23 hr => ?_) (fun c23 hr => ?_)
       ·
        refine rn tk 1 rfl ?_
        obtain ⟨v24, h25, hr⟩ := bind_some hr
        obtain ⟨v26, h27, hr⟩ := bind_some hr
        refine dr 7 [(48, .i v11.Notify), (47, .ptr 7 1), (46, .i v26.Notify), (45, .hp 1005 (Int.toNat (((mget s4.2.2 v11.Address).getD 0))) 1), (44, .hp 1005 (Int.toNat (((mget s4.2.2 v11.Address).getD 0))) 0), (43, .i (((mget s4.2.2 v11.Address).getD 0))), (42, .hs 1005 0)] mixed (by kernel_rfl) rfl rfl (pq tk rfl (.plain rfl) (pq tk rfl (.plain rfl) (.run (.plain rfl) (opG_q (ev_hidx (F := TRecipient.pc) (l := s4.2.1) (n := (((mget s4.2.2 v11.Address).getD 0))) rfl rfl rfl ty_s_api_Recipient ty_api_Recipient h25)) (pq tk rfl (.plain rfl) (.run (.plain rfl) (opG_q (ev_hload (F := TRecipient.pc) (l := s4.2.1) (n := (((mget s4.2.2 v11.Address).getD 0))) (j := 1) rfl rfl ty_int rfl h27 rfl)) (pq tk rfl (.plain rfl) (pq tk rfl (.plain rfl) .nil))))))) rfl ?_
        refine wq (ev_ior rfl rfl) rfl rfl rfl ?_
        obtain ⟨v28, h29, hr⟩ := bind_some hr
        refine wih tk h29 rfl rfl rfl rfl rfl ?_
        refine rn tk 1 rfl ?_
        obtain ⟨v30, h31, hr⟩ := bind_some hr
        refine wo (opTo_hstore (F := TRecipient.pc) (l := s4.2.1) (n := (((mget s4.2.2 v11.Address).getD 0))) (j := 1) (v := v30) (v' := ((TRecipient.mk v30.Address ((iOr v26.Notify v11.Notify))))) (pcs := [pI ((iOr v26.Notify v11.Notify))]) rfl rfl rfl ty_int rfl h31 rfl rfl) rfl ?_
        refine rn tk 5 rfl ?_
        exact jn (((List.set s4.2.1 (Int.toNat (((mget s4.2.2 v11.Address).getD 0))) ((TRecipient.mk v30.Address ((iOr v26.Notify v11.Notify))))), s4.2.2)) hr rfl rfl
       ·
        refine rn tk 8 rfl ?_
        refine wnh tk rfl rfl rfl rfl ?_
        refine wo (opTo_mapUpdate (KK := keyS) (F := cI) (es := s4.2.2) (k := v11.Address) (v := ((s4.2.1.length : Int))) rfl rfl rfl rfl rfl ty_map_string_int.u ty_string.u) rfl ?_
        refine rn tk 5 rfl ?_
        refine wz TRecipient.pc ([v11] : List TRecipient) tk rfl rfl (fun _ => rfl) rfl rfl rfl ?_
        obtain ⟨v32, h33, hr⟩ := bind_some hr
        refine wa tk h33 rfl rfl rfl rfl (fun _ => rfl) rfl rfl ?_
        refine rn tk 3 rfl ?_
        exact jn ((v32, (mput s4.2.2 v11.Address ((s4.2.1.length : Int))))) hr rfl rfl
    ·
     intro j10 hr
     unfold envelope_Merge_k2 at hr
     refine rn tk 4 rfl ?_
     cases hr
     exact atc rfl rfl
   ·
    refine rn tk 2 rfl ?_
    cases hr
    exact ato rfl rfl rfl rfl
  ·
   refine rn tk 5 rfl ?_
   obtain ⟨v34, h35, hr⟩ := bind_some hr
   refine cl (basic_None_run _ h35) rfl rfl ?_
   refine rn tk 4 rfl ?_
   refine awp_unmu 1005 rfl (hC ?_)
   refine awp_pub (d := 2) (F := TRecipient.pc) (l := b5) rfl rfl (hC ?_)
   refine rn tk 1 rfl ?_
   cases hr
   exact kr tk (.inr rfl) rfl rfl
  ·
   refine rn tk 2 rfl ?_
   cases hr
   exact kr tk (.inr rfl) rfl rfl
theorem L_envelopes_run  (r : Bool) (hr : L_envelopes = some r) : Run Try.prog 12 [] (.bo r) := by
 unfold L_envelopes at hr
 refine rf (fn := Try.f12) ⟨Try.func12, rfl, by kernel_rfl⟩ rfl (fun _ => rfl) fun g0 hg => ?_
 refine rn tk 9 rfl ?_
 refine wz TRecipient.pc ([(TRecipient.mk (([97, 64, 120] : Str)) 0), (TRecipient.mk (([98, 64, 121] : Str)) 1)] : List TRecipient) tk rfl rfl (fun _ => rfl) rfl rfl rfl ?_
 refine rn tk 8 rfl ?_
 obtain ⟨v1, h2, hr⟩ := bind_some hr
 refine cl (envelope_Domains_run _ _ h2) rfl rfl ?_
 refine rn tk 11 rfl ?_
 obtain ⟨v3, h4, hr⟩ := bind_some hr
 refine cl (envelope_For_run _ _ _ h4) rfl rfl ?_
 refine rn tk 13 rfl ?_
 refine wz TRecipient.pc ([(TRecipient.mk (([97, 64, 98] : Str)) 1), (TRecipient.mk (([97, 64, 98] : Str)) 4)] : List TRecipient) tk rfl rfl (fun _ => rfl) rfl rfl rfl ?_
 obtain ⟨v5, h6, hr⟩ := bind_some hr
 refine cl (envelope_Merge_run _ _ h6) rfl rfl ?_
 refine rn tk 8 rfl ?_
 refine jb hr (fun j7 => [(0, .bo j7)]) (fun j7 => []) (fun j7 hr => ?_) (fun j7 hr => ?_)
 ·
  refine rn tk 5 rfl ?_
  refine bs 32 hr rfl (fun c8 hr => ?_) (fun c8 hr => ?_)
  ·
   refine rn tk 5 rfl ?_
   refine bs 37 hr rfl (fun c9 hr => ?_) (fun c9 hr => ?_)
   ·
    refine rn tk 5 rfl ?_
    refine bs 42 hr rfl (fun c10 hr => ?_) (fun c10 hr => ?_)
    ·
     refine rn tk 1 rfl ?_
     refine ug rfl rfl rfl ?_
     refine wz cS ([([120] : Str), ([121] : Str)] : List Str) tk rfl rfl (fun _ => rfl) rfl rfl rfl ?_
     obtain ⟨v11, h12, hr⟩ := bind_some hr
     refine ug rfl rfl rfl ?_
     refine cl (R_Strings_run _ _ _ h12) rfl rfl ?_
     refine rn tk 2 rfl ?_
     refine bs 47 hr rfl (fun c13 hr => ?_) (fun c13 hr => ?_)
     ·
      refine rn tk 3 rfl ?_
      refine ug rfl rfl rfl ?_
      refine wz TRecipient.pc ([(TRecipient.mk (([98, 64, 121] : Str)) 1)] : List TRecipient) tk rfl rfl (fun _ => rfl) rfl rfl rfl ?_
      obtain ⟨v14, h15, hr⟩ := bind_some hr
      refine ug rfl rfl rfl ?_
      refine cl (R_SameRecipients_run _ _ _ h15) rfl rfl ?_
      refine rn tk 2 rfl ?_
      refine bs 54 hr rfl (fun c16 hr => ?_) (fun c16 hr => ?_)
      ·
       refine rn tk 2 rfl ?_
       refine ug rfl rfl rfl ?_
       refine wz TRecipient.pc ([(TRecipient.mk (([97, 64, 98] : Str)) 5)] : List TRecipient) tk rfl rfl (fun _ => rfl) rfl rfl rfl ?_
       obtain ⟨v17, h18, hr⟩ := bind_some hr
       refine ug rfl rfl rfl ?_
       refine cl (R_SameRecipients_run _ _ _ h18) rfl rfl ?_
       refine rn tk 2 rfl ?_
       refine bs 60 hr rfl (fun c19 hr => ?_) (fun c19 hr => ?_)
       ·
        refine rn tk 1 rfl ?_
        obtain ⟨v20, h21, hr⟩ := bind_some hr
        refine ug rfl rfl rfl ?_
        refine cl (envelope_Validate_run _ _ h21) rfl rfl ?_
        obtain ⟨v22, h23, hr⟩ := bind_some hr
        refine ug rfl rfl rfl ?_
        refine cl (R_At_run _ _ _ h23) rfl rfl ?_
        refine ug rfl rfl rfl ?_
        refine wq (ev_structeq rfl rfl ty_api_Fault cmp_api_Fault (.int rfl (by decide) ty_int (.int rfl (by decide) ty_int .nil))) rfl rfl rfl ?_
        refine rn tk 3 rfl ?_
        cases hr
        exact jn _ rfl rfl rfl
       ·
        refine rn tk 7 rfl ?_
        cases hr
        exact jn _ rfl rfl rfl
      ·
       refine rn tk 13 rfl ?_
       cases hr
       exact jn _ rfl rfl rfl
     ·
      refine rn tk 20 rfl ?_
      cases hr
      exact jn _ rfl rfl rfl
    ·
     refine rn tk 25 rfl ?_
     cases hr
     exact jn _ rfl rfl rfl
   ·
    refine rn tk 30 rfl ?_
    cases hr
    exact jn _ rfl rfl rfl
  ·
   refine rn tk 35 rfl ?_
   cases hr
   exact jn _ rfl rfl rfl
 ·
  refine rn tk 1 rfl ?_
  cases hr
  exact kr tk (.inr rfl) rfl rfl
theorem R_In_run (a0 : Int) (a1 : Int) (a2 : Int) (r : Bool) (hr : R_In a0 a1 a2 = some r) : Run Try.prog 20 [.i a0, .i a1, .i a2] (.bo r) := by
 unfold R_In at hr
 refine rf (fn := Try.f20) ⟨Try.func20, rfl, by kernel_rfl⟩ rfl (fun _ => rfl) fun g0 hg => ?_
 refine rn tk 5 rfl ?_
 refine jb hr (fun j1 => [(6, .bo j1)]) (fun j1 => []) (fun j1 hr => ?_) (fun j1 hr => ?_)
 ·
  refine rn tk 5 rfl ?_
  refine bs 10 hr rfl (fun c2 hr => ?_) (fun c2 hr => ?_)
  ·
   refine rn tk 6 rfl ?_
   cases hr
   exact jn _ rfl rfl rfl
  ·
   refine rn tk 6 rfl ?_
   cases hr
   exact jn _ rfl rfl rfl
 ·
  refine rn tk 1 rfl ?_
  cases hr
  exact kr tk (.inr rfl) rfl rfl
theorem R_DomainOk_run (a0 : Str) (r : Bool) (hr : R_DomainOk a0 = some r) : Run Try.prog 44 [.s a0] (.bo r) := by
 unfold R_DomainOk at hr
 refine rf (fn := Try.f44) ⟨Try.func44, rfl, by kernel_rfl⟩ rfl (fun _ => rfl) fun g0 hg => ?_
 refine rn tk 12 rfl ?_
 refine al2 hr (fun s1 => [(0, .s a0), (3, .i s1)]) (fun s1 => []) (.exit 0) (fun b2 => [(0, .s a0)]) (fun b2 => []) .ret (fun b3 => [(2, .bo b3)]) (fun b3 => []) rfl rfl (fun s1 x5 hr => ?_) (fun b2 hr => ?_) (fun b3 hr => ?_)
 ·
  unfold R_DomainOk_l1 at hr
  refine rn tk 9 rfl ?_
  refine ac 8 hr rfl (fun c6 hr => ?_) (fun c6 hr => ?_)
  ·
   refine rn tk 8 rfl ?_
   obtain ⟨v7, h8, hr⟩ := bind_some hr
   refine ws tk h8 rfl rfl rfl rfl ?_
   refine wu tk rfl rfl rfl ?_
   refine rn tk 4 rfl ?_
   refine jb hr (fun j9 => [(0, .s a0), (3, .i s1), (4, .i ((v7.toNat : Int))), (36, .bo j9)]) (fun j9 => []) (fun j9 hr => ?_) (fun j9 hr => ?_)
   ·
    refine rn tk 3 rfl ?_
    obtain ⟨v10, h11, hr⟩ := bind_some hr
    refine ws tk h11 rfl rfl rfl rfl ?_
    refine rn tk 2 rfl ?_
    refine bs 19 hr rfl (fun c12 hr => ?_) (fun c12 hr => ?_)
    ·
     refine rn tk 3 rfl ?_
     refine bs 22 hr rfl (fun c13 hr => ?_) (fun c13 hr => ?_)
     ·
      refine rn tk 15 rfl ?_
      cases hr
      exact jn _ rfl rfl rfl
     ·
      refine rn tk 7 rfl ?_
      refine bs 29 hr rfl (fun c14 hr => ?_) (fun c14 hr => ?_)
      ·
       refine rn tk 8 rfl ?_
       cases hr
       exact jn _ rfl rfl rfl
      ·
       refine rn tk 3 rfl ?_
       obtain ⟨v15, h16, hr⟩ := bind_some hr
       refine ug rfl rfl rfl ?_
       refine ws tk h16 rfl rfl rfl rfl ?_
       refine rn tk 4 rfl ?_
       cases hr
       exact jn _ rfl rfl rfl
    ·
     refine rn tk 18 rfl ?_
     cases hr
     exact jn _ rfl rfl rfl
   ·
    refine ac 36 hr rfl (fun c17 hr => ?_) (fun c17 hr => ?_)
    ·
     refine rn tk 9 rfl ?_
     cases hr
     exact ato rfl rfl rfl rfl
    ·
     refine rn tk 2 rfl ?_
     refine jb hr (fun j18 => [(0, .s a0), (3, .i s1), (56, .bo j18)]) (fun j18 => []) (fun j18 hr => ?_) (fun j18 hr => ?_)
     ·
      refine rn tk 2 rfl ?_
      obtain ⟨v19, h20, hr⟩ := bind_some hr
      refine cl (R_In_run _ _ _ _ h20) rfl rfl ?_
      refine rn tk 2 rfl ?_
      refine bs 40 hr rfl (fun c21 hr => ?_) (fun c21 hr => ?_)
      ·
       refine rn tk 1 rfl ?_
       obtain ⟨v22, h23, hr⟩ := bind_some hr
       refine ug rfl rfl rfl ?_
       refine cl (R_In_run _ _ _ _ h23) rfl rfl ?_
       refine rn tk 3 rfl ?_
       refine bs 45 hr rfl (fun c24 hr => ?_) (fun c24 hr => ?_)
       ·
        refine rn tk 2 rfl ?_
        obtain ⟨v25, h26, hr⟩ := bind_some hr
        refine ug rfl rfl rfl ?_
        refine ws tk h26 rfl rfl rfl rfl ?_
        refine rn tk 3 rfl ?_
        refine bs 51 hr rfl (fun c27 hr => ?_) (fun c27 hr => ?_)
        ·
         refine rn tk 2 rfl ?_
         obtain ⟨v28, h29, hr⟩ := bind_some hr
         refine ug rfl rfl rfl ?_
         refine ws tk h29 rfl rfl rfl rfl ?_
         refine rn tk 3 rfl ?_
         cases hr
         exact jn _ rfl rfl rfl
        ·
         refine rn tk 6 rfl ?_
         cases hr
         exact jn _ rfl rfl rfl
       ·
        refine rn tk 12 rfl ?_
        cases hr
        exact jn _ rfl rfl rfl
      ·
       refine rn tk 17 rfl ?_
       cases hr
       exact jn _ rfl rfl rfl
     ·
      refine ac 56 hr rfl (fun c30 hr => ?_) (fun c30 hr => ?_)
      ·
       refine rn tk 8 rfl ?_
       cases hr
       exact ato rfl rfl rfl rfl
      ·
       refine rn tk 8 rfl ?_
       cases hr
       exact atc rfl rfl
  ·
   refine rn tk 2 rfl ?_
   cases hr
   exact ato rfl rfl rfl rfl
 ·
  refine rn tk 6 rfl ?_
  obtain ⟨v31, h32, hr⟩ := bind_some hr
  refine cl (R_In_run _ _ _ _ h32) rfl rfl ?_
  refine rn tk 4 rfl ?_
  cases hr
  exact kr tk (.inr rfl) rfl rfl
 ·
  refine rn tk 2 rfl ?_
  cases hr
  exact kr tk (.inr rfl) rfl rfl
theorem R_letterOrDigit_run (a0 : UInt8) (r : Bool) (hr : R_letterOrDigit a0 = some r) : Run Try.prog 43 [.u8 a0] (.bo r) := by
 unfold R_letterOrDigit at hr
 refine rf (fn := Try.f43) ⟨Try.func43, rfl, by kernel_rfl⟩ rfl (fun _ => rfl) fun g0 hg => ?_
 refine rn tk 8 rfl ?_
 refine wu tk rfl rfl rfl ?_
 refine rn tk 3 rfl ?_
 refine jb hr (fun j1 => [(2, .bo j1)]) (fun j1 => []) (fun j1 hr => ?_) (fun j1 hr => ?_)
 ·
  refine rn tk 2 rfl ?_
  obtain ⟨v2, h3, hr⟩ := bind_some hr
  refine cl (R_In_run _ _ _ _ h3) rfl rfl ?_
  refine rn tk 1 rfl ?_
  refine bs 8 hr rfl (fun c4 hr => ?_) (fun c4 hr => ?_)
  ·
   refine rn tk 9 rfl ?_
   cases hr
   exact jn _ rfl rfl rfl
  ·
   refine rn tk 1 rfl ?_
   obtain ⟨v5, h6, hr⟩ := bind_some hr
   refine ug rfl rfl rfl ?_
   refine cl (R_In_run _ _ _ _ h6) rfl rfl ?_
   refine rn tk 2 rfl ?_
   refine bs 12 hr rfl (fun c7 hr => ?_) (fun c7 hr => ?_)
   ·
    refine rn tk 5 rfl ?_
    cases hr
    exact jn _ rfl rfl rfl
   ·
    refine rn tk 1 rfl ?_
    obtain ⟨v8, h9, hr⟩ := bind_some hr
    refine ug rfl rfl rfl ?_
    refine cl (R_In_run _ _ _ _ h9) rfl rfl ?_
    refine rn tk 3 rfl ?_
    cases hr
    exact jn _ rfl rfl rfl
 ·
  refine rn tk 1 rfl ?_
  cases hr
  exact kr tk (.inr rfl) rfl rfl
theorem R_sign_run (a0 : Str) (r : Int) (hr : R_sign a0 = some r) : Run Try.prog 40 [.s a0] (.i r) := by
 unfold R_sign at hr
 refine rf (fn := Try.f40) ⟨Try.func40, rfl, by kernel_rfl⟩ rfl (fun _ => rfl) fun g0 hg => ?_
 refine rn tk 12 rfl ?_
 refine al2 hr (fun s1 => [(0, .s a0), (3, .i s1)]) (fun s1 => []) (.exit 0) (fun b2 => [(0, .s a0)]) (fun b2 => []) .ret (fun b3 => [(2, .i b3)]) (fun b3 => []) rfl rfl (fun s1 x5 hr => ?_) (fun b2 hr => ?_) (fun b3 hr => ?_)
 ·
  unfold R_sign_l1 at hr
  refine rn tk 9 rfl ?_
  refine ac 7 hr rfl (fun c6 hr => ?_) (fun c6 hr => ?_)
  ·
   refine rn tk 8 rfl ?_
   obtain ⟨v7, h8, hr⟩ := bind_some hr
   refine ws tk h8 rfl rfl rfl rfl ?_
   refine rn tk 3 rfl ?_
   refine ac 13 hr rfl (fun c9 hr => ?_) (fun c9 hr => ?_)
   ·
    refine rn tk 9 rfl ?_
    cases hr
    exact ato rfl rfl rfl rfl
   ·
    refine rn tk 8 rfl ?_
    cases hr
    exact atc rfl rfl
  ·
   refine rn tk 2 rfl ?_
   cases hr
   exact ato rfl rfl rfl rfl
 ·
  refine rn tk 10 rfl ?_
  cases hr
  exact kr tk (.inr rfl) rfl rfl
 ·
  refine rn tk 2 rfl ?_
  cases hr
  exact kr tk (.inr rfl) rfl rfl
theorem R_AddressOk_run (a0 : Str) (r : Bool) (hr : R_AddressOk a0 = some r) : Run Try.prog 19 [.s a0] (.bo r) := by
 unfold R_AddressOk at hr
 refine rf (fn := Try.f19) ⟨Try.func19, rfl, by kernel_rfl⟩ rfl (fun _ => rfl) fun g0 hg => ?_
 refine rn tk 8 rfl ?_
 obtain ⟨v1, h2, hr⟩ := bind_some hr
 refine cl (R_sign_run _ _ h2) rfl rfl ?_
 refine rn tk 10 rfl ?_
 refine al2 hr (fun s3 => [(0, .s a0), (3, .i v1), (4, .i s3)]) (fun s3 => []) (.exit 0) (fun b4 => [(0, .s a0), (3, .i v1)]) (fun b4 => []) .ret (fun b5 => [(2, .bo b5)]) (fun b5 => []) rfl rfl (fun s3 x7 hr => ?_) (fun b4 hr => ?_) (fun b5 hr => ?_)
 ·
  unfold R_AddressOk_l1 at hr
  refine rn tk 8 rfl ?_
  refine ac 10 hr rfl (fun c8 hr => ?_) (fun c8 hr => ?_)
  ·
   refine rn tk 8 rfl ?_
   obtain ⟨v9, h10, hr⟩ := bind_some hr
   refine ws tk h10 rfl rfl rfl rfl ?_
   refine rn tk 3 rfl ?_
   refine jb hr (fun j11 => [(0, .s a0), (3, .i v1), (4, .i s3), (38, .bo j11)]) (fun j11 => []) (fun j11 hr => ?_) (fun j11 hr => ?_)
   ·
    refine rn tk 2 rfl ?_
    obtain ⟨v12, h13, hr⟩ := bind_some hr
    refine cl (R_letterOrDigit_run _ _ h13) rfl rfl ?_
    refine rn tk 2 rfl ?_
    refine bs 19 hr rfl (fun c14 hr => ?_) (fun c14 hr => ?_)
    ·
     refine rn tk 4 rfl ?_
     refine bs 23 hr rfl (fun c15 hr => ?_) (fun c15 hr => ?_)
     ·
      refine rn tk 4 rfl ?_
      refine bs 27 hr rfl (fun c16 hr => ?_) (fun c16 hr => ?_)
      ·
       refine rn tk 4 rfl ?_
       refine bs 31 hr rfl (fun c17 hr => ?_) (fun c17 hr => ?_)
       ·
        refine rn tk 4 rfl ?_
        refine bs 35 hr rfl (fun c18 hr => ?_) (fun c18 hr => ?_)
        ·
         refine rn tk 4 rfl ?_
         cases hr
         exact jn _ rfl rfl rfl
        ·
         refine rn tk 4 rfl ?_
         cases hr
         exact jn _ rfl rfl rfl
       ·
        refine rn tk 8 rfl ?_
        cases hr
        exact jn _ rfl rfl rfl
      ·
       refine rn tk 12 rfl ?_
       cases hr
       exact jn _ rfl rfl rfl
     ·
      refine rn tk 16 rfl ?_
      cases hr
      exact jn _ rfl rfl rfl
    ·
     refine rn tk 20 rfl ?_
     cases hr
     exact jn _ rfl rfl rfl
   ·
    refine ac 38 hr rfl (fun c19 hr => ?_) (fun c19 hr => ?_)
    ·
     refine rn tk 8 rfl ?_
     cases hr
     exact ato rfl rfl rfl rfl
    ·
     refine rn tk 8 rfl ?_
     cases hr
     exact atc rfl rfl
  ·
   refine rn tk 2 rfl ?_
   cases hr
   exact ato rfl rfl rfl rfl
 ·
  refine rn tk 2 rfl ?_
  refine jb hr (fun j20 => [(2, .bo j20)]) (fun j20 => []) (fun j20 hr => ?_) (fun j20 hr => ?_)
  ·
   refine rn tk 2 rfl ?_
   obtain ⟨v21, h22, hr⟩ := bind_some hr
   refine cl (R_In_run _ _ _ _ h22) rfl rfl ?_
   refine rn tk 1 rfl ?_
   refine bs 41 hr rfl (fun c23 hr => ?_) (fun c23 hr => ?_)
   ·
    refine rn tk 6 rfl ?_
    refine bs 47 hr rfl (fun c24 hr => ?_) (fun c24 hr => ?_)
    ·
     refine rn tk 3 rfl ?_
     obtain ⟨v25, h26, hr⟩ := bind_some hr
     refine ug rfl rfl rfl ?_
     refine wscL tk h26 rfl rfl rfl rfl ?_
     obtain ⟨v27, h28, hr⟩ := bind_some hr
     refine ug rfl rfl rfl ?_
     refine cl (R_DomainOk_run _ _ h28) rfl rfl ?_
     refine rn tk 3 rfl ?_
     cases hr
     exact jn _ rfl rfl rfl
    ·
     refine rn tk 8 rfl ?_
     cases hr
     exact jn _ rfl rfl rfl
   ·
    refine rn tk 14 rfl ?_
    cases hr
    exact jn _ rfl rfl rfl
  ·
   refine rn tk 1 rfl ?_
   cases hr
   exact kr tk (.inr rfl) rfl rfl
 ·
  refine rn tk 2 rfl ?_
  cases hr
  exact kr tk (.inr rfl) rfl rfl
theorem R_Known_run (a0 : List TRecipient) (a1 : Str) (r : Int) (hr : R_Known a0 a1 = some r) : Run Try.prog 23 [.l TRecipient.pc a0, .s a1] (.i r) := by
 unfold R_Known at hr
 refine rf (fn := Try.f23) ⟨Try.func23, rfl, by kernel_rfl⟩ rfl (fun _ => rfl) fun g0 hg => ?_
 refine rn tk 12 rfl ?_
 refine al2 hr (fun s1 => [(0, .l TRecipient.pc a0), (1, .s a1), (5, .i s1)]) (fun s1 => []) (.exit 0) (fun b2 => []) (fun b2 => []) .ret (fun b3 => [(4, .i b3)]) (fun b3 => []) rfl rfl (fun s1 x5 hr => ?_) (fun b2 hr => ?_) (fun b3 hr => ?_)
 ·
  unfold R_Known_l1 at hr
  refine rn tk 5 rfl ?_
  refine wn tk rfl rfl rfl ?_
  refine rn tk 3 rfl ?_
  refine ac 9 hr rfl (fun c6 hr => ?_) (fun c6 hr => ?_)
  ·
   refine rn tk 8 rfl ?_
   obtain ⟨v7, h8, hr⟩ := bind_some hr
   refine wi tk h8 rfl rfl rfl rfl rfl ?_
   refine rn tk 6 rfl ?_
   refine ac 18 hr rfl (fun c9 hr => ?_) (fun c9 hr => ?_)
   ·
    refine rn tk 9 rfl ?_
    cases hr
    exact ato rfl rfl rfl rfl
   ·
    refine rn tk 8 rfl ?_
    cases hr
    exact atc rfl rfl
  ·
   refine rn tk 2 rfl ?_
   cases hr
   exact ato rfl rfl rfl rfl
 ·
  refine rn tk 8 rfl ?_
  cases hr
  exact kr tk (.inr rfl) rfl rfl
 ·
  refine rn tk 2 rfl ?_
  cases hr
  exact kr tk (.inr rfl) rfl rfl
theorem R_NameOk_run (a0 : Str) (r : Bool) (hr : R_NameOk a0 = some r) : Run Try.prog 31 [.s a0] (.bo r) := by
 unfold R_NameOk at hr
 refine rf (fn := Try.f31) ⟨Try.func31, rfl, by kernel_rfl⟩ rfl (fun _ => rfl) fun g0 hg => ?_
 refine rn tk 12 rfl ?_
 refine al2 hr (fun s1 => [(0, .s a0), (3, .i s1)]) (fun s1 => []) (.exit 0) (fun b2 => [(0, .s a0)]) (fun b2 => []) .ret (fun b3 => [(2, .bo b3)]) (fun b3 => []) rfl rfl (fun s1 x5 hr => ?_) (fun b2 hr => ?_) (fun b3 hr => ?_)
 ·
  unfold R_NameOk_l1 at hr
  refine rn tk 9 rfl ?_
  refine ac 7 hr rfl (fun c6 hr => ?_) (fun c6 hr => ?_)
  ·
   refine rn tk 4 rfl ?_
   refine jb hr (fun j7 => [(0, .s a0), (3, .i s1), (32, .bo j7)]) (fun j7 => []) (fun j7 hr => ?_) (fun j7 hr => ?_)
   ·
    refine rn tk 3 rfl ?_
    obtain ⟨v8, h9, hr⟩ := bind_some hr
    refine ws tk h9 rfl rfl rfl rfl ?_
    obtain ⟨v10, h11, hr⟩ := bind_some hr
    refine cl (R_letterOrDigit_run _ _ h11) rfl rfl ?_
    refine rn tk 2 rfl ?_
    refine bs 15 hr rfl (fun c12 hr => ?_) (fun c12 hr => ?_)
    ·
     refine rn tk 2 rfl ?_
     obtain ⟨v13, h14, hr⟩ := bind_some hr
     refine ug rfl rfl rfl ?_
     refine ws tk h14 rfl rfl rfl rfl ?_
     refine rn tk 3 rfl ?_
     refine bs 21 hr rfl (fun c15 hr => ?_) (fun c15 hr => ?_)
     ·
      refine rn tk 2 rfl ?_
      obtain ⟨v16, h17, hr⟩ := bind_some hr
      refine ug rfl rfl rfl ?_
      refine ws tk h17 rfl rfl rfl rfl ?_
      refine rn tk 3 rfl ?_
      refine bs 27 hr rfl (fun c18 hr => ?_) (fun c18 hr => ?_)
      ·
       refine rn tk 2 rfl ?_
       obtain ⟨v19, h20, hr⟩ := bind_some hr
       refine ug rfl rfl rfl ?_
       refine ws tk h20 rfl rfl rfl rfl ?_
       refine rn tk 3 rfl ?_
       cases hr
       exact jn _ rfl rfl rfl
      ·
       refine rn tk 6 rfl ?_
       cases hr
       exact jn _ rfl rfl rfl
     ·
      refine rn tk 12 rfl ?_
      cases hr
      exact jn _ rfl rfl rfl
    ·
     refine rn tk 18 rfl ?_
     cases hr
     exact jn _ rfl rfl rfl
   ·
    refine ac 32 hr rfl (fun c21 hr => ?_) (fun c21 hr => ?_)
    ·
     refine rn tk 8 rfl ?_
     cases hr
     exact ato rfl rfl rfl rfl
    ·
     refine rn tk 8 rfl ?_
     cases hr
     exact atc rfl rfl
  ·
   refine rn tk 2 rfl ?_
   cases hr
   exact ato rfl rfl rfl rfl
 ·
  refine rn tk 6 rfl ?_
  obtain ⟨v22, h23, hr⟩ := bind_some hr
  refine cl (R_In_run _ _ _ _ h23) rfl rfl ?_
  refine rn tk 4 rfl ?_
  cases hr
  exact kr tk (.inr rfl) rfl rfl
 ·
  refine rn tk 2 rfl ?_
  cases hr
  exact kr tk (.inr rfl) rfl rfl
theorem R_EnvelopeFault_run (a0 : TEnvelope) (r : TFault) (hr : R_EnvelopeFault a0 = some r) : Run Try.prog 9 [.agg [.s a0.From, .l TRecipient.pc a0.To, .s a0.Id]] (.agg [.i r.Code, .i r.Index]) := by
 unfold R_EnvelopeFault at hr
 refine rf (fn := Try.f9) ⟨Try.func9, rfl, by kernel_rfl⟩ rfl (fun _ => rfl) fun g0 hg => ?_
 refine rn tk 7 rfl ?_
 refine jb hr (fun j1 => [(1, .ptr 1 0), (2, .ptr 2 0), (12, .bo j1)]) (fun j1 => [(2, .cells [.i 0, .i 0]), (1, .cells [.s a0.From, .l TRecipient.pc a0.To, .s a0.Id])]) (fun j1 hr => ?_) (fun j1 hr => ?_)
 ·
  refine rn tk 5 rfl ?_
  refine bs 7 hr rfl (fun c2 hr => ?_) (fun c2 hr => ?_)
  ·
   refine rn tk 2 rfl ?_
   obtain ⟨v3, h4, hr⟩ := bind_some hr
   refine ug rfl rfl rfl ?_
   refine cl (R_AddressOk_run _ _ h4) rfl rfl ?_
   refine rn tk 3 rfl ?_
   cases hr
   exact jn _ rfl rfl rfl
  ·
   refine rn tk 6 rfl ?_
   cases hr
   exact jn _ rfl rfl rfl
 ·
  refine ac 12 hr rfl (fun c5 hr => ?_) (fun c5 hr => ?_)
  ·
   refine rn tk 2 rfl ?_
   obtain ⟨v6, h7, hr⟩ := bind_some hr
   refine cl (R_At_run _ _ _ h7) rfl rfl ?_
   refine rn tk 5 rfl ?_
   cases hr
   exact kr tk (.inr rfl) rfl rfl
  ·
   refine rn tk 7 rfl ?_
   refine wn tk rfl rfl rfl ?_
   obtain ⟨v8, h9, hr⟩ := bind_some hr
   refine cl (R_In_run _ _ _ _ h9) rfl rfl ?_
   refine rn tk 3 rfl ?_
   refine ac 18 hr rfl (fun c10 hr => ?_) (fun c10 hr => ?_)
   ·
    refine rn tk 2 rfl ?_
    obtain ⟨v11, h12, hr⟩ := bind_some hr
    refine cl (R_At_run _ _ _ h12) rfl rfl ?_
    refine rn tk 5 rfl ?_
    cases hr
    exact kr tk (.inr rfl) rfl rfl
   ·
    refine rn tk 3 rfl ?_
    refine jb hr (fun j13 => [(1, .ptr 1 0), (2, .ptr 2 0), (28, .bo j13)]) (fun j13 => [(2, .cells [.i 0, .i 0]), (1, .cells [.s a0.From, .l TRecipient.pc a0.To, .s a0.Id])]) (fun j13 hr => ?_) (fun j13 hr => ?_)
    ·
     refine rn tk 5 rfl ?_
     refine bs 23 hr rfl (fun c14 hr => ?_) (fun c14 hr => ?_)
     ·
      refine rn tk 2 rfl ?_
      obtain ⟨v15, h16, hr⟩ := bind_some hr
      refine ug rfl rfl rfl ?_
      refine cl (R_NameOk_run _ _ h16) rfl rfl ?_
      refine rn tk 3 rfl ?_
      cases hr
      exact jn _ rfl rfl rfl
     ·
      refine rn tk 6 rfl ?_
      cases hr
      exact jn _ rfl rfl rfl
    ·
     refine ac 28 hr rfl (fun c17 hr => ?_) (fun c17 hr => ?_)
     ·
      refine rn tk 2 rfl ?_
      obtain ⟨v18, h19, hr⟩ := bind_some hr
      refine cl (R_At_run _ _ _ h19) rfl rfl ?_
      refine rn tk 5 rfl ?_
      cases hr
      exact kr tk (.inr rfl) rfl rfl
     ·
      refine rn tk 9 rfl ?_
      refine al2 hr (fun s20 => [(1, .ptr 1 0), (2, .ptr 2 0), (3, .i s20)]) (fun s20 => [(2, .cells [.i 0, .i 0]), (1, .cells [.s a0.From, .l TRecipient.pc a0.To, .s a0.Id])]) (.exit 0) (fun b21 => [(2, .ptr 2 0)]) (fun b21 => [(2, .cells [.i 0, .i 0])]) .ret (fun b22 => [(2, .ptr 2 0)]) (fun b22 => [(2, .cells [.i b22.Code, .i b22.Index])]) rfl rfl (fun s20 x24 hr => ?_) (fun b21 hr => ?_) (fun b22 hr => ?_)
      ·
       unfold R_EnvelopeFault_l1 at hr
       refine rn tk 6 rfl ?_
       refine wn tk rfl rfl rfl ?_
       refine rn tk 3 rfl ?_
       refine ac 34 hr rfl (fun c25 hr => ?_) (fun c25 hr => ?_)
       ·
        refine rn tk 10 rfl ?_
        obtain ⟨v26, h27, hr⟩ := bind_some hr
        refine wi tk h27 rfl rfl rfl rfl rfl ?_
        refine rn tk 2 rfl ?_
        obtain ⟨v28, h29, hr⟩ := bind_some hr
        refine cl (R_AddressOk_run _ _ h29) rfl rfl ?_
        refine rn tk 3 rfl ?_
        refine ac 44 hr rfl (fun c30 hr => ?_) (fun c30 hr => ?_)
        ·
         refine rn tk 3 rfl ?_
         obtain ⟨v31, h32, hr⟩ := bind_some hr
         refine cl (R_At_run _ _ _ h32) rfl rfl ?_
         refine rn tk 7 rfl ?_
         cases hr
         exact ato rfl rfl rfl rfl
        ·
         refine rn tk 8 rfl ?_
         obtain ⟨v33, h34, hr⟩ := bind_some hr
         refine wi tk h34 rfl rfl rfl rfl rfl ?_
         refine rn tk 2 rfl ?_
         obtain ⟨v35, h36, hr⟩ := bind_some hr
         refine cl (R_In_run _ _ _ _ h36) rfl rfl ?_
         refine rn tk 3 rfl ?_
         refine ac 54 hr rfl (fun c37 hr => ?_) (fun c37 hr => ?_)
         ·
          refine rn tk 3 rfl ?_
          obtain ⟨v38, h39, hr⟩ := bind_some hr
          refine cl (R_At_run _ _ _ h39) rfl rfl ?_
          refine rn tk 7 rfl ?_
          cases hr
          exact ato rfl rfl rfl rfl
         ·
          refine rn tk 3 rfl ?_
          obtain ⟨v40, h41, hr⟩ := bind_some hr
          obtain ⟨v42, h43, hr⟩ := bind_some hr
          refine dr 10 [(66, .s v42.Address), (65, .ep [pS v42.Address, pI v42.Notify]), (64, .ep [pS v42.Address, pI v42.Notify]), (63, .i s20), (62, .l TRecipient.pc a0.To), (61, .ptr 1 1), (60, .l TRecipient.pc v40), (59, .i s20), (58, .l TRecipient.pc a0.To), (57, .ptr 1 1)] mixed (by kernel_rfl) rfl rfl (pq tk rfl (.plain rfl) (pq tk rfl (.plain rfl) (pq tk rfl (.plain rfl) (.run (.plain rfl) (opG_q (ev_cutH (F := TRecipient.pc) rfl rfl ty_s_api_Recipient ty_api_Recipient (fun _ => rfl) h41)) (pq tk rfl (.plain rfl) (pq tk rfl (.plain rfl) (pq tk rfl (.plain rfl) (.run (.plain rfl) (opG_q (ev_idx (f := TRecipient.pc) rfl rfl ty_s_api_Recipient ty_api_Recipient rfl h43)) (pq tk rfl (.plain rfl) (pq tk rfl (.plain rfl) .nil)))))))))) rfl ?_
          obtain ⟨v44, h45, hr⟩ := bind_some hr
          refine cl (R_Known_run _ _ _ h45) rfl rfl ?_
          refine rn tk 3 rfl ?_
          refine ac 68 hr rfl (fun c46 hr => ?_) (fun c46 hr => ?_)
          ·
           refine rn tk 3 rfl ?_
           obtain ⟨v47, h48, hr⟩ := bind_some hr
           refine cl (R_At_run _ _ _ h48) rfl rfl ?_
           refine rn tk 6 rfl ?_
           cases hr
           exact ato rfl rfl rfl rfl
          ·
           refine rn tk 8 rfl ?_
           cases hr
           exact atc rfl rfl
       ·
        refine rn tk 2 rfl ?_
        cases hr
        exact ato rfl rfl rfl rfl
      ·
       refine rn tk 9 rfl ?_
       cases hr
       exact kr tk (.inr rfl) rfl rfl
      ·
       refine rn tk 2 rfl ?_
       cases hr
       exact kr tk (.inr rfl) rfl rfl
theorem R_blank_run (a0 : UInt8) (r : Bool) (hr : R_blank a0 = some r) : Run Try.prog 90 [.u8 a0] (.bo r) := by
 unfold R_blank at hr
 refine rf (fn := Try.f90) ⟨Try.func90, rfl, by kernel_rfl⟩ rfl (fun _ => rfl) fun g0 hg => ?_
 refine rn tk 5 rfl ?_
 refine jb hr (fun j1 => [(2, .bo j1)]) (fun j1 => []) (fun j1 hr => ?_) (fun j1 hr => ?_)
 ·
  refine rn tk 4 rfl ?_
  refine bs 5 hr rfl (fun c2 hr => ?_) (fun c2 hr => ?_)
  ·
   refine rn tk 5 rfl ?_
   cases hr
   exact jn _ rfl rfl rfl
  ·
   refine rn tk 5 rfl ?_
   cases hr
   exact jn _ rfl rfl rfl
 ·
  refine rn tk 1 rfl ?_
  cases hr
  exact kr tk (.inr rfl) rfl rfl
theorem R_FieldLines_run (a0 : Str) (a1 : Str) (r : List Str) (hr : R_FieldLines a0 a1 = some r) : Run Try.prog 91 [.s a0, .s a1] (.l cS r) := by
 unfold R_FieldLines at hr
 refine rf (fn := Try.f91) ⟨Try.func91, rfl, by kernel_rfl⟩ rfl (fun _ => rfl) fun g0 hg => ?_
 refine rn tk 8 rfl ?_
 obtain ⟨v1, h2, hr⟩ := bind_some hr
 refine wc h2 rfl rfl rfl ?_
 refine rn tk 1 rfl ?_
 obtain ⟨v3, h4, hr⟩ := bind_some hr
 refine wc h4 rfl rfl rfl ?_
 refine rn tk 14 rfl ?_
 refine awpl_adopt 1007 (d := 7) 9 1 rfl rfl rfl (hO ?_)
 refine rn tk 4 rfl ?_
 refine al1 hr (fun s5 => [(5, .s s5.1), (6, .i s5.2.1), (7, .hs 1007 0)]) (fun s5 => [(1007, .row 9 false 1 (List.map cS s5.2.2))]) (.exit 0) (fun b6 => [(5, .s b6.1), (7, .hs 1007 0)]) (fun b6 => [(1007, .row 9 false 1 (List.map cS b6.2))]) rfl rfl (fun s5 x7 hr => ?_) (fun b6 hr => ?_)
 ·
  unfold R_FieldLines_l1 at hr
  refine rn tk 8 rfl ?_
  refine ac 20 hr rfl (fun c8 hr => ?_) (fun c8 hr => ?_)
  ·
   refine rn tk 15 rfl ?_
   refine al1 hr (fun s9 => [(5, .s s5.1), (6, .i s5.2.1), (7, .hs 1007 0), (8, .i s9.1), (9, .i s9.2)]) (fun s9 => [(1007, .row 9 false 1 (List.map cS s5.2.2))]) (.exit 2) (fun b10 => [(5, .s s5.1), (6, .i s5.2.1), (7, .hs 1007 0), (8, .i b10)]) (fun b10 => [(1007, .row 9 false 1 (List.map cS s5.2.2))]) rfl rfl (fun s9 x11 hr => ?_) (fun b10 hr => ?_)
   ·
    unfold R_FieldLines_l2 at hr
    refine rn tk 1 rfl ?_
    refine jb hr (fun j12 => [(5, .s s5.1), (6, .i s5.2.1), (7, .hs 1007 0), (8, .i s9.1), (9, .i s9.2), (26, .bo j12)]) (fun j12 => [(1007, .row 9 false 1 (List.map cS s5.2.2))]) (fun j12 hr => ?_) (fun j12 hr => ?_)
    ·
     refine rn tk 4 rfl ?_
     refine bs 23 hr rfl (fun c13 hr => ?_) (fun c13 hr => ?_)
     ·
      refine rn tk 4 rfl ?_
      cases hr
      exact jn _ rfl rfl rfl
     ·
      refine rn tk 4 rfl ?_
      cases hr
      exact jn _ rfl rfl rfl
    ·
     refine ac 26 hr rfl (fun c14 hr => ?_) (fun c14 hr => ?_)
     ·
      refine rn tk 2 rfl ?_
      refine jb hr (fun j15 => [(5, .s s5.1), (6, .i s5.2.1), (7, .hs 1007 0), (8, .i j15), (9, .i s9.2)]) (fun j15 => [(1007, .row 9 false 1 (List.map cS s5.2.2))]) (fun j15 hr => ?_) (fun j15 hr => ?_)
      ·
       refine rn tk 1 rfl ?_
       refine jb hr (fun j16 => [(5, .s s5.1), (6, .i s5.2.1), (7, .hs 1007 0), (8, .i s9.1), (9, .i s9.2), (45, .bo j16)]) (fun j16 => [(1007, .row 9 false 1 (List.map cS s5.2.2))]) (fun j16 hr => ?_) (fun j16 hr => ?_)
       ·
        refine rn tk 5 rfl ?_
        refine bs 32 hr rfl (fun c17 hr => ?_) (fun c17 hr => ?_)
        ·
         refine rn tk 2 rfl ?_
         obtain ⟨v18, h19, hr⟩ := bind_some hr
         refine ug rfl rfl rfl ?_
         refine ws tk h19 rfl rfl rfl rfl ?_
         obtain ⟨v20, h21, hr⟩ := bind_some hr
         refine ug rfl rfl rfl ?_
         refine cl (R_blank_run _ _ h21) rfl rfl ?_
         refine rn tk 2 rfl ?_
         refine bs 38 hr rfl (fun c22 hr => ?_) (fun c22 hr => ?_)
         ·
          refine rn tk 3 rfl ?_
          obtain ⟨v23, h24, hr⟩ := bind_some hr
          refine ug rfl rfl rfl ?_
          refine ws tk h24 rfl rfl rfl rfl ?_
          obtain ⟨v25, h26, hr⟩ := bind_some hr
          refine ug rfl rfl rfl ?_
          refine cl (R_blank_run _ _ h26) rfl rfl ?_
          refine rn tk 3 rfl ?_
          cases hr
          exact jn _ rfl rfl rfl
         ·
          refine rn tk 8 rfl ?_
          cases hr
          exact jn _ rfl rfl rfl
        ·
         refine rn tk 14 rfl ?_
         cases hr
         exact jn _ rfl rfl rfl
       ·
        refine ac 45 hr rfl (fun c27 hr => ?_) (fun c27 hr => ?_)
        ·
         refine rn tk 5 rfl ?_
         cases hr
         exact jn _ rfl rfl rfl
        ·
         refine rn tk 2 rfl ?_
         cases hr
         exact jn _ rfl rfl rfl
      ·
       refine rn tk 5 rfl ?_
       cases hr
       exact atc rfl rfl
     ·
      refine rn tk 2 rfl ?_
      cases hr
      exact ato rfl rfl rfl rfl
   ·
    refine rn tk 9 rfl ?_
    refine al1 hr (fun s28 => [(5, .s s5.1), (6, .i s5.2.1), (7, .hs 1007 0), (8, .i s28.1), (10, .i s28.2)]) (fun s28 => [(1007, .row 9 false 1 (List.map cS s5.2.2))]) (.exit 4) (fun b29 => [(5, .s s5.1), (7, .hs 1007 0), (8, .i b29)]) (fun b29 => [(1007, .row 9 false 1 (List.map cS s5.2.2))]) rfl rfl (fun s28 x30 hr => ?_) (fun b29 hr => ?_)
    ·
     unfold R_FieldLines_l3 at hr
     refine rn tk 1 rfl ?_
     refine jb hr (fun j31 => [(5, .s s5.1), (6, .i s5.2.1), (7, .hs 1007 0), (8, .i s28.1), (10, .i s28.2), (54, .bo j31)]) (fun j31 => [(1007, .row 9 false 1 (List.map cS s5.2.2))]) (fun j31 hr => ?_) (fun j31 hr => ?_)
     ·
      refine rn tk 6 rfl ?_
      refine bs 51 hr rfl (fun c32 hr => ?_) (fun c32 hr => ?_)
      ·
       refine rn tk 4 rfl ?_
       cases hr
       exact jn _ rfl rfl rfl
      ·
       refine rn tk 4 rfl ?_
       cases hr
       exact jn _ rfl rfl rfl
     ·
      refine ac 54 hr rfl (fun c33 hr => ?_) (fun c33 hr => ?_)
      ·
       refine rn tk 2 rfl ?_
       refine jb hr (fun j34 => [(5, .s s5.1), (6, .i s5.2.1), (7, .hs 1007 0), (8, .i j34), (10, .i s28.2)]) (fun j34 => [(1007, .row 9 false 1 (List.map cS s5.2.2))]) (fun j34 hr => ?_) (fun j34 hr => ?_)
       ·
        refine rn tk 1 rfl ?_
        refine jb hr (fun j35 => [(5, .s s5.1), (6, .i s5.2.1), (7, .hs 1007 0), (8, .i s28.1), (10, .i s28.2), (73, .bo j35)]) (fun j35 => [(1007, .row 9 false 1 (List.map cS s5.2.2))]) (fun j35 hr => ?_) (fun j35 hr => ?_)
        ·
         refine rn tk 5 rfl ?_
         refine bs 60 hr rfl (fun c36 hr => ?_) (fun c36 hr => ?_)
         ·
          refine rn tk 2 rfl ?_
          obtain ⟨v37, h38, hr⟩ := bind_some hr
          refine ug rfl rfl rfl ?_
          refine ws tk h38 rfl rfl rfl rfl ?_
          obtain ⟨v39, h40, hr⟩ := bind_some hr
          refine ug rfl rfl rfl ?_
          refine cl (R_blank_run _ _ h40) rfl rfl ?_
          refine rn tk 2 rfl ?_
          refine bs 66 hr rfl (fun c41 hr => ?_) (fun c41 hr => ?_)
          ·
           refine rn tk 3 rfl ?_
           obtain ⟨v42, h43, hr⟩ := bind_some hr
           refine ug rfl rfl rfl ?_
           refine ws tk h43 rfl rfl rfl rfl ?_
           obtain ⟨v44, h45, hr⟩ := bind_some hr
           refine ug rfl rfl rfl ?_
           refine cl (R_blank_run _ _ h45) rfl rfl ?_
           refine rn tk 3 rfl ?_
           cases hr
           exact jn _ rfl rfl rfl
          ·
           refine rn tk 8 rfl ?_
           cases hr
           exact jn _ rfl rfl rfl
         ·
          refine rn tk 14 rfl ?_
          cases hr
          exact jn _ rfl rfl rfl
        ·
         refine ac 73 hr rfl (fun c46 hr => ?_) (fun c46 hr => ?_)
         ·
          refine rn tk 5 rfl ?_
          cases hr
          exact jn _ rfl rfl rfl
         ·
          refine rn tk 2 rfl ?_
          cases hr
          exact jn _ rfl rfl rfl
       ·
        refine rn tk 5 rfl ?_
        cases hr
        exact atc rfl rfl
      ·
       refine rn tk 2 rfl ?_
       cases hr
       exact ato rfl rfl rfl rfl
    ·
     refine rn tk 9 rfl ?_
     refine ac 76 hr rfl (fun c47 hr => ?_) (fun c47 hr => ?_)
     ·
      refine rn tk 3 rfl ?_
      cases hr
      exact ato rfl rfl rfl rfl
     ·
      refine rn tk 7 rfl ?_
      obtain ⟨v48, h49, hr⟩ := bind_some hr
      refine wscH tk h49 rfl rfl rfl rfl ?_
      refine wz cS ([v48] : List Str) tk rfl rfl (fun _ => rfl) rfl rfl rfl ?_
      obtain ⟨v50, h51, hr⟩ := bind_some hr
      refine wa tk h51 rfl rfl rfl rfl (fun _ => rfl) rfl rfl ?_
      refine rn tk 7 rfl ?_
      obtain ⟨v52, h53, hr⟩ := bind_some hr
      refine wscL tk h53 rfl rfl rfl rfl ?_
      refine rn tk 7 rfl ?_
      cases hr
      exact atc rfl rfl
  ·
   refine rn tk 2 rfl ?_
   cases hr
   exact ato rfl rfl rfl rfl
 ·
  refine rn tk 6 rfl ?_
  refine wz cS ([b6.1] : List Str) tk rfl rfl (fun _ => rfl) rfl rfl rfl ?_
  obtain ⟨v54, h55, hr⟩ := bind_some hr
  refine wa tk h55 rfl rfl rfl rfl (fun _ => rfl) rfl rfl ?_
  refine rn tk 3 rfl ?_
  refine awp_pub (d := 4) (F := cS) (l := v54) rfl rfl (hC ?_)
  refine rn tk 1 rfl ?_
  cases hr
  exact kr tk (.inr rfl) rfl rfl
theorem R_FieldCode_run (a0 : TField) (r : Int) (hr : R_FieldCode a0 = some r) : Run Try.prog 70 [.agg [.s a0.Name, .s a0.Value]] (.i r) := by
 unfold R_FieldCode at hr
 refine rf (fn := Try.f70) ⟨Try.func70, rfl, by kernel_rfl⟩ rfl (fun _ => rfl) fun g0 hg => ?_
 refine rn tk 13 rfl ?_
 refine al2 hr (fun s1 => [(1, .ptr 1 0), (3, .i s1)]) (fun s1 => [(1, .cells [.s a0.Name, .s a0.Value])]) (.exit 0) (fun b2 => [(1, .ptr 1 0)]) (fun b2 => [(1, .cells [.s a0.Name, .s a0.Value])]) .ret (fun b3 => [(2, .i b3)]) (fun b3 => []) rfl rfl (fun s1 x5 hr => ?_) (fun b2 hr => ?_) (fun b3 hr => ?_)
 ·
  unfold R_FieldCode_l1 at hr
  refine rn tk 10 rfl ?_
  refine ac 12 hr rfl (fun c6 hr => ?_) (fun c6 hr => ?_)
  ·
   refine rn tk 4 rfl ?_
   refine jb hr (fun j7 => [(1, .ptr 1 0), (3, .i s1), (28, .bo j7)]) (fun j7 => [(1, .cells [.s a0.Name, .s a0.Value])]) (fun j7 hr => ?_) (fun j7 hr => ?_)
   ·
    refine rn tk 4 rfl ?_
    obtain ⟨v8, h9, hr⟩ := bind_some hr
    refine ws tk h9 rfl rfl rfl rfl ?_
    refine wu tk rfl rfl rfl ?_
    obtain ⟨v10, h11, hr⟩ := bind_some hr
    refine cl (R_In_run _ _ _ _ h11) rfl rfl ?_
    refine rn tk 2 rfl ?_
    refine bs 22 hr rfl (fun c12 hr => ?_) (fun c12 hr => ?_)
    ·
     refine rn tk 7 rfl ?_
     cases hr
     exact jn _ rfl rfl rfl
    ·
     refine rn tk 3 rfl ?_
     obtain ⟨v13, h14, hr⟩ := bind_some hr
     refine ug rfl rfl rfl ?_
     refine ws tk h14 rfl rfl rfl rfl ?_
     refine rn tk 3 rfl ?_
     cases hr
     exact jn _ rfl rfl rfl
   ·
    refine ac 28 hr rfl (fun c15 hr => ?_) (fun c15 hr => ?_)
    ·
     refine rn tk 8 rfl ?_
     cases hr
     exact ato rfl rfl rfl rfl
    ·
     refine rn tk 8 rfl ?_
     cases hr
     exact atc rfl rfl
  ·
   refine rn tk 2 rfl ?_
   cases hr
   exact ato rfl rfl rfl rfl
 ·
  refine rn tk 8 rfl ?_
  obtain ⟨v16, h17, hr⟩ := bind_some hr
  refine cl (R_In_run _ _ _ _ h17) rfl rfl ?_
  refine rn tk 3 rfl ?_
  refine ac 33 hr rfl (fun c18 hr => ?_) (fun c18 hr => ?_)
  ·
   refine rn tk 7 rfl ?_
   cases hr
   exact kr tk (.inr rfl) rfl rfl
  ·
   refine rn tk 11 rfl ?_
   refine ac 37 hr rfl (fun c19 hr => ?_) (fun c19 hr => ?_)
   ·
    refine rn tk 7 rfl ?_
    cases hr
    exact kr tk (.inr rfl) rfl rfl
   ·
    refine rn tk 17 rfl ?_
    refine al2 hr (fun s20 => [(1, .ptr 1 0), (4, .i ((a0.Value.length : Int))), (5, .i s20)]) (fun s20 => [(1, .cells [.s a0.Name, .s a0.Value])]) (.exit 2) (fun b21 => [(1, .ptr 1 0), (4, .i ((a0.Value.length : Int)))]) (fun b21 => [(1, .cells [.s a0.Name, .s a0.Value])]) .ret (fun b22 => [(2, .i b22)]) (fun b22 => []) rfl rfl (fun s20 x24 hr => ?_) (fun b21 hr => ?_) (fun b22 hr => ?_)
    ·
     unfold R_FieldCode_l2 at hr
     refine rn tk 8 rfl ?_
     refine ac 43 hr rfl (fun c25 hr => ?_) (fun c25 hr => ?_)
     ·
      refine rn tk 4 rfl ?_
      refine jb hr (fun j26 => [(1, .ptr 1 0), (4, .i ((a0.Value.length : Int))), (5, .i s20), (64, .bo j26)]) (fun j26 => [(1, .cells [.s a0.Name, .s a0.Value])]) (fun j26 hr => ?_) (fun j26 hr => ?_)
      ·
       refine rn tk 4 rfl ?_
       obtain ⟨v27, h28, hr⟩ := bind_some hr
       refine ws tk h28 rfl rfl rfl rfl ?_
       refine rn tk 2 rfl ?_
       refine bs 51 hr rfl (fun c29 hr => ?_) (fun c29 hr => ?_)
       ·
        refine rn tk 14 rfl ?_
        cases hr
        exact jn _ rfl rfl rfl
       ·
        refine rn tk 3 rfl ?_
        obtain ⟨v30, h31, hr⟩ := bind_some hr
        refine ug rfl rfl rfl ?_
        refine ws tk h31 rfl rfl rfl rfl ?_
        refine rn tk 3 rfl ?_
        refine bs 58 hr rfl (fun c32 hr => ?_) (fun c32 hr => ?_)
        ·
         refine rn tk 7 rfl ?_
         cases hr
         exact jn _ rfl rfl rfl
        ·
         refine rn tk 3 rfl ?_
         obtain ⟨v33, h34, hr⟩ := bind_some hr
         refine ug rfl rfl rfl ?_
         refine ws tk h34 rfl rfl rfl rfl ?_
         refine rn tk 3 rfl ?_
         cases hr
         exact jn _ rfl rfl rfl
      ·
       refine ac 64 hr rfl (fun c35 hr => ?_) (fun c35 hr => ?_)
       ·
        refine rn tk 8 rfl ?_
        cases hr
        exact ato rfl rfl rfl rfl
       ·
        refine rn tk 8 rfl ?_
        cases hr
        exact atc rfl rfl
     ·
      refine rn tk 2 rfl ?_
      cases hr
      exact ato rfl rfl rfl rfl
    ·
     refine rn tk 3 rfl ?_
     refine jb hr (fun j36 => [(1, .ptr 1 0), (80, .bo j36)]) (fun j36 => [(1, .cells [.s a0.Name, .s a0.Value])]) (fun j36 hr => ?_) (fun j36 hr => ?_)
     ·
      refine rn tk 4 rfl ?_
      refine bs 67 hr rfl (fun c37 hr => ?_) (fun c37 hr => ?_)
      ·
       refine rn tk 2 rfl ?_
       obtain ⟨v38, h39, hr⟩ := bind_some hr
       refine ug rfl rfl rfl ?_
       refine ws tk h39 rfl rfl rfl rfl ?_
       obtain ⟨v40, h41, hr⟩ := bind_some hr
       refine ug rfl rfl rfl ?_
       refine cl (R_blank_run _ _ h41) rfl rfl ?_
       refine rn tk 1 rfl ?_
       refine bs 72 hr rfl (fun c42 hr => ?_) (fun c42 hr => ?_)
       ·
        refine rn tk 9 rfl ?_
        cases hr
        exact jn _ rfl rfl rfl
       ·
        refine rn tk 4 rfl ?_
        obtain ⟨v43, h44, hr⟩ := bind_some hr
        refine ug rfl rfl rfl ?_
        refine ws tk h44 rfl rfl rfl rfl ?_
        obtain ⟨v45, h46, hr⟩ := bind_some hr
        refine ug rfl rfl rfl ?_
        refine cl (R_blank_run _ _ h46) rfl rfl ?_
        refine rn tk 3 rfl ?_
        cases hr
        exact jn _ rfl rfl rfl
      ·
       refine rn tk 14 rfl ?_
       cases hr
       exact jn _ rfl rfl rfl
     ·
      refine ac 80 hr rfl (fun c47 hr => ?_) (fun c47 hr => ?_)
      ·
       refine rn tk 7 rfl ?_
       cases hr
       exact kr tk (.inr rfl) rfl rfl
      ·
       refine rn tk 8 rfl ?_
       obtain ⟨v48, h49, hr⟩ := bind_some hr
       refine cl (R_FieldLines_run _ _ _ h49) rfl rfl ?_
       refine rn tk 10 rfl ?_
       refine al2 hr (fun s50 => [(6, .l cS v48), (7, .i s50)]) (fun s50 => []) (.exit 4) (fun b51 => []) (fun b51 => []) .ret (fun b52 => [(2, .i b52)]) (fun b52 => []) rfl rfl (fun s50 x54 hr => ?_) (fun b51 hr => ?_) (fun b52 hr => ?_)
       ·
        unfold R_FieldCode_l3 at hr
        refine rn tk 5 rfl ?_
        refine wn tk rfl rfl rfl ?_
        refine rn tk 3 rfl ?_
        refine ac 89 hr rfl (fun c55 hr => ?_) (fun c55 hr => ?_)
        ·
         refine rn tk 8 rfl ?_
         obtain ⟨v56, h57, hr⟩ := bind_some hr
         refine wi tk h57 rfl rfl rfl rfl rfl ?_
         refine rn tk 5 rfl ?_
         refine ac 97 hr rfl (fun c58 hr => ?_) (fun c58 hr => ?_)
         ·
          refine rn tk 8 rfl ?_
          cases hr
          exact ato rfl rfl rfl rfl
         ·
          refine rn tk 8 rfl ?_
          cases hr
          exact atc rfl rfl
        ·
         refine rn tk 2 rfl ?_
         cases hr
         exact ato rfl rfl rfl rfl
       ·
        refine rn tk 8 rfl ?_
        cases hr
        exact kr tk (.inr rfl) rfl rfl
       ·
        refine rn tk 2 rfl ?_
        cases hr
        exact kr tk (.inr rfl) rfl rfl
    ·
     refine rn tk 2 rfl ?_
     cases hr
     exact kr tk (.inr rfl) rfl rfl
 ·
  refine rn tk 2 rfl ?_
  cases hr
  exact kr tk (.inr rfl) rfl rfl
theorem R_MessageBytes_run (a0 : TMessage) (r : List UInt8) (hr : R_MessageBytes a0 = some r) : Run Try.prog 71 [.agg [.l TField.pc a0.Fields, .l cU a0.Body]] (.l cU r) := by
 unfold R_MessageBytes at hr
 refine rf (fn := Try.f71) ⟨Try.func71, rfl, by kernel_rfl⟩ rfl (fun _ => rfl) fun g0 hg => ?_
 refine rn tk 9 rfl ?_
 refine awpl_adopt 1003 (d := 3) 5 1 rfl rfl rfl (hO ?_)
 refine rn tk 9 rfl ?_
 refine al1 hr (fun s1 => [(1, .ptr 1 0), (3, .hs 1003 0), (4, .i s1.1)]) (fun s1 => [(1003, .row 5 false 1 (List.map cU s1.2)), (1, .cells [.l TField.pc a0.Fields, .l cU a0.Body])]) (.exit 0) (fun b2 => [(1, .ptr 1 0), (3, .hs 1003 0)]) (fun b2 => [(1003, .row 5 false 1 (List.map cU b2)), (1, .cells [.l TField.pc a0.Fields, .l cU a0.Body])]) rfl rfl (fun s1 x3 hr => ?_) (fun b2 hr => ?_)
 ·
  unfold R_MessageBytes_l1 at hr
  refine rn tk 6 rfl ?_
  refine wn tk rfl rfl rfl ?_
  refine rn tk 3 rfl ?_
  refine ac 11 hr rfl (fun c4 hr => ?_) (fun c4 hr => ?_)
  ·
   refine rn tk 5 rfl ?_
   obtain ⟨v5, h6, hr⟩ := bind_some hr
   obtain ⟨v7, h8, hr⟩ := bind_some hr
   refine dr 12 [(25, .s v7.Value), (24, .ep [pS v7.Value]), (23, .ep [pS v7.Name, pS v7.Value]), (22, .i s1.1), (21, .l TField.pc a0.Fields), (20, .ptr 1 0), (19, .s v5.Name), (18, .ep [pS v5.Name, pS v5.Value]), (17, .ep [pS v5.Name, pS v5.Value]), (16, .i s1.1), (15, .l TField.pc a0.Fields), (14, .ptr 1 0)] mixed (by kernel_rfl) rfl rfl (pq tk rfl (.plain rfl) (pq tk rfl (.plain rfl) (pq tk rfl (.plain rfl) (.run (.plain rfl) (opG_q (ev_idx (f := TField.pc) rfl rfl ty_s_api_Field ty_api_Field rfl h6)) (pq tk rfl (.plain rfl) (pq tk rfl (.plain rfl) (pq tk rfl (.plain rfl) (pq tk rfl (.plain rfl) (pq tk rfl (.plain rfl) (.run (.plain rfl) (opG_q (ev_idx (f := TField.pc) rfl rfl ty_s_api_Field ty_api_Field rfl h8)) (pq tk rfl (.plain rfl) (pq tk rfl (.plain rfl) .nil)))))))))))) rfl ?_
   obtain ⟨v9, h10, hr⟩ := bind_some hr
   refine cl (R_FieldLines_run _ _ _ h10) rfl rfl ?_
   refine rn tk 9 rfl ?_
   refine al1 hr (fun s11 => [(1, .ptr 1 0), (3, .hs 1003 0), (4, .i s1.1), (5, .l cS v9), (6, .i s11.1)]) (fun s11 => [(1003, .row 5 false 1 (List.map cU s11.2)), (1, .cells [.l TField.pc a0.Fields, .l cU a0.Body])]) (.exit 2) (fun b12 => [(1, .ptr 1 0), (3, .hs 1003 0), (4, .i s1.1)]) (fun b12 => [(1003, .row 5 false 1 (List.map cU b12)), (1, .cells [.l TField.pc a0.Fields, .l cU a0.Body])]) rfl rfl (fun s11 x13 hr => ?_) (fun b12 hr => ?_)
   ·
    unfold R_MessageBytes_l2 at hr
    refine rn tk 5 rfl ?_
    refine wn tk rfl rfl rfl ?_
    refine rn tk 3 rfl ?_
    refine ac 30 hr rfl (fun c14 hr => ?_) (fun c14 hr => ?_)
    ·
     refine rn tk 9 rfl ?_
     obtain ⟨v15, h16, hr⟩ := bind_some hr
     refine wi tk h16 rfl rfl rfl rfl rfl ?_
     refine rn tk 1 rfl ?_
     obtain ⟨v17, h18, hr⟩ := bind_some hr
     refine wo (opTo_appends (k := 38) (l := s11.2) (s := v15) (lim := 140737488355328) rfl rfl rfl rfl ty_s_uint8 ty_string.u ty_uint8 rfl h18) rfl ?_
     refine rn tk 5 rfl ?_
     refine wz cU ([(13 : UInt8), (10 : UInt8)] : List UInt8) tk rfl rfl (fun _ => rfl) rfl rfl rfl ?_
     obtain ⟨v19, h20, hr⟩ := bind_some hr
     refine wa tk h20 rfl rfl rfl rfl (fun _ => rfl) rfl rfl ?_
     refine rn tk 9 rfl ?_
     cases hr
     exact atc rfl rfl
    ·
     refine rn tk 2 rfl ?_
     cases hr
     exact ato rfl rfl rfl rfl
   ·
    refine rn tk 8 rfl ?_
    cases hr
    exact atc rfl rfl
  ·
   refine rn tk 2 rfl ?_
   cases hr
   exact ato rfl rfl rfl rfl
 ·
  refine rn tk 5 rfl ?_
  refine wz cU ([(13 : UInt8), (10 : UInt8)] : List UInt8) tk rfl rfl (fun _ => rfl) rfl rfl rfl ?_
  obtain ⟨v21, h22, hr⟩ := bind_some hr
  refine wa tk h22 rfl rfl rfl rfl (fun _ => rfl) rfl rfl ?_
  refine rn tk 8 rfl ?_
  obtain ⟨v23, h24, hr⟩ := bind_some hr
  refine wa tk h24 rfl rfl rfl rfl (fun _ => rfl) rfl rfl ?_
  refine rn tk 3 rfl ?_
  refine awp_pub (d := 2) (F := cU) (l := v23) rfl rfl (hC ?_)
  refine rn tk 1 rfl ?_
  cases hr
  exact kr tk (.inr rfl) rfl rfl
theorem R_MessageFault_run (a0 : TMessage) (r : TFault) (hr : R_MessageFault a0 = some r) : Run Try.prog 49 [.agg [.l TField.pc a0.Fields, .l cU a0.Body]] (.agg [.i r.Code, .i r.Index]) := by
 unfold R_MessageFault at hr
 refine rf (fn := Try.f49) ⟨Try.func49, rfl, by kernel_rfl⟩ rfl (fun _ => rfl) fun g0 hg => ?_
 refine rn tk 11 rfl ?_
 refine wn tk rfl rfl rfl ?_
 refine rn tk 3 rfl ?_
 refine ac 11 hr rfl (fun c1 hr => ?_) (fun c1 hr => ?_)
 ·
  refine rn tk 2 rfl ?_
  obtain ⟨v2, h3, hr⟩ := bind_some hr
  refine cl (R_At_run _ _ _ h3) rfl rfl ?_
  refine rn tk 5 rfl ?_
  cases hr
  exact kr tk (.inr rfl) rfl rfl
 ·
  refine rn tk 9 rfl ?_
  refine al2 hr (fun s4 => [(1, .ptr 1 0), (2, .ptr 2 0), (3, .i s4)]) (fun s4 => [(2, .cells [.i 0, .i 0]), (1, .cells [.l TField.pc a0.Fields, .l cU a0.Body])]) (.exit 0) (fun b5 => [(1, .ptr 1 0), (2, .ptr 2 0)]) (fun b5 => [(2, .cells [.i 0, .i 0]), (1, .cells [.l TField.pc a0.Fields, .l cU a0.Body])]) .ret (fun b6 => [(2, .ptr 2 0)]) (fun b6 => [(2, .cells [.i b6.Code, .i b6.Index])]) rfl rfl (fun s4 x8 hr => ?_) (fun b5 hr => ?_) (fun b6 hr => ?_)
  ·
   unfold R_MessageFault_l1 at hr
   refine rn tk 6 rfl ?_
   refine wn tk rfl rfl rfl ?_
   refine rn tk 3 rfl ?_
   refine ac 17 hr rfl (fun c9 hr => ?_) (fun c9 hr => ?_)
   ·
    refine rn tk 9 rfl ?_
    obtain ⟨v10, h11, hr⟩ := bind_some hr
    refine wi tk h11 rfl rfl rfl rfl rfl ?_
    refine rn tk 1 rfl ?_
    obtain ⟨v12, h13, hr⟩ := bind_some hr
    refine cl (R_FieldCode_run _ _ h13) rfl rfl ?_
    refine rn tk 9 rfl ?_
    refine ac 27 hr rfl (fun c14 hr => ?_) (fun c14 hr => ?_)
    ·
     refine rn tk 4 rfl ?_
     obtain ⟨v15, h16, hr⟩ := bind_some hr
     refine cl (R_At_run _ _ _ h16) rfl rfl ?_
     refine rn tk 6 rfl ?_
     cases hr
     exact ato rfl rfl rfl rfl
    ·
     refine rn tk 8 rfl ?_
     cases hr
     exact atc rfl rfl
   ·
    refine rn tk 2 rfl ?_
    cases hr
    exact ato rfl rfl rfl rfl
  ·
   refine rn tk 3 rfl ?_
   refine jb hr (fun j17 => [(1, .ptr 1 0), (2, .ptr 2 0), (40, .bo j17)]) (fun j17 => [(2, .cells [.i 0, .i 0]), (1, .cells [.l TField.pc a0.Fields, .l cU a0.Body])]) (fun j17 hr => ?_) (fun j17 hr => ?_)
   ·
    refine rn tk 3 rfl ?_
    refine wn tk rfl rfl rfl ?_
    refine rn tk 2 rfl ?_
    refine bs 35 hr rfl (fun c18 hr => ?_) (fun c18 hr => ?_)
    ·
     refine rn tk 6 rfl ?_
     cases hr
     exact jn _ rfl rfl rfl
    ·
     refine rn tk 1 rfl ?_
     obtain ⟨v19, h20, hr⟩ := bind_some hr
     refine ug rfl rfl rfl ?_
     refine cl (R_MessageBytes_run _ _ h20) rfl rfl ?_
     refine ug rfl rfl rfl ?_
     refine wn tk rfl rfl rfl ?_
     refine rn tk 3 rfl ?_
     cases hr
     exact jn _ rfl rfl rfl
   ·
    refine ac 40 hr rfl (fun c21 hr => ?_) (fun c21 hr => ?_)
    ·
     refine rn tk 2 rfl ?_
     obtain ⟨v22, h23, hr⟩ := bind_some hr
     refine cl (R_At_run _ _ _ h23) rfl rfl ?_
     refine rn tk 5 rfl ?_
     cases hr
     exact kr tk (.inr rfl) rfl rfl
    ·
     refine rn tk 14 rfl ?_
     refine al2 hr (fun s24 => [(1, .ptr 1 0), (2, .ptr 2 0), (5, .i s24.1), (6, .i s24.2)]) (fun s24 => [(2, .cells [.i 0, .i 0]), (1, .cells [.l TField.pc a0.Fields, .l cU a0.Body])]) (.exit 2) (fun b25 => [(2, .ptr 2 0)]) (fun b25 => [(2, .cells [.i 0, .i 0])]) .ret (fun b26 => [(2, .ptr 2 0)]) (fun b26 => [(2, .cells [.i b26.Code, .i b26.Index])]) rfl rfl (fun s24 x28 hr => ?_) (fun b25 hr => ?_) (fun b26 hr => ?_)
     ·
      unfold R_MessageFault_l2 at hr
      refine rn tk 6 rfl ?_
      refine wn tk rfl rfl rfl ?_
      refine rn tk 3 rfl ?_
      refine ac 46 hr rfl (fun c29 hr => ?_) (fun c29 hr => ?_)
      ·
       refine rn tk 2 rfl ?_
       refine jk (fun j30 => [(1, .ptr 1 0), (2, .ptr 2 0), (5, .i j30.1), (6, .i j30.2)]) (fun j30 => [(2, .cells [.i 0, .i 0]), (1, .cells [.l TField.pc a0.Fields, .l cU a0.Body])]) (fun j30 => R_MessageFault_k3  j30 = some x28) ?_ ?_
       ·
        refine rn tk 6 rfl ?_
        obtain ⟨v31, h32, hr⟩ := bind_some hr
        refine wi tk h32 rfl rfl rfl rfl rfl ?_
        refine rn tk 5 rfl ?_
        refine jb hr (fun j33 => [(1, .ptr 1 0), (2, .ptr 2 0), (5, .i s24.1), (6, .i s24.2), (7, .u8 v31), (72, .bo j33)]) (fun j33 => [(2, .cells [.i 0, .i 0]), (1, .cells [.l TField.pc a0.Fields, .l cU a0.Body])]) (fun j33 hr => ?_) (fun j33 hr => ?_)
        ·
         refine rn tk 4 rfl ?_
         refine bs 56 hr rfl (fun c34 hr => ?_) (fun c34 hr => ?_)
         ·
          refine rn tk 4 rfl ?_
          refine ug rfl rfl rfl ?_
          refine wn tk rfl rfl rfl ?_
          refine rn tk 3 rfl ?_
          refine bs 64 hr rfl (fun c35 hr => ?_) (fun c35 hr => ?_)
          ·
           refine rn tk 4 rfl ?_
           obtain ⟨v36, h37, hr⟩ := bind_some hr
           refine ug rfl rfl rfl ?_
           refine wi tk h37 rfl rfl rfl rfl rfl ?_
           refine rn tk 4 rfl ?_
           cases hr
           exact jn _ rfl rfl rfl
          ·
           refine rn tk 9 rfl ?_
           cases hr
           exact jn _ rfl rfl rfl
         ·
          refine rn tk 17 rfl ?_
          cases hr
          exact jn _ rfl rfl rfl
        ·
         refine ac 72 hr rfl (fun c38 hr => ?_) (fun c38 hr => ?_)
         ·
          refine rn tk 15 rfl ?_
          exact jn ((0, (w64 (s24.2 + 1)))) hr rfl rfl
         ·
          refine rn tk 3 rfl ?_
          refine jb hr (fun j39 => [(1, .ptr 1 0), (2, .ptr 2 0), (5, .i s24.1), (6, .i s24.2), (80, .bo j39)]) (fun j39 => [(2, .cells [.i 0, .i 0]), (1, .cells [.l TField.pc a0.Fields, .l cU a0.Body])]) (fun j39 hr => ?_) (fun j39 hr => ?_)
          ·
           refine rn tk 4 rfl ?_
           refine bs 77 hr rfl (fun c40 hr => ?_) (fun c40 hr => ?_)
           ·
            refine rn tk 4 rfl ?_
            cases hr
            exact jn _ rfl rfl rfl
           ·
            refine rn tk 4 rfl ?_
            cases hr
            exact jn _ rfl rfl rfl
          ·
           refine ac 80 hr rfl (fun c41 hr => ?_) (fun c41 hr => ?_)
           ·
            refine rn tk 2 rfl ?_
            obtain ⟨v42, h43, hr⟩ := bind_some hr
            refine cl (R_At_run _ _ _ h43) rfl rfl ?_
            refine rn tk 7 rfl ?_
            cases hr
            exact ato rfl rfl rfl rfl
           ·
            refine rn tk 15 rfl ?_
            refine ac 85 hr rfl (fun c44 hr => ?_) (fun c44 hr => ?_)
            ·
             refine rn tk 2 rfl ?_
             obtain ⟨v45, h46, hr⟩ := bind_some hr
             refine cl (R_At_run _ _ _ h46) rfl rfl ?_
             refine rn tk 6 rfl ?_
             cases hr
             exact ato rfl rfl rfl rfl
            ·
             refine rn tk 2 rfl ?_
             exact jn (((w64 (s24.1 + 1)), s24.2)) hr rfl rfl
       ·
        intro j30 hr
        unfold R_MessageFault_k3 at hr
        refine rn tk 5 rfl ?_
        cases hr
        exact atc rfl rfl
      ·
       refine rn tk 2 rfl ?_
       cases hr
       exact ato rfl rfl rfl rfl
     ·
      refine rn tk 9 rfl ?_
      cases hr
      exact kr tk (.inr rfl) rfl rfl
     ·
      refine rn tk 2 rfl ?_
      cases hr
      exact kr tk (.inr rfl) rfl rfl
  ·
   refine rn tk 2 rfl ?_
   cases hr
   exact kr tk (.inr rfl) rfl rfl
theorem R_MailFault_run (a0 : TMail) (r : TFault) (hr : R_MailFault a0 = some r) : Run Try.prog 25 [.agg [.s a0.Envelope.From, .l TRecipient.pc a0.Envelope.To, .s a0.Envelope.Id, .l TField.pc a0.Message.Fields, .l cU a0.Message.Body]] (.agg [.i r.Code, .i r.Index]) := by
 unfold R_MailFault at hr
 refine rf (fn := Try.f25) ⟨Try.func25, rfl, by kernel_rfl⟩ rfl (fun _ => rfl) fun g0 hg => ?_
 refine rn tk 10 rfl ?_
 obtain ⟨v1, h2, hr⟩ := bind_some hr
 refine cl (R_EnvelopeFault_run _ _ h2) rfl rfl ?_
 refine rn tk 4 rfl ?_
 refine jb hr (fun j3 => [(2, .ptr 2 0), (3, .ptr 3 0)]) (fun j3 => [(3, .cells [.i j3.1, .i j3.2]), (2, .cells [.i 0, .i 0])]) (fun j3 hr => ?_) (fun j3 hr => ?_)
 ·
  refine jb hr (fun j4 => [(1, .ptr 1 0), (2, .ptr 2 0), (3, .ptr 3 0), (16, .bo j4)]) (fun j4 => [(3, .cells [.i v1.Code, .i v1.Index]), (2, .cells [.i 0, .i 0]), (1, .cells [.s a0.Envelope.From, .l TRecipient.pc a0.Envelope.To, .s a0.Envelope.Id, .l TField.pc a0.Message.Fields, .l cU a0.Message.Body])]) (fun j4 hr => ?_) (fun j4 hr => ?_)
  ·
   refine rn tk 5 rfl ?_
   refine bs 10 hr rfl (fun c5 hr => ?_) (fun c5 hr => ?_)
   ·
    refine rn tk 2 rfl ?_
    obtain ⟨v6, h7, hr⟩ := bind_some hr
    refine ug rfl rfl rfl ?_
    refine cl (R_MessageFault_run _ _ h7) rfl rfl ?_
    refine rn tk 4 rfl ?_
    cases hr
    exact jn _ rfl rfl rfl
   ·
    refine rn tk 7 rfl ?_
    cases hr
    exact jn _ rfl rfl rfl
  ·
   refine ac 16 hr rfl (fun c8 hr => ?_) (fun c8 hr => ?_)
   ·
    refine rn tk 3 rfl ?_
    obtain ⟨v9, h10, hr⟩ := bind_some hr
    refine cl (R_MessageFault_run _ _ h10) rfl rfl ?_
    refine rn tk 1 rfl ?_
    obtain ⟨v11, h12, hr⟩ := bind_some hr
    refine cl (R_At_run _ _ _ h12) rfl rfl ?_
    refine rn tk 2 rfl ?_
    cases hr
    exact jn _ rfl rfl rfl
   ·
    refine rn tk 1 rfl ?_
    cases hr
    exact jn _ rfl rfl rfl
 ·
  refine rn tk 7 rfl ?_
  cases hr
  exact kr tk (.inr rfl) rfl rfl
theorem fold_name_run (a0 : Str) (r : Bool) (hr : fold_name a0 = some r) : Run Try.prog 105 [.s a0] (.bo r) := by
 unfold fold_name at hr
 refine rf (fn := Try.f105) ⟨Try.func105, rfl, by kernel_rfl⟩ rfl (fun _ => rfl) fun g0 hg => ?_
 refine rn tk 5 rfl ?_
 refine jb hr (fun j1 => [(2, .bo j1)]) (fun j1 => []) (fun j1 hr => ?_) (fun j1 hr => ?_)
 ·
  refine rn tk 4 rfl ?_
  refine bs 5 hr rfl (fun c2 hr => ?_) (fun c2 hr => ?_)
  ·
   refine rn tk 5 rfl ?_
   refine bs 10 hr rfl (fun c3 hr => ?_) (fun c3 hr => ?_)
   ·
    refine rn tk 1 rfl ?_
    refine ug rfl rfl rfl ?_
    refine ct hr (fun j4 => [(10, .bo true), (12, .bo j4)]) (fun j4 => []) (fun j4 hr jump4 => ?_) (fun j4 hr => ?_)
    ·
     refine il (fn := Try.f60) (args := [.s a0, .fn (.func 114) [] []]) 400000 499999 [(10, .bo true)] rfl ⟨Try.func60, rfl, by kernel_rfl⟩ rfl rfl rfl fun T4 ds4 => ?_
     refine rn tk 14 rfl ?_
     refine al2 hr (fun s5 => [(0, .s a0), (1, .fn (.func 114) [] []), (7, .i ((a0.length : Int))), (8, .i s5)]) (fun s5 => [(499999, .sus g0.w.heap.size ds4), (400010, .hold (.bo true) (T4.getD 10 undef))]) (.exit 0) (fun b6 => []) (fun b6 => [(499999, .sus g0.w.heap.size ds4), (400010, .hold (.bo true) (T4.getD 10 undef))]) .ret (fun b7 => [(4, .bo false)]) (fun b7 => [(499999, .sus g0.w.heap.size ds4), (400010, .hold (.bo true) (T4.getD 10 undef))]) rfl rfl (fun s5 x9 hr => ?_) (fun b6 hr => ?_) (fun b7 hr => ?_)
     ·
      unfold fold_name_l1 at hr
      refine rn tk 6 rfl ?_
      refine ac 9 hr rfl (fun c10 hr => ?_) (fun c10 hr => ?_)
      ·
       refine rn tk 15 rfl ?_
       obtain ⟨v11, h12, hr⟩ := bind_some hr
       refine ws tk h12 rfl rfl rfl rfl ?_
       refine il (fn := Try.f114) (args := [.u8 v11]) 600000 699999 [(0, .s a0), (1, .fn (.func 114) [] []), (7, .i ((a0.length : Int))), (8, .i s5)] rfl ⟨Try.func114, rfl, by kernel_rfl⟩ rfl rfl rfl fun T6 ds6 => ?_
       refine rn tk 5 rfl ?_
       refine jb hr (fun j13 => [(2, .bo j13)]) (fun j13 => [(699999, .sus g0.w.heap.size ds6), (600000, .hold (.s a0) (T6.getD 0 undef)), (600001, .hold (.fn (.func 114) [] []) (T6.getD 1 undef)), (600007, .hold (.i ((a0.length : Int))) (T6.getD 7 undef)), (600008, .hold (.i s5) (T6.getD 8 undef)), (499999, .sus g0.w.heap.size ds4), (400010, .hold (.bo true) (T4.getD 10 undef))]) (fun j13 hr => ?_) (fun j13 hr => ?_)
       ·
        refine rn tk 4 rfl ?_
        refine bs 5 hr rfl (fun c14 hr => ?_) (fun c14 hr => ?_)
        ·
         refine rn tk 4 rfl ?_
         refine bs 9 hr rfl (fun c15 hr => ?_) (fun c15 hr => ?_)
         ·
          refine rn tk 5 rfl ?_
          cases hr
          exact jn _ rfl rfl rfl
         ·
          refine rn tk 5 rfl ?_
          cases hr
          exact jn _ rfl rfl rfl
        ·
         refine rn tk 9 rfl ?_
         cases hr
         exact jn _ rfl rfl rfl
       ·
        refine rn tk 1 rfl ?_
        refine ie tk [.bo j13] [(0, .s a0), (1, .fn (.func 114) [] []), (7, .i ((a0.length : Int))), (8, .i s5)] [(499999, .sus g0.w.heap.size ds4), (400010, .hold (.bo true) (T4.getD 10 undef))] (.inr rfl) rfl rfl rfl rfl (hO ?_)
        refine rn tk 3 rfl ?_
        refine ac 16 hr rfl (fun c16 hr => ?_) (fun c16 hr => ?_)
        ·
         refine rn tk 8 rfl ?_
         cases hr
         exact ato rfl rfl rfl rfl
        ·
         refine rn tk 7 rfl ?_
         cases hr
         exact atc rfl rfl
      ·
       refine rn tk 2 rfl ?_
       cases hr
       exact ato rfl rfl rfl rfl
     ·
      refine rn tk 8 rfl ?_
      refine ie tk [.bo true] [(10, .bo true)] [] (.inr rfl) rfl rfl rfl rfl ?_
      cases hr
      exact jump4 _ _ rfl rfl
     ·
      refine rn tk 2 rfl ?_
      refine ie tk [.bo false] [(10, .bo true)] [] (.inr rfl) rfl rfl rfl rfl ?_
      cases hr
      exact jump4 _ _ rfl rfl
    ·
     refine rn tk 3 rfl ?_
     cases hr
     exact jn _ rfl rfl rfl
   ·
    refine rn tk 5 rfl ?_
    cases hr
    exact jn _ rfl rfl rfl
  ·
   refine rn tk 10 rfl ?_
   cases hr
   exact jn _ rfl rfl rfl
 ·
  refine rn tk 1 rfl ?_
  cases hr
  exact kr tk (.inr rfl) rfl rfl
theorem basic_Blank_run (a0 : UInt8) (r : Bool) (hr : basic_Blank a0 = some r) : Run Try.prog 116 [.u8 a0] (.bo r) := by
 unfold basic_Blank at hr
 refine rf (fn := Try.f116) ⟨Try.func116, rfl, by kernel_rfl⟩ rfl (fun _ => rfl) fun g0 hg => ?_
 refine rn tk 5 rfl ?_
 refine jb hr (fun j1 => [(2, .bo j1)]) (fun j1 => []) (fun j1 hr => ?_) (fun j1 hr => ?_)
 ·
  refine rn tk 4 rfl ?_
  refine bs 5 hr rfl (fun c2 hr => ?_) (fun c2 hr => ?_)
  ·
   refine rn tk 5 rfl ?_
   cases hr
   exact jn _ rfl rfl rfl
  ·
   refine rn tk 5 rfl ?_
   cases hr
   exact jn _ rfl rfl rfl
 ·
  refine rn tk 1 rfl ?_
  cases hr
  exact kr tk (.inr rfl) rfl rfl
theorem fold_point_run (a0 : Str) (a1 : Int) (r : Int) (hr : fold_point a0 a1 = some r) : Run Try.prog 107 [.s a0, .i a1] (.i r) := by
 unfold fold_point at hr
 refine rf (fn := Try.f107) ⟨Try.func107, rfl, by kernel_rfl⟩ rfl (fun _ => rfl) fun g0 hg => ?_
 refine rn tk 14 rfl ?_
 refine wq (ev_max rfl rfl) rfl rfl rfl ?_
 refine rn tk 4 rfl ?_
 refine al1 hr (fun s1 => [(0, .s a0), (5, .i s1.1), (6, .i s1.2)]) (fun s1 => []) (.exit 0) (fun b2 => [(5, .i b2)]) (fun b2 => []) rfl rfl (fun s1 x3 hr => ?_) (fun b2 hr => ?_)
 ·
  unfold fold_point_l1 at hr
  refine rn tk 9 rfl ?_
  refine ac 12 hr rfl (fun c4 hr => ?_) (fun c4 hr => ?_)
  ·
   refine rn tk 2 rfl ?_
   refine jk (fun j5 => [(0, .s a0), (5, .i j5), (6, .i s1.2)]) (fun j5 => []) (fun j5 => fold_point_k2 s1 j5 = some x3) ?_ ?_
   ·
    refine rn tk 2 rfl ?_
    refine jb hr (fun j6 => [(0, .s a0), (5, .i s1.1), (6, .i s1.2), (26, .bo j6)]) (fun j6 => []) (fun j6 hr => ?_) (fun j6 hr => ?_)
    ·
     refine rn tk 3 rfl ?_
     obtain ⟨v7, h8, hr⟩ := bind_some hr
     refine ws tk h8 rfl rfl rfl rfl ?_
     obtain ⟨v9, h10, hr⟩ := bind_some hr
     refine cl (basic_Blank_run _ _ h10) rfl rfl ?_
     refine rn tk 2 rfl ?_
     refine bs 20 hr rfl (fun c11 hr => ?_) (fun c11 hr => ?_)
     ·
      refine rn tk 7 rfl ?_
      cases hr
      exact jn _ rfl rfl rfl
     ·
      refine rn tk 3 rfl ?_
      obtain ⟨v12, h13, hr⟩ := bind_some hr
      refine ug rfl rfl rfl ?_
      refine ws tk h13 rfl rfl rfl rfl ?_
      obtain ⟨v14, h15, hr⟩ := bind_some hr
      refine ug rfl rfl rfl ?_
      refine cl (basic_Blank_run _ _ h15) rfl rfl ?_
      refine rn tk 2 rfl ?_
      cases hr
      exact jn _ rfl rfl rfl
    ·
     refine ac 26 hr rfl (fun c16 hr => ?_) (fun c16 hr => ?_)
     ·
      refine rn tk 3 rfl ?_
      exact jn s1.1 hr rfl rfl
     ·
      refine rn tk 3 rfl ?_
      refine jb hr (fun j17 => [(0, .s a0), (5, .i s1.1), (6, .i s1.2), (32, .bo j17)]) (fun j17 => []) (fun j17 hr => ?_) (fun j17 hr => ?_)
      ·
       refine rn tk 4 rfl ?_
       refine bs 29 hr rfl (fun c18 hr => ?_) (fun c18 hr => ?_)
       ·
        refine rn tk 4 rfl ?_
        cases hr
        exact jn _ rfl rfl rfl
       ·
        refine rn tk 4 rfl ?_
        cases hr
        exact jn _ rfl rfl rfl
      ·
       refine ac 32 hr rfl (fun c19 hr => ?_) (fun c19 hr => ?_)
       ·
        refine rn tk 4 rfl ?_
        cases hr
        exact ato rfl rfl rfl rfl
       ·
        refine rn tk 7 rfl ?_
        exact jn s1.2 hr rfl rfl
   ·
    intro j5 hr
    unfold fold_point_k2 at hr
    refine rn tk 5 rfl ?_
    cases hr
    exact atc rfl rfl
  ·
   refine rn tk 2 rfl ?_
   cases hr
   exact ato rfl rfl rfl rfl
 ·
  refine rn tk 9 rfl ?_
  cases hr
  exact kr tk (.inr rfl) rfl rfl
theorem unicode_utf8_ValidRune_run (a0 : Int) (r : Bool) (hr : unicode_utf8_ValidRune a0 = some r) : Run Try.prog 124 [.pv (.b (.int .i32 a0))] (.bo r) := by
 unfold unicode_utf8_ValidRune at hr
 refine rf (fn := Try.f124) ⟨Try.func124, rfl, by kernel_rfl⟩ rfl (fun _ => rfl) fun g0 hg => ?_
 refine rn tk 7 rfl ?_
 refine jb hr (fun j1 => [(0, .pv (.b (.int .i32 a0))), (3, .bo j1)]) (fun j1 => []) (fun j1 hr => ?_) (fun j1 hr => ?_)
 ·
  refine rn tk 4 rfl ?_
  refine bs 6 hr rfl (fun c2 hr => ?_) (fun c2 hr => ?_)
  ·
   refine rn tk 5 rfl ?_
   cases hr
   exact jn _ rfl rfl rfl
  ·
   refine rn tk 5 rfl ?_
   cases hr
   exact jn _ rfl rfl rfl
 ·
  refine ac 3 hr rfl (fun c3 hr => ?_) (fun c3 hr => ?_)
  ·
   refine rn tk 8 rfl ?_
   cases hr
   exact kr tk (.inr rfl) rfl rfl
  ·
   refine jb hr (fun j4 => [(10, .bo j4)]) (fun j4 => []) (fun j4 hr => ?_) (fun j4 hr => ?_)
   ·
    refine rn tk 4 rfl ?_
    refine bs 13 hr rfl (fun c5 hr => ?_) (fun c5 hr => ?_)
    ·
     refine rn tk 5 rfl ?_
     cases hr
     exact jn _ rfl rfl rfl
    ·
     refine rn tk 5 rfl ?_
     cases hr
     exact jn _ rfl rfl rfl
   ·
    refine ac 10 hr rfl (fun c6 hr => ?_) (fun c6 hr => ?_)
    ·
     refine rn tk 8 rfl ?_
     cases hr
     exact kr tk (.inr rfl) rfl rfl
    ·
     refine rn tk 9 rfl ?_
     cases hr
     exact kr tk (.inr rfl) rfl rfl
theorem strings_IndexRune_run (a0 : Str) (a1 : Int) (r : Int) (hr : strings_IndexRune a0 a1 = some r) : Run Try.prog 120 [.s a0, .pv (.b (.int .i32 a1))] (.i r) := by
 unfold strings_IndexRune at hr
 refine rf (fn := Try.f120) ⟨Try.func120, rfl, by kernel_rfl⟩ rfl (fun _ => rfl) fun g0 hg => ?_
 refine rn tk 6 rfl ?_
 refine jb hr (fun j1 => [(0, .s a0), (1, .pv (.b (.int .i32 a1))), (160, .bo j1)]) (fun j1 => []) (fun j1 hr => ?_) (fun j1 hr => ?_)
 ·
  refine rn tk 4 rfl ?_
  refine bs 163 hr rfl (fun c2 hr => ?_) (fun c2 hr => ?_)
  ·
   refine rn tk 5 rfl ?_
   cases hr
   exact jn _ rfl rfl rfl
  ·
   refine rn tk 5 rfl ?_
   cases hr
   exact jn _ rfl rfl rfl
 ·
  refine ac 160 hr rfl (fun c3 hr => ?_) (fun c3 hr => ?_)
  ·
   refine rn tk 5 rfl ?_
   obtain ⟨v4, h5, hr⟩ := bind_some hr
   refine cl (strings_IndexByte_run _ _ _ h5) rfl rfl ?_
   refine rn tk 5 rfl ?_
   cases hr
   exact kr tk (.inr rfl) rfl rfl
  ·
   refine rn tk 7 rfl ?_
   refine ac 171 hr rfl (fun c6 hr => ?_) (fun c6 hr => ?_)
   ·
    refine rn tk 4 rfl ?_
    refine wr 1175 tk rfl rfl rfl rfl ?_
    refine rn tk 3 rfl ?_
    refine al2 hr (fun s7 => [(175, .ptr 1175 0)]) (fun s7 => [(1175, .it (strB a0) s7)]) (.exit 9) (fun b8 => []) (fun b8 => []) .ret (fun b9 => [(4, .i b9)]) (fun b9 => []) rfl rfl (fun s7 x11 hr => ?_) (fun b8 hr => ?_) (fun b9 hr => ?_)
    ·
     unfold strings_IndexRune_l1 at hr
     refine rn tk 2 rfl ?_
     refine wnx hr rfl rfl rfl (fun c12 hr => ?_) (fun c12 hr => ?_)
     ·
      refine rn tk 22 rfl ?_
      refine ac 181 hr rfl (fun c13 hr => ?_) (fun c13 hr => ?_)
      ·
       refine rn tk 8 rfl ?_
       cases hr
       exact ato rfl rfl rfl rfl
      ·
       refine rn tk 2 rfl ?_
       cases hr
       exact atc rfl rfl
     ·
      refine rn tk 7 rfl ?_
      cases hr
      exact ato rfl rfl rfl rfl
    ·
     refine rn tk 9 rfl ?_
     cases hr
     exact kr tk (.inr rfl) rfl rfl
    ·
     refine rn tk 3 rfl ?_
     cases hr
     exact kr tk (.inr rfl) rfl rfl
   ·
    refine rn tk 3 rfl ?_
    obtain ⟨v14, h15, hr⟩ := bind_some hr
    refine cl (unicode_utf8_ValidRune_run _ _ h15) rfl rfl ?_
    refine rn tk 4 rfl ?_
    refine ac 183 hr rfl (fun c16 hr => ?_) (fun c16 hr => ?_)
    ·
     refine rn tk 7 rfl ?_
     cases hr
     exact kr tk (.inr rfl) rfl rfl
    ·
     refine rn tk 29 rfl ?_
     refine al2 hr (fun s17 => [(0, .s a0), (7, .s ((runeS a1))), (8, .i ((w64 ((((runeS a1)).length : Int) - 1)))), (9, .i s17)]) (fun s17 => []) (.exit 1) (fun b18 => []) (fun b18 => []) .ret (fun b19 => [(4, .i b19)]) (fun b19 => []) rfl rfl (fun s17 x21 hr => ?_) (fun b18 hr => ?_) (fun b19 hr => ?_)
     ·
      unfold strings_IndexRune_l2 at hr
      refine rn tk 9 rfl ?_
      refine ac 26 hr rfl (fun c22 hr => ?_) (fun c22 hr => ?_)
      ·
       refine rn tk 4 rfl ?_
       refine jk (fun j23 => [(0, .s a0), (7, .s ((runeS a1))), (8, .i j23.1), (9, .i j23.2)]) (fun j23 => []) (fun j23 => strings_IndexRune_k3 a0 a1 j23 = some x21) ?_ ?_
       ·
        refine rn tk 1 rfl ?_
        obtain ⟨v24, h25, hr⟩ := bind_some hr
        obtain ⟨v26, h27, hr⟩ := bind_some hr
        refine dr 6 [(32, .u8 v26), (31, .i ((w64 ((((runeS a1)).length : Int) - 1)))), (30, .s ((runeS a1))), (29, .u8 v24), (28, .i s17), (27, .s a0)] mixed (by kernel_rfl) rfl rfl (pq tk rfl (.plain rfl) (pq tk rfl (.plain rfl) (.run (.plain rfl) (opG_q (ev_sidx rfl rfl ty_string h25)) (pq tk rfl (.plain rfl) (pq tk rfl (.plain rfl) (.run (.plain rfl) (opG_q (ev_sidx rfl rfl ty_string h27)) .nil)))))) rfl ?_
        refine rn tk 3 rfl ?_
        refine ac 33 hr rfl (fun c28 hr => ?_) (fun c28 hr => ?_)
        ·
         refine rn tk 1 rfl ?_
         obtain ⟨v29, h30, hr⟩ := bind_some hr
         obtain ⟨v31, h32, hr⟩ := bind_some hr
         refine dr 7 [(40, .u8 v31), (39, .i ((w64 ((((runeS a1)).length : Int) - 1)))), (38, .s ((runeS a1))), (37, .s v29), (36, .i ((w64 (s17 + 1)))), (35, .i s17), (34, .s a0)] mixed (by kernel_rfl) rfl rfl (pq tk rfl (.plain rfl) (pq tk rfl (.plain rfl) (pq tk rfl (.plain rfl) (.run (.plain rfl) (opG_q (ev_scutL rfl rfl ty_string h30)) (pq tk rfl (.plain rfl) (pq tk rfl (.plain rfl) (.run (.plain rfl) (opG_q (ev_sidx rfl rfl ty_string h32)) .nil))))))) rfl ?_
         obtain ⟨v33, h34, hr⟩ := bind_some hr
         refine cl (strings_IndexByte_run _ _ _ h34) rfl rfl ?_
         refine rn tk 10 rfl ?_
         refine ac 43 hr rfl (fun c35 hr => ?_) (fun c35 hr => ?_)
         ·
          refine rn tk 10 rfl ?_
          cases hr
          exact ato rfl rfl rfl rfl
         ·
          refine rn tk 9 rfl ?_
          exact jn (((w64 ((((runeS a1)).length : Int) - 1)), (w64 (s17 + (w64 (v33 + 1)))))) hr rfl rfl
        ·
         refine rn tk 1 rfl ?_
         exact jn (((w64 ((((runeS a1)).length : Int) - 1)), s17)) hr rfl rfl
       ·
        intro j23 hr
        unfold strings_IndexRune_k3 at hr
        refine rn tk 7 rfl ?_
        refine al1 hr (fun s36 => [(0, .s a0), (7, .s ((runeS a1))), (8, .i j23.1), (9, .i j23.2), (12, .i s36)]) (fun s36 => []) (.exit 3) (fun b37 => [(8, .i j23.1), (9, .i j23.2)]) (fun b37 => []) rfl rfl (fun s36 x38 hr => ?_) (fun b37 hr => ?_)
        ·
         unfold strings_IndexRune_l4 at hr
         refine rn tk 9 rfl ?_
         refine ac 51 hr rfl (fun c39 hr => ?_) (fun c39 hr => ?_)
         ·
          refine rn tk 5 rfl ?_
          obtain ⟨v40, h41, hr⟩ := bind_some hr
          obtain ⟨v42, h43, hr⟩ := bind_some hr
          refine dr 10 [(63, .u8 v42), (62, .i ((w64 (j23.1 - s36)))), (61, .i s36), (60, .i j23.1), (59, .s ((runeS a1))), (58, .u8 v40), (57, .i ((w64 (j23.2 - s36)))), (56, .i s36), (55, .i j23.2), (54, .s a0)] mixed (by kernel_rfl) rfl rfl (pq tk rfl (.plain rfl) (pq tk rfl (.plain rfl) (pq tk rfl (.plain rfl) (pq tk rfl (.plain rfl) (.run (.plain rfl) (opG_q (ev_sidx rfl rfl ty_string h41)) (pq tk rfl (.plain rfl) (pq tk rfl (.plain rfl) (pq tk rfl (.plain rfl) (pq tk rfl (.plain rfl) (.run (.plain rfl) (opG_q (ev_sidx rfl rfl ty_string h43)) .nil)))))))))) rfl ?_
          refine rn tk 3 rfl ?_
          refine ac 64 hr rfl (fun c44 hr => ?_) (fun c44 hr => ?_)
          ·
           cases hr
          ·
           refine rn tk 8 rfl ?_
           cases hr
           exact atc rfl rfl
         ·
          refine rn tk 2 rfl ?_
          cases hr
          exact ato rfl rfl rfl rfl
        ·
         refine rn tk 15 rfl ?_
         cases hr
         exact ato rfl rfl rfl rfl
      ·
       refine rn tk 2 rfl ?_
       cases hr
       exact ato rfl rfl rfl rfl
     ·
      refine rn tk 12 rfl ?_
      cases hr
      exact kr tk (.inr rfl) rfl rfl
     ·
      refine rn tk 4 rfl ?_
      cases hr
      exact kr tk (.inr rfl) rfl rfl
theorem strings_shouldUseASCIISet_run (a0 : Int) (r : Bool) (hr : strings_shouldUseASCIISet a0 = some r) : Run Try.prog 121 [.i a0] (.bo r) := by
 unfold strings_shouldUseASCIISet at hr
 refine rf (fn := Try.f121) ⟨Try.func121, rfl, by kernel_rfl⟩ rfl (fun _ => rfl) fun g0 hg => ?_
 refine rn tk 13 rfl ?_
 cases hr
 exact kr tk (.inr rfl) rfl rfl
theorem strings_IndexAnyP_run (a0 : Str) (a1 : Str) (r : Int) (hr : strings_IndexAnyP a0 a1 = some r) : Run Try.prog 119 [.s a0, .s a1] (.i r) := by
 unfold strings_IndexAnyP at hr
 refine rf (fn := Try.f119) ⟨Try.func119, rfl, by kernel_rfl⟩ rfl (fun _ => rfl) fun g0 hg => ?_
 refine rn tk 12 rfl ?_
 refine ac 12 hr rfl (fun c1 hr => ?_) (fun c1 hr => ?_)
 ·
  refine rn tk 7 rfl ?_
  cases hr
  exact kr tk (.inr rfl) rfl rfl
 ·
  refine rn tk 10 rfl ?_
  refine ac 15 hr rfl (fun c2 hr => ?_) (fun c2 hr => ?_)
  ·
   refine rn tk 3 rfl ?_
   obtain ⟨v3, h4, hr⟩ := bind_some hr
   refine ws tk h4 rfl rfl rfl rfl ?_
   refine wur tk rfl rfl rfl ?_
   refine rn tk 3 rfl ?_
   refine jb hr (fun j5 => [(0, .s a0), (5, .pv (.b (.int .i32 j5)))]) (fun j5 => []) (fun j5 hr => ?_) (fun j5 hr => ?_)
   ·
    refine rn tk 6 rfl ?_
    refine ac 20 hr rfl (fun c6 hr => ?_) (fun c6 hr => ?_)
    ·
     refine rn tk 3 rfl ?_
     cases hr
     exact jn _ rfl rfl rfl
    ·
     refine rn tk 1 rfl ?_
     cases hr
     exact jn _ rfl rfl rfl
   ·
    refine rn tk 4 rfl ?_
    obtain ⟨v7, h8, hr⟩ := bind_some hr
    refine cl (strings_IndexRune_run _ _ _ h8) rfl rfl ?_
    refine rn tk 5 rfl ?_
    cases hr
    exact kr tk (.inr rfl) rfl rfl
  ·
   refine rn tk 7 rfl ?_
   obtain ⟨v9, h10, hr⟩ := bind_some hr
   refine cl (strings_shouldUseASCIISet_run _ _ h10) rfl rfl ?_
   refine rn tk 2 rfl ?_
   refine ac 26 hr rfl (fun c11 hr => ?_) (fun c11 hr => ?_)
   ·
    refine rn tk 3 rfl ?_
    cases hr
   ·
    refine rn tk 6 rfl ?_
    refine wr 1045 tk rfl rfl rfl rfl ?_
    refine rn tk 3 rfl ?_
    refine al2 hr (fun s12 => [(1, .s a1), (45, .ptr 1045 0)]) (fun s12 => [(1045, .it (strB a0) s12)]) (.exit 2) (fun b13 => []) (fun b13 => []) .ret (fun b14 => [(4, .i b14)]) (fun b14 => []) rfl rfl (fun s12 x16 hr => ?_) (fun b13 hr => ?_) (fun b14 hr => ?_)
    ·
     unfold strings_IndexAnyP_l1 at hr
     refine rn tk 2 rfl ?_
     refine wnx hr rfl rfl rfl (fun c17 hr => ?_) (fun c17 hr => ?_)
     ·
      refine rn tk 20 rfl ?_
      obtain ⟨v18, h19, hr⟩ := bind_some hr
      refine cl (strings_IndexRune_run _ _ _ h19) rfl rfl ?_
      refine rn tk 3 rfl ?_
      refine ac 53 hr rfl (fun c20 hr => ?_) (fun c20 hr => ?_)
      ·
       refine rn tk 8 rfl ?_
       cases hr
       exact ato rfl rfl rfl rfl
      ·
       refine rn tk 2 rfl ?_
       cases hr
       exact atc rfl rfl
     ·
      refine rn tk 7 rfl ?_
      cases hr
      exact ato rfl rfl rfl rfl
    ·
     refine rn tk 8 rfl ?_
     cases hr
     exact kr tk (.inr rfl) rfl rfl
    ·
     refine rn tk 2 rfl ?_
     cases hr
     exact kr tk (.inr rfl) rfl rfl
end Go.Proofs.Ytfhfjckjmacekaa

/- Library functions compute what their Lean functions do. -/
namespace Go.Proofs.Ytfhfjckjmacekaa
open Go.RowKit
set_option maxRecDepth 100000
theorem old_allocL (g : G) (vs : Array Value) (t : TypeId) : Old (fun _ => False) g ⟨g.w.alloc (.cells vs t), fun k => if k = g.w.heap.size then 0 else g.u k, g.loc⟩ := by
  have h := old_alloc g vs t 0 0 (g.loc 0)
  have e : (g.alloc vs t 0 0 (g.loc 0)) = ⟨g.w.alloc (.cells vs t), fun k => if k = g.w.heap.size then 0 else g.u k, g.loc⟩ := by
    unfold G.alloc
    congr 1
    funext k
    split
    · rename_i hk; rw [hk]
    · rfl
  rw [← e]; exact h
theorem wf_allocL {g : G} (h : Wf g) (vs : Array Value) (t : TypeId) : Wf ⟨g.w.alloc (.cells vs t), fun k => if k = g.w.heap.size then 0 else g.u k, g.loc⟩ := by
  intro k hk
  have hk : g.w.heap.size + 1 ≤ k := by simpa using hk
  show (if k = g.w.heap.size then 0 else g.u k) = 0
  rw [if_neg (by omega)]
  exact h k (by omega)
theorem ascii_data {t : Str} (h : asciiL t = true) : ∀ (j : Nat) b, (strB t).data.toList[j]? = some b → b.toNat < 128 := fun j b hb => asciiL_mem h (List.mem_of_getElem? hb)
theorem strings_IndexAny_run (s t : Str) (r : Int) (hr : strings_IndexAny s t = some r) : Run Try.prog 119 [.s s, .s t] (.i r) := by
  unfold strings_IndexAny at hr
  split at hr
  case isFalse => cases hr
  rename_i hc
  obtain ⟨h1, h2, h3, h4⟩ := hc
  by_cases h8 : s.length ≤ 8
  · exact strings_IndexAnyP_run s t r (by rw [IndexAnyP_eq s t h8 h3 h2 h4]; exact hr)
  · cases hr
    refine ⟨⟨_, _, ⟨Try.func119, rfl, by kernel_rfl⟩⟩, fun g vs hw hg ha => ?_⟩
    obtain ⟨hsz, hrel⟩ := ha
    obtain ⟨l⟩ := vs
    match l, hsz with
    | [x, y], _ =>
      obtain rfl := str_arg (hrel 0 _ rfl)
      obtain rfl := str_arg (hrel 1 _ rfl)
      have h116 : (Try.prog.info? 137).map (fun i => (i.zero, i.size)) = some (some (.agg (Array.replicate 256 (.bool false))), 256) := by kernel_rfl
      have hz := (zero_of_info h116).1
      refine callsIn_wide.2 ((Try.strings_IndexAny_long hz (strB s) (strB t) g.w (by rw [strB_size]; exact h3) (by rw [strB_size]; omega) (by rw [strB_size]; exact h1) (by rw [strB_size]; exact h2) (ascii_data h4)).mono ?_)
      rintro e w' ⟨rfl, rfl⟩
      have o1 := old_allocL g (Lib.setCells t) 137
      have w1 := wf_allocL hw (Lib.setCells t) 137
      have o2 := old_allocL ⟨g.w.alloc (.cells (Lib.setCells t) 137), fun k => if k = g.w.heap.size then 0 else g.u k, g.loc⟩ (Lib.setCells t) 137
      have w2 := wf_allocL w1 (Lib.setCells t) 137
      have o3 : Old (fun _ => False) g _ := o1.trans (o2.mono (S' := fun b => False ∨ g.w.heap.size ≤ b) (by intro b _ hf; exact hf.elim))
      exact ⟨⟨_, _, _⟩, _, rfl, (by rfl), o3, w2, (by rfl), .pv (.b rfl)⟩
end Go.Proofs.Ytfhfjckjmacekaa

namespace Go.Proofs.Ytfhfjckjmacekaa
open Go.RowKit
set_option maxRecDepth 100000
set_option maxHeartbeats 40000000
set_option linter.unusedVariables false
theorem strings_ContainsAny_run (a0 : Str) (a1 : Str) (r : Bool) (hr : strings_ContainsAny a0 a1 = some r) : Run Try.prog 118 [.s a0, .s a1] (.bo r) := by
 unfold strings_ContainsAny at hr
 refine rf (fn := Try.f118) ⟨Try.func118, rfl, by kernel_rfl⟩ rfl (fun _ => rfl) fun g0 hg => ?_
 refine rn tk 9 rfl ?_
 obtain ⟨v1, h2, hr⟩ := bind_some hr
 refine cl (strings_IndexAny_run _ _ _ h2) rfl rfl ?_
 refine rn tk 5 rfl ?_
 cases hr
 exact kr tk (.inr rfl) rfl rfl
theorem fold_ends_run (a0 : Str) (r : Bool) (hr : fold_ends a0 = some r) : Run Try.prog 115 [.s a0] (.bo r) := by
 unfold fold_ends at hr
 refine rf (fn := Try.f115) ⟨Try.func115, rfl, by kernel_rfl⟩ rfl (fun _ => rfl) fun g0 hg => ?_
 refine rn tk 8 rfl ?_
 obtain ⟨v1, h2, hr⟩ := bind_some hr
 refine cl (strings_ContainsAny_run _ _ _ h2) rfl rfl ?_
 refine rn tk 4 rfl ?_
 cases hr
 exact kr tk (.inr rfl) rfl rfl
theorem fold_value_run (a0 : Str) (r : Bool) (hr : fold_value a0 = some r) : Run Try.prog 106 [.s a0] (.bo r) := by
 unfold fold_value at hr
 refine rf (fn := Try.f106) ⟨Try.func106, rfl, by kernel_rfl⟩ rfl (fun _ => rfl) fun g0 hg => ?_
 refine rn tk 5 rfl ?_
 refine jb hr (fun j1 => [(2, .bo j1)]) (fun j1 => []) (fun j1 hr => ?_) (fun j1 hr => ?_)
 ·
  refine rn tk 2 rfl ?_
  obtain ⟨v2, h3, hr⟩ := bind_some hr
  refine cl (fold_ends_run _ _ h3) rfl rfl ?_
  refine rn tk 2 rfl ?_
  refine bs 6 hr rfl (fun c4 hr => ?_) (fun c4 hr => ?_)
  ·
   refine rn tk 3 rfl ?_
   refine bs 9 hr rfl (fun c5 hr => ?_) (fun c5 hr => ?_)
   ·
    refine rn tk 17 rfl ?_
    cases hr
    exact jn _ rfl rfl rfl
   ·
    refine rn tk 1 rfl ?_
    obtain ⟨v6, h7, hr⟩ := bind_some hr
    refine ug rfl rfl rfl ?_
    refine ws tk h7 rfl rfl rfl rfl ?_
    obtain ⟨v8, h9, hr⟩ := bind_some hr
    refine ug rfl rfl rfl ?_
    refine cl (basic_Blank_run _ _ h9) rfl rfl ?_
    refine rn tk 2 rfl ?_
    refine bs 14 hr rfl (fun c10 hr => ?_) (fun c10 hr => ?_)
    ·
     refine rn tk 4 rfl ?_
     obtain ⟨v11, h12, hr⟩ := bind_some hr
     refine ug rfl rfl rfl ?_
     refine ws tk h12 rfl rfl rfl rfl ?_
     obtain ⟨v13, h14, hr⟩ := bind_some hr
     refine ug rfl rfl rfl ?_
     refine cl (basic_Blank_run _ _ h14) rfl rfl ?_
     refine rn tk 6 rfl ?_
     cases hr
     exact jn _ rfl rfl rfl
    ·
     refine rn tk 12 rfl ?_
     cases hr
     exact jn _ rfl rfl rfl
  ·
   refine rn tk 20 rfl ?_
   cases hr
   exact jn _ rfl rfl rfl
 ·
  refine rn tk 1 rfl ?_
  cases hr
  exact kr tk (.inr rfl) rfl rfl
theorem fold_Fold_run (a0 : Str) (a1 : Str) (r : (List Str) × TFault) (hr : fold_Fold a0 a1 = some r) : Run Try.prog 88 [.s a0, .s a1] (.tup [.l cS r.1, .agg [.i r.2.Code, .i r.2.Index]]) := by
 unfold fold_Fold at hr
 refine rf (fn := Try.f88) ⟨Try.func88, rfl, by kernel_rfl⟩ rfl (fun _ => rfl) fun g0 hg => ?_
 refine rn tk 11 rfl ?_
 obtain ⟨v1, h2, hr⟩ := bind_some hr
 refine cl (fold_name_run _ _ h2) rfl rfl ?_
 refine rn tk 4 rfl ?_
 refine ac 12 hr rfl (fun c3 hr => ?_) (fun c3 hr => ?_)
 ·
  refine rn tk 2 rfl ?_
  obtain ⟨v4, h5, hr⟩ := bind_some hr
  refine cl (basic_Fault_run _ _ _ h5) rfl rfl ?_
  refine rn tk 7 rfl ?_
  cases hr
  exact kr tk (.inr rfl) rfl rfl
 ·
  refine rn tk 8 rfl ?_
  refine ac 17 hr rfl (fun c6 hr => ?_) (fun c6 hr => ?_)
  ·
   refine rn tk 2 rfl ?_
   obtain ⟨v7, h8, hr⟩ := bind_some hr
   refine cl (basic_Fault_run _ _ _ h8) rfl rfl ?_
   refine rn tk 7 rfl ?_
   cases hr
   exact kr tk (.inr rfl) rfl rfl
  ·
   refine rn tk 3 rfl ?_
   obtain ⟨v9, h10, hr⟩ := bind_some hr
   refine cl (fold_value_run _ _ h10) rfl rfl ?_
   refine rn tk 4 rfl ?_
   refine ac 22 hr rfl (fun c11 hr => ?_) (fun c11 hr => ?_)
   ·
    refine rn tk 2 rfl ?_
    obtain ⟨v12, h13, hr⟩ := bind_some hr
    refine cl (basic_Fault_run _ _ _ h13) rfl rfl ?_
    refine rn tk 7 rfl ?_
    cases hr
    exact kr tk (.inr rfl) rfl rfl
   ·
    refine rn tk 6 rfl ?_
    obtain ⟨v14, h15, hr⟩ := bind_some hr
    refine wc h15 rfl rfl rfl ?_
    refine rn tk 1 rfl ?_
    obtain ⟨v16, h17, hr⟩ := bind_some hr
    refine wc h17 rfl rfl rfl ?_
    refine rn tk 10 rfl ?_
    refine awpl_adopt 1008 (d := 8) 9 1 rfl rfl rfl (hO ?_)
    refine rn tk 4 rfl ?_
    refine al1 hr (fun s18 => [(5, .ptr 5 0), (6, .s s18.1), (7, .i s18.2.1), (8, .hs 1008 0)]) (fun s18 => [(1008, .row 9 false 1 (List.map cS s18.2.2)), (5, .cells [.i 0, .i 0])]) (.exit 1) (fun b19 => [(5, .ptr 5 0), (6, .s b19.1), (8, .hs 1008 0)]) (fun b19 => [(1008, .row 9 false 1 (List.map cS b19.2)), (5, .cells [.i 0, .i 0])]) rfl rfl (fun s18 x20 hr => ?_) (fun b19 hr => ?_)
    ·
     unfold fold_Fold_l1 at hr
     refine rn tk 8 rfl ?_
     refine ac 36 hr rfl (fun c21 hr => ?_) (fun c21 hr => ?_)
     ·
      refine rn tk 7 rfl ?_
      obtain ⟨v22, h23, hr⟩ := bind_some hr
      refine cl (fold_point_run _ _ _ h23) rfl rfl ?_
      refine rn tk 10 rfl ?_
      refine ac 41 hr rfl (fun c24 hr => ?_) (fun c24 hr => ?_)
      ·
       refine rn tk 3 rfl ?_
       cases hr
       exact ato rfl rfl rfl rfl
      ·
       refine rn tk 7 rfl ?_
       obtain ⟨v25, h26, hr⟩ := bind_some hr
       refine wscH tk h26 rfl rfl rfl rfl ?_
       refine wz cS ([v25] : List Str) tk rfl rfl (fun _ => rfl) rfl rfl rfl ?_
       obtain ⟨v27, h28, hr⟩ := bind_some hr
       refine wa tk h28 rfl rfl rfl rfl (fun _ => rfl) rfl rfl ?_
       refine rn tk 6 rfl ?_
       obtain ⟨v29, h30, hr⟩ := bind_some hr
       refine wscL tk h30 rfl rfl rfl rfl ?_
       refine rn tk 4 rfl ?_
       cases hr
       exact atc rfl rfl
     ·
      refine rn tk 2 rfl ?_
      cases hr
      exact ato rfl rfl rfl rfl
    ·
     refine rn tk 6 rfl ?_
     refine wz cS ([b19.1] : List Str) tk rfl rfl (fun _ => rfl) rfl rfl rfl ?_
     obtain ⟨v31, h32, hr⟩ := bind_some hr
     refine wa tk h32 rfl rfl rfl rfl (fun _ => rfl) rfl rfl ?_
     refine rn tk 7 rfl ?_
     refine wnh tk rfl rfl rfl rfl ?_
     refine rn tk 4 rfl ?_
     refine awp_pub (d := 55) (F := cS) (l := v31) rfl rfl (hC ?_)
     refine al2 hr (fun s34 => [(5, .ptr 5 0), (8, .hs 1008 0), (55, .l cS v31), (56, .i ((v31.length : Int))), (57, .i s34)]) (fun s34 => [(1008, .row 9 false 1 (List.map cS v31)), (5, .cells [.i 0, .i 0])]) (.exit 3) (fun b35 => [(5, .ptr 5 0), (8, .hs 1008 0)]) (fun b35 => [(1008, .row 9 false 1 (List.map cS v31)), (5, .cells [.i 0, .i 0])]) .ret (fun b36 => [(4, .l cS b36.1), (5, .ptr 5 0)]) (fun b36 => [(5, .cells [.i b36.2.Code, .i b36.2.Index])]) rfl rfl (fun s34 x38 hr => ?_) (fun b35 hr => ?_) (fun b36 hr => ?_)
     ·
      unfold fold_Fold_l2 at hr
      refine rn tk 6 rfl ?_
      refine ac 58 hr rfl (fun c39 hr => ?_) (fun c39 hr => ?_)
      ·
       refine rn tk 7 rfl ?_
       obtain ⟨v40, h41, hr⟩ := bind_some hr
       refine wi tk h41 rfl rfl rfl rfl rfl ?_
       refine rn tk 12 rfl ?_
       refine ac 64 hr rfl (fun c42 hr => ?_) (fun c42 hr => ?_)
       ·
        refine rn tk 3 rfl ?_
        obtain ⟨v43, h44, hr⟩ := bind_some hr
        refine cl (basic_Fault_run _ _ _ h44) rfl rfl ?_
        refine rn tk 7 rfl ?_
        cases hr
        exact ato rfl rfl rfl rfl
       ·
        refine rn tk 7 rfl ?_
        cases hr
        exact atc rfl rfl
      ·
       refine rn tk 2 rfl ?_
       cases hr
       exact ato rfl rfl rfl rfl
     ·
      refine rn tk 5 rfl ?_
      obtain ⟨v45, h46, hr⟩ := bind_some hr
      refine cl (basic_None_run _ h46) rfl rfl ?_
      refine rn tk 4 rfl ?_
      refine awp_pub (d := 4) (F := cS) (l := v31) rfl rfl (hC ?_)
      refine rn tk 1 rfl ?_
      cases hr
      exact kr tk (.inr rfl) rfl rfl
     ·
      refine rn tk 2 rfl ?_
      cases hr
      exact kr tk (.inr rfl) rfl rfl
theorem header_Validate_run (a0 : List TField) (r : TFault) (hr : header_Validate a0 = some r) : Run Try.prog 67 [.l TField.pc a0] (.agg [.i r.Code, .i r.Index]) := by
 unfold header_Validate at hr
 refine rf (fn := Try.f67) ⟨Try.func67, rfl, by kernel_rfl⟩ rfl (fun _ => rfl) fun g0 hg => ?_
 refine rn tk 9 rfl ?_
 refine wn tk rfl rfl rfl ?_
 refine rn tk 3 rfl ?_
 refine ac 9 hr rfl (fun c1 hr => ?_) (fun c1 hr => ?_)
 ·
  refine rn tk 2 rfl ?_
  obtain ⟨v2, h3, hr⟩ := bind_some hr
  refine cl (basic_Fault_run _ _ _ h3) rfl rfl ?_
  refine rn tk 5 rfl ?_
  cases hr
  exact kr tk (.inr rfl) rfl rfl
 ·
  refine rn tk 6 rfl ?_
  refine wn tk rfl rfl rfl ?_
  refine rn tk 4 rfl ?_
  refine al2 hr (fun s4 => [(2, .ptr 2 0), (11, .l TField.pc a0), (12, .i ((a0.length : Int))), (13, .i s4)]) (fun s4 => [(2, .cells [.i 0, .i 0])]) (.exit 0) (fun b5 => [(2, .ptr 2 0)]) (fun b5 => [(2, .cells [.i 0, .i 0])]) .ret (fun b6 => [(2, .ptr 2 0)]) (fun b6 => [(2, .cells [.i b6.Code, .i b6.Index])]) rfl rfl (fun s4 x8 hr => ?_) (fun b5 hr => ?_) (fun b6 hr => ?_)
  ·
   unfold header_Validate_l1 at hr
   refine rn tk 6 rfl ?_
   refine ac 14 hr rfl (fun c9 hr => ?_) (fun c9 hr => ?_)
   ·
    refine rn tk 7 rfl ?_
    obtain ⟨v10, h11, hr⟩ := bind_some hr
    refine wi tk h11 rfl rfl rfl rfl rfl ?_
    refine rn tk 12 rfl ?_
    obtain ⟨v12, h13, hr⟩ := bind_some hr
    refine cl (fold_Fold_run _ _ _ h13) rfl rfl ?_
    refine rn tk 11 rfl ?_
    obtain ⟨v14, h15, hr⟩ := bind_some hr
    refine cl (basic_Failed_run _ _ h15) rfl rfl ?_
    refine rn tk 2 rfl ?_
    refine ac 27 hr rfl (fun c16 hr => ?_) (fun c16 hr => ?_)
    ·
     refine rn tk 5 rfl ?_
     obtain ⟨v17, h18, hr⟩ := bind_some hr
     refine cl (basic_Fault_run _ _ _ h18) rfl rfl ?_
     refine rn tk 6 rfl ?_
     cases hr
     exact ato rfl rfl rfl rfl
    ·
     refine rn tk 7 rfl ?_
     cases hr
     exact atc rfl rfl
   ·
    refine rn tk 2 rfl ?_
    cases hr
    exact ato rfl rfl rfl rfl
  ·
   refine rn tk 4 rfl ?_
   obtain ⟨v19, h20, hr⟩ := bind_some hr
   refine cl (basic_None_run _ h20) rfl rfl ?_
   refine rn tk 4 rfl ?_
   cases hr
   exact kr tk (.inr rfl) rfl rfl
  ·
   refine rn tk 2 rfl ?_
   cases hr
   exact kr tk (.inr rfl) rfl rfl
theorem basic_Body_run (a0 : List UInt8) (r : Int) (hr : basic_Body a0 = some r) : Run Try.prog 89 [.l cU a0] (.i r) := by
 unfold basic_Body at hr
 refine rf (fn := Try.f89) ⟨Try.func89, rfl, by kernel_rfl⟩ rfl (fun _ => rfl) fun g0 hg => ?_
 refine rn tk 17 rfl ?_
 refine al2 hr (fun s1 => [(0, .l cU a0), (3, .i s1.1), (4, .i s1.2)]) (fun s1 => []) (.exit 0) (fun b2 => []) (fun b2 => []) .ret (fun b3 => [(2, .i b3)]) (fun b3 => []) rfl rfl (fun s1 x5 hr => ?_) (fun b2 hr => ?_) (fun b3 hr => ?_)
 ·
  unfold basic_Body_l1 at hr
  refine rn tk 5 rfl ?_
  refine wn tk rfl rfl rfl ?_
  refine rn tk 3 rfl ?_
  refine ac 9 hr rfl (fun c6 hr => ?_) (fun c6 hr => ?_)
  ·
   refine rn tk 2 rfl ?_
   refine jk (fun j7 => [(0, .l cU a0), (3, .i j7.1), (4, .i j7.2)]) (fun j7 => []) (fun j7 => basic_Body_k2  j7 = some x5) ?_ ?_
   ·
    refine rn tk 5 rfl ?_
    obtain ⟨v8, h9, hr⟩ := bind_some hr
    refine wi tk h9 rfl rfl rfl rfl rfl ?_
    refine rn tk 5 rfl ?_
    refine jb hr (fun j10 => [(0, .l cU a0), (3, .i s1.1), (4, .i s1.2), (5, .u8 v8), (32, .bo j10)]) (fun j10 => []) (fun j10 hr => ?_) (fun j10 hr => ?_)
    ·
     refine rn tk 4 rfl ?_
     refine bs 18 hr rfl (fun c11 hr => ?_) (fun c11 hr => ?_)
     ·
      refine rn tk 3 rfl ?_
      refine ug rfl rfl rfl ?_
      refine wn tk rfl rfl rfl ?_
      refine rn tk 3 rfl ?_
      refine bs 25 hr rfl (fun c12 hr => ?_) (fun c12 hr => ?_)
      ·
       refine rn tk 3 rfl ?_
       obtain ⟨v13, h14, hr⟩ := bind_some hr
       refine ug rfl rfl rfl ?_
       refine wi tk h14 rfl rfl rfl rfl rfl ?_
       refine rn tk 4 rfl ?_
       cases hr
       exact jn _ rfl rfl rfl
      ·
       refine rn tk 8 rfl ?_
       cases hr
       exact jn _ rfl rfl rfl
     ·
      refine rn tk 15 rfl ?_
      cases hr
      exact jn _ rfl rfl rfl
    ·
     refine ac 32 hr rfl (fun c15 hr => ?_) (fun c15 hr => ?_)
     ·
      refine rn tk 15 rfl ?_
      exact jn ((0, (w64 (s1.2 + 1)))) hr rfl rfl
     ·
      refine rn tk 3 rfl ?_
      refine jb hr (fun j16 => [(0, .l cU a0), (3, .i s1.1), (4, .i s1.2), (40, .bo j16)]) (fun j16 => []) (fun j16 hr => ?_) (fun j16 hr => ?_)
      ·
       refine rn tk 4 rfl ?_
       refine bs 37 hr rfl (fun c17 hr => ?_) (fun c17 hr => ?_)
       ·
        refine rn tk 4 rfl ?_
        cases hr
        exact jn _ rfl rfl rfl
       ·
        refine rn tk 4 rfl ?_
        cases hr
        exact jn _ rfl rfl rfl
      ·
       refine ac 40 hr rfl (fun c18 hr => ?_) (fun c18 hr => ?_)
       ·
        refine rn tk 9 rfl ?_
        cases hr
        exact ato rfl rfl rfl rfl
       ·
        refine rn tk 15 rfl ?_
        refine ac 44 hr rfl (fun c19 hr => ?_) (fun c19 hr => ?_)
        ·
         refine rn tk 8 rfl ?_
         cases hr
         exact ato rfl rfl rfl rfl
        ·
         refine rn tk 2 rfl ?_
         exact jn (((w64 (s1.1 + 1)), s1.2)) hr rfl rfl
   ·
    intro j7 hr
    unfold basic_Body_k2 at hr
    refine rn tk 5 rfl ?_
    cases hr
    exact atc rfl rfl
  ·
   refine rn tk 2 rfl ?_
   cases hr
   exact ato rfl rfl rfl rfl
 ·
  refine rn tk 8 rfl ?_
  cases hr
  exact kr tk (.inr rfl) rfl rfl
 ·
  refine rn tk 2 rfl ?_
  cases hr
  exact kr tk (.inr rfl) rfl rfl
theorem message_body_run (a0 : List UInt8) (r : TFault) (hr : message_body a0 = some r) : Run Try.prog 69 [.l cU a0] (.agg [.i r.Code, .i r.Index]) := by
 unfold message_body at hr
 refine rf (fn := Try.f69) ⟨Try.func69, rfl, by kernel_rfl⟩ rfl (fun _ => rfl) fun g0 hg => ?_
 refine rn tk 9 rfl ?_
 obtain ⟨v1, h2, hr⟩ := bind_some hr
 refine cl (basic_Body_run _ _ h2) rfl rfl ?_
 refine rn tk 9 rfl ?_
 refine ac 5 hr rfl (fun c3 hr => ?_) (fun c3 hr => ?_)
 ·
  refine rn tk 2 rfl ?_
  obtain ⟨v4, h5, hr⟩ := bind_some hr
  refine cl (basic_Fault_run _ _ _ h5) rfl rfl ?_
  refine rn tk 6 rfl ?_
  cases hr
  exact kr tk (.inr rfl) rfl rfl
 ·
  refine rn tk 6 rfl ?_
  refine ac 8 hr rfl (fun c6 hr => ?_) (fun c6 hr => ?_)
  ·
   refine rn tk 2 rfl ?_
   obtain ⟨v7, h8, hr⟩ := bind_some hr
   refine cl (basic_Fault_run _ _ _ h8) rfl rfl ?_
   refine rn tk 6 rfl ?_
   cases hr
   exact kr tk (.inr rfl) rfl rfl
  ·
   refine rn tk 5 rfl ?_
   obtain ⟨v9, h10, hr⟩ := bind_some hr
   refine cl (basic_None_run _ h10) rfl rfl ?_
   refine rn tk 4 rfl ?_
   cases hr
   exact kr tk (.inr rfl) rfl rfl
end Go.Proofs.Ytfhfjckjmacekaa

/- Part 2 of the proof of the law RoutesHostsOnce: what it needs. -/
import Derived.Test.YtpclhpncmlbccaaKRoutesHostsOnce1
import Derived.Lib.ItoaMem
import Derived.Lib.Atoi
import Derived.Laws.RangeAny
import Derived.Lib.SplitLaws
import Derived.Test.YtpclhpncmlbccaaShelf
set_option linter.unusedVariables false
set_option linter.unusedSimpArgs false
/- Elements that go from a list in place (slices.DeleteFunc), in general. No program is named. -/
namespace Go.Proofs.Ytpclhpncmlbccaa
open Go.RowKit
set_option linter.unusedVariables false
theorem clr0_takeG {α : Type} (L : List α) (n : Nat) (z : α) (h : n ≤ L.length) : (clr0 L n z).take n = L.take n := by
  unfold clr0
  rw [List.take_append_of_le_length (by simp; omega), List.take_take, Nat.min_self]
theorem firstI_not {α : Type} (keep : α → Bool) : ∀ (r : List α) (n : Nat) (j : Int), firstI (fun i x => if !keep x then some ((i : Nat) : Int) else none) n r = some j → ∃ m : Nat, j = ((n + m : Nat) : Int) ∧ ∃ x, r[m]? = some x ∧ keep x = false ∧ ∀ y ∈ r.take m, keep y = true := by
  intro r
  induction r with
  | nil => intro n j hj; cases hj
  | cons y r ih =>
    intro n j hj
    unfold firstI at hj
    cases hy : keep y with
    | false => rw [hy] at hj; simp at hj; exact ⟨0, by omega, y, rfl, hy, by simp⟩
    | true =>
      rw [hy] at hj
      simp only [Bool.not_true, Bool.false_eq_true, if_false] at hj
      obtain ⟨m, h1, x, h2, h3, h4⟩ := ih (n + 1) j hj
      refine ⟨m + 1, by omega, x, by simpa using h2, h3, fun z hz => ?_⟩
      rw [List.take_succ_cons] at hz
      rcases List.mem_cons.1 hz with rfl | hz
      · exact hy
      · exact h4 z hz
theorem del_eq {α : Type} (keep : α → Bool) (L : List α) (z : α) (hl : L.length ≤ 1048576) {b1 : Int → Option (Step Int (Unit ⊕ Int))} {b2 : Int × Int × List α → Option (Step (Int × Int × List α) (Int × List α))}
    (h10 : b1 (L.length : Int) = some (.out (.inl ()))) (h11 : ∀ (i : Nat) x, L[i]? = some x → b1 (i : Int) = some (bif keep x then .cont ((i + 1 : Nat) : Int) else .out (.inr (i : Int))))
    (h20 : ∀ i M, M.length = L.length → b2 (i, (L.length : Int), M) = some (.out (i, M)))
    (h21 : ∀ (i k : Nat) (M : List α) x, M.length = L.length → M[k]? = some x → i < k → b2 ((i : Int), (k : Int), M) = some (.cont (bif keep x then (((i + 1 : Nat) : Int), ((k + 1 : Nat) : Int), M.set i x) else ((i : Int), ((k + 1 : Nat) : Int), M)))) :
    (((iter b1 0).bind (Sum.elim (fun b8 => some ((-1))) (fun b9 => some b9)) : Option Int).bind fun (j6 : Int) => (bif (j6 == (-1)) then some L else (iter b2 ((j6, (w64 (j6 + 1)), L))).bind fun b20 => (cut b20.2 b20.1 (b20.2.length : Int)).bind fun v33 => (cut ((clr0 b20.2 (Int.toNat b20.1) z)) 0 b20.1).bind fun v35 => some v35)) = some (L.filter keep) := by
  have hl1 : iter b1 0 = some ((firstI (fun i x => if !keep x then some ((i : Nat) : Int) else none) 0 L).elim (.inl ()) .inr) := by
    refine iter_first L _ (Sum.inl ()) Sum.inr h10 ?_
    intro i r hr
    rw [h11 i r hr]
    cases keep r <;> rfl
  rw [hl1]
  simp only [Option.bind_some, elim_idx]
  cases hf : firstI (fun i x => if !keep x then some ((i : Nat) : Int) else none) 0 L with
  | none =>
    rw [firstI_none] at hf
    have hall : L.filter keep = L := by
      rw [List.filter_eq_self]
      intro x hx
      obtain ⟨i, hi⟩ := List.mem_iff_getElem?.1 hx
      have := hf i x hi
      cases hq : keep x with
      | true => rfl
      | false => rw [hq] at this; simp at this
    rw [hall]; rfl
  | some j =>
    obtain ⟨j, rfl, x, hx, hxq, hbefore⟩ : ∃ n : Nat, j = (n : Int) ∧ ∃ x, L[n]? = some x ∧ keep x = false ∧ ∀ y ∈ L.take n, keep y = true := by
      obtain ⟨m, h1, h2⟩ := firstI_not keep L 0 j hf
      exact ⟨m, by omega, h2⟩
    have hjl := lt_get hx
    have hne : (((j : Nat) : Int) == -1) = false := by rw [beq_eq_false_iff_ne]; omega
    simp only [Option.getD_some, hne, cond_false, sc j (by omega)]
    have hdl : ∀ (r : List α) (i k : Nat) (M : List α), M.length = L.length → M.drop k = r → i < k → k ≤ M.length → ∃ L', iter b2 ((i : Int), (k : Int), M) = some (((i + (r.filter keep).length : Nat) : Int), L') ∧ L'.length = L.length ∧ L'.take (i + (r.filter keep).length) = M.take i ++ r.filter keep := by
      intro r
      induction r with
      | nil =>
        intro i k M hM hd hik hk
        have hkl : k = M.length := by
          have := congrArg List.length hd
          simp at this; omega
        refine ⟨M, ?_, hM, by simp⟩
        rw [hkl, hM]
        simpa using iter_out (h20 i M hM)
      | cons y r ih =>
        intro i k M hM hd hik hk
        have hlt : k < M.length := by
          have := congrArg List.length hd
          simp at this; omega
        have hy : M[k]? = some y := by
          have := List.getElem?_drop (xs := M) (i := k) (j := 0)
          rw [hd] at this
          simpa using this.symm
        have hd' : M.drop (k + 1) = r := by
          have := congrArg (List.drop 1) hd
          simpa [List.drop_drop, Nat.add_comm] using this
        have hs := h21 i k M y hM hy hik
        cases hq : keep y with
        | false =>
          rw [hq, cond_false] at hs
          obtain ⟨L', q1, q2, q3⟩ := ih i (k + 1) M hM hd' (by omega) (by omega)
          refine ⟨L', (iter_cont hs).trans ?_, q2, ?_⟩
          · simpa [hq] using q1
          · simpa [hq] using q3
        | true =>
          rw [hq, cond_true] at hs
          have hdr : (M.set i y).drop (k + 1) = r := by
            rw [List.drop_set_of_lt (by omega)]; exact hd'
          obtain ⟨L', q1, q2, q3⟩ := ih (i + 1) (k + 1) (M.set i y) (by simpa using hM) hdr (by omega) (by simp; omega)
          have hfl : ((y :: r).filter keep) = y :: r.filter keep := by simp [hq]
          refine ⟨L', (iter_cont hs).trans ?_, q2, ?_⟩
          · rw [hfl, q1]; simp only [List.length_cons]; congr 2; omega
          · rw [hfl]
            have e : i + (y :: r.filter keep).length = i + 1 + (r.filter keep).length := by simp; omega
            rw [e, q3]
            have : (M.set i y).take (i + 1) = M.take i ++ [y] := by
              rw [List.take_add_one]
              have h5 : (M.set i y)[i]? = some y := List.getElem?_set_self (by omega)
              rw [h5, List.take_set_of_le (Nat.le_refl _)]; rfl
            rw [this]; simp
    obtain ⟨L', q1, q2, q3⟩ := hdl (L.drop (j + 1)) j (j + 1) L rfl rfl (by omega) (by omega)
    rw [q1]
    simp only [Option.bind_some]
    have hfil : L.filter keep = L.take j ++ (L.drop (j + 1)).filter keep := by
      conv => lhs; rw [← List.take_append_drop j L, List.filter_append]
      have h5 : (L.take j).filter keep = L.take j := List.filter_eq_self.2 hbefore
      have h6 : L.drop j = x :: L.drop (j + 1) := by
        rw [List.drop_eq_getElem_cons hjl]
        congr 1
        rw [List.getElem?_eq_getElem hjl] at hx
        exact Option.some.inj hx
      rw [h5, h6, List.filter_cons, hxq]; simp
    have hlen : j + ((L.drop (j + 1)).filter keep).length ≤ L'.length := by
      rw [q2]
      have := List.length_filter_le keep (L.drop (j + 1))
      simp at this; omega
    rw [cut_nl hlen]
    simp only [Option.bind_some, Int.toNat_natCast]
    rw [cut_0n (by unfold clr0; simp; omega), clr0_takeG _ _ _ hlen, q3, hfil]
    rfl
end Go.Proofs.Ytpclhpncmlbccaa

/- Routes: the plain functions, and what the typed functions compute (patterns, faults, matching). -/
namespace Go.Proofs.Ytpclhpncmlbccaa
open Go.RowKit
set_option linter.unusedVariables false
set_option maxHeartbeats 1000000
def smallRt (l : List TRoute) : Prop := l.length ≤ 1048600 ∧ ∀ x ∈ l, x.Pattern.length ≤ 1048576 ∧ x.Host.length ≤ 1048576
theorem domP_star (r : Str) : domP (42 :: r) = false := by
  have : smallC 42 = false := by decide
  simp [domP, this]
def patP (s : Str) : Bool := s == [42] || (([42, 46] : Str).isPrefixOf s && domP (s.drop 2)) || domP s
theorem routes_pattern_eq (s : Str) (hs : s.length ≤ 1048576) : routes_pattern s = some (patP s) := by
  unfold routes_pattern patP strings_CutPrefix Lib.trimPrefix Lib.hasPrefix
  simp only [Option.bind_some]
  rw [envelope_Domain_eq s (by omega)]
  cases ([42, 46] : Str).isPrefixOf s with
  | false => cases (s == [42]) <;> simp
  | true =>
    simp only [if_true, show ([42, 46] : Str).length = 2 from rfl]
    rw [envelope_Domain_eq (s.drop 2) (by simp; omega)]
    cases (s == [42]) <;> cases domP (s.drop 2) <;> simp
def routQ (i : Nat) (x : TRoute) : Option TFault :=
  if !patP x.Pattern || !domP x.Host then some ⟨10, i⟩ else if !(decide (0 ≤ x.Preference) && decide (x.Preference ≤ 1000000)) then some ⟨3, i⟩ else none
def routF (l : List TRoute) : TFault := if 40 < l.length then ⟨2, -1⟩ else (firstI routQ 0 l).getD ⟨0, 0⟩
theorem routes_Validate_eq (l : List TRoute) (hl : smallRt l) : routes_Validate l = some (routF l) := by
  unfold routes_Validate routF
  by_cases h40 : 40 < l.length
  · rw [decide_eq_true (show (40 : Int) < (l.length : Int) by omega), if_pos h40]; rfl
  · rw [decide_eq_false (show ¬ (40 : Int) < (l.length : Int) by omega), if_neg h40]
    simp only [cond_false]
    rw [iter_first l routQ (.inl ()) .inr]
    · simp only [Option.bind_some]
      cases firstI routQ 0 l <;> rfl
    · unfold routes_Validate_l1; rw [dec_len]; rfl
    · intro i a ha
      have hi := lt_get ha
      obtain ⟨h1, h2⟩ := hl.2 a (List.mem_of_getElem? ha)
      have h0 := hl.1
      unfold routes_Validate_l1 routQ
      rw [dec_lt ha, idx_get ha]
      simp only [cond_true, Option.bind_some, routes_pattern_eq _ h1, envelope_Domain_eq a.Host (by omega), sc i (by omega), basic_Fault_eq]
      have e1 : decide (a.Preference < 0) = !decide (0 ≤ a.Preference) := by rw [Bool.eq_iff_iff]; simp
      have e2 : decide ((1000000 : Int) < a.Preference) = !decide (a.Preference ≤ 1000000) := by rw [Bool.eq_iff_iff]; simp
      rw [e1, e2]
      cases patP a.Pattern <;> cases domP a.Host <;> cases decide (0 ≤ a.Preference) <;> cases decide (a.Preference ≤ 1000000) <;> rfl
structure RoutOk (l : List TRoute) : Prop where
  n : l.length ≤ 40
  pat : ∀ x ∈ l, patP x.Pattern = true
  host : ∀ x ∈ l, domP x.Host = true
  pr : PrAll l
theorem routF_ok {l : List TRoute} (h : (routF l).Code = 0) : RoutOk l ∧ routF l = ⟨0, 0⟩ := by
  unfold routF at h ⊢
  by_cases h40 : 40 < l.length
  · rw [if_pos h40] at h; cases h
  · rw [if_neg h40] at h ⊢
    cases hf : firstI routQ 0 l with
    | some f =>
      exfalso
      rw [hf] at h
      obtain ⟨i, x, _, h2⟩ := firstI_some hf
      unfold routQ at h2
      simp only [Option.getD_some] at h
      split at h2
      · cases h2; cases h
      · split at h2
        · cases h2; cases h
        · cases h2
    | none =>
      rw [firstI_none] at hf
      have key : ∀ x ∈ l, patP x.Pattern = true ∧ domP x.Host = true ∧ PrOk x := by
        intro x hx
        obtain ⟨i, hi⟩ := List.mem_iff_getElem?.1 hx
        have := hf i x hi
        unfold routQ at this
        split at this
        · cases this
        · rename_i h1
          split at this
          · cases this
          · rename_i h2
            simp at h1 h2
            exact ⟨h1.1, h1.2, h2⟩
      exact ⟨⟨by omega, fun x hx => (key x hx).1, fun x hx => (key x hx).2.1, fun x hx => (key x hx).2.2⟩, rfl⟩
/-! ### matching -/
def matchP (p d : Str) : Bool := (([42] : Str).isPrefixOf p && (p.drop 1).isSuffixOf d) || p == d
theorem routes_matches_eq (p d : Str) (hp : p.length ≤ 1048576) (hd : d.length ≤ 1048576) : routes_matches p d = some (matchP p d) := by
  unfold routes_matches matchP strings_CutPrefix Lib.trimPrefix Lib.hasPrefix
  simp only [Option.bind_some]
  cases ([42] : Str).isPrefixOf p with
  | false => simp
  | true =>
    simp only [if_true, show ([42] : Str).length = 1 from rfl]
    rw [strings_HasSuffix_eq d _ (by omega)]
    cases (p.drop 1).isSuffixOf d <;> simp
/-- the wild names that a domain may go by, the longest first -/
def wildT : Str → List Str
  | [] => [[42]]
  | c :: r => if c = 46 then (42 :: c :: r) :: wildT r else wildT r
def triesP (d : Str) : List Str := d :: wildT d
def hasPt (l : List TRoute) (t : Str) : Bool := l.any fun x => x.Pattern == t
def bestP (l : List TRoute) (d : Str) : Str := ((triesP d).find? (hasPt l)).getD []
theorem wild_len : ∀ {d t : Str}, t ∈ wildT d → t.length ≤ d.length + 1
  | [], t, h => by simp [wildT] at h; subst h; simp
  | c :: r, t, h => by
    unfold wildT at h
    split at h
    · rcases List.mem_cons.1 h with rfl | h
      · simp
      · have := wild_len h; simp; omega
    · have := wild_len h; simp; omega
theorem wild_dec : ∀ d : Str, (wildT d).Pairwise (fun x y => y.length < x.length)
  | [] => by simp [wildT]
  | c :: r => by
    unfold wildT
    split
    · refine List.pairwise_cons.2 ⟨fun t ht => ?_, wild_dec r⟩
      have := wild_len ht; simp; omega
    · exact wild_dec r
theorem wild_is : ∀ {d t : Str}, t ∈ wildT d ↔ t = [42] ∨ ∃ r, t = 42 :: 46 :: r ∧ (46 :: r) <:+ d
  | [], t => by
    simp only [wildT, List.mem_singleton]
    constructor
    · exact .inl
    · rintro (h | ⟨r, rfl, h⟩)
      · exact h
      · have := h.length_le; simp at this
  | c :: d, t => by
    unfold wildT
    split
    · rename_i h; subst h
      rw [List.mem_cons, wild_is]
      constructor
      · rintro (rfl | h | ⟨r, rfl, h⟩)
        · exact .inr ⟨d, rfl, List.suffix_refl _⟩
        · exact .inl h
        · exact .inr ⟨r, rfl, h.trans (List.suffix_cons _ _)⟩
      · rintro (h | ⟨r, rfl, h⟩)
        · exact .inr (.inl h)
        · rcases List.suffix_cons_iff.1 h with h | h
          · cases h; exact .inl rfl
          · exact .inr (.inr ⟨r, rfl, h⟩)
    · rename_i hc
      rw [wild_is]
      constructor
      · rintro (h | ⟨r, rfl, h⟩)
        · exact .inl h
        · exact .inr ⟨r, rfl, h.trans (List.suffix_cons _ _)⟩
      · rintro (h | ⟨r, rfl, h⟩)
        · exact .inl h
        · rcases List.suffix_cons_iff.1 h with h | h
          · cases h; exact absurd rfl hc
          · exact .inr ⟨r, rfl, h⟩
/-- what matches is one of the tries -/
theorem match_tries {p d : Str} (hp : patP p = true) (hm : matchP p d = true) : p ∈ triesP d := by
  unfold triesP
  unfold matchP at hm
  by_cases he : p = d
  · exact List.mem_cons.2 (.inl he)
  · have h1 : (p == d) = false := beq_eq_false_iff_ne.2 he
    rw [h1, Bool.or_false, Bool.and_eq_true] at hm
    obtain ⟨h2, h3⟩ := hm
    rw [List.mem_cons]
    refine .inr (wild_is.2 ?_)
    have hs := List.isSuffixOf_iff_suffix.1 h3
    match p, h2 with
    | 42 :: r, _ =>
      unfold patP at hp
      rw [domP_star, Bool.or_false, Bool.or_eq_true] at hp
      rcases hp with hp | hp
      · exact .inl (beq_iff_eq.1 hp)
      · rw [Bool.and_eq_true] at hp
        have h4 := List.isPrefixOf_iff_prefix.1 hp.1
        obtain ⟨q, hq⟩ := h4
        have : r = 46 :: q := by simpa using hq.symm
        subst this
        exact .inr ⟨q, rfl, hs⟩
    | a :: r, h2 =>
      simp [List.isPrefixOf] at h2
      subst h2
      unfold patP at hp
      rw [domP_star, Bool.or_false, Bool.or_eq_true] at hp
      rcases hp with hp | hp
      · exact .inl (beq_iff_eq.1 hp)
      · rw [Bool.and_eq_true] at hp
        have h4 := List.isPrefixOf_iff_prefix.1 hp.1
        obtain ⟨q, hq⟩ := h4
        have : r = 46 :: q := by simpa using hq.symm
        subst this
        exact .inr ⟨q, rfl, hs⟩
theorem tries_match {p d : Str} (h : p ∈ triesP d) : matchP p d = true := by
  unfold matchP
  rcases List.mem_cons.1 h with rfl | h
  · simp
  · rcases wild_is.1 h with rfl | ⟨r, rfl, hs⟩
    · simp [List.isPrefixOf]
    · simp [List.isPrefixOf, List.isSuffixOf_iff_suffix, hs]
theorem find_longest {q : Str → Bool} {b : Str} : ∀ {W : List Str}, W.Pairwise (fun x y => y.length < x.length) → b ∈ W → q b = true → (∀ t ∈ W, q t = true → t.length ≤ b.length) → W.find? q = some b
  | x :: W, hw, hb, hq, hmax => by
    obtain ⟨h1, h2⟩ := List.pairwise_cons.1 hw
    rcases List.mem_cons.1 hb with rfl | hb
    · simp [List.find?, hq]
    · have hx : q x = false := by
        cases hqx : q x with
        | false => rfl
        | true =>
          have := hmax x (by simp) hqx
          have := h1 b hb
          omega
      rw [List.find?_cons, hx]
      exact find_longest h2 hb hq (fun t ht => hmax t (by simp [ht]))
theorem routes_best_eq (l : List TRoute) (d : Str) (hl : smallRt l) (hd : d.length ≤ 1048576) (hok : ∀ x ∈ l, patP x.Pattern = true) : routes_best l d = some (bestP l d) := by
  have hn := hl.1
  have loop : ∀ r p b, l = p ++ r → (∀ x ∈ p, x.Pattern ≠ d) → (b = [] ∨ ∃ x ∈ p, x.Pattern = b ∧ matchP b d = true) → (∀ x ∈ p, matchP x.Pattern d = true → x.Pattern.length ≤ b.length) →
      ∃ o, iter (routes_best_l1 l d) (b, (p.length : Int)) = some o ∧ ((o = .inr d ∧ hasPt l d = true) ∨ ∃ b, o = .inl b ∧ (∀ x ∈ l, x.Pattern ≠ d) ∧ (b = [] ∨ ∃ x ∈ l, x.Pattern = b ∧ matchP b d = true) ∧ (∀ x ∈ l, matchP x.Pattern d = true → x.Pattern.length ≤ b.length)) := by
    intro r
    induction r with
    | nil =>
      intro p b h h1 h2 h3
      obtain rfl : l = p := by simpa using h
      refine ⟨.inl b, iter_out ?_, .inr ⟨b, rfl, h1, h2, h3⟩⟩
      unfold routes_best_l1
      dsimp only
      rw [dec_len]; rfl
    | cons x r ih =>
      intro p b h h1 h2 h3
      have hx : l[p.length]? = some x := by rw [h]; simp
      have hi := lt_get hx
      have hsm := hl.2 x (List.mem_of_getElem? hx)
      by_cases hxd : x.Pattern = d
      · refine ⟨.inr d, iter_out ?_, .inl ⟨rfl, ?_⟩⟩
        · unfold routes_best_l1
          dsimp only
          rw [dec_lt hx, idx_get hx]
          simp [hxd]
        · unfold hasPt; rw [List.any_eq_true]; exact ⟨x, List.mem_of_getElem? hx, by simp [hxd]⟩
      · have hbody : routes_best_l1 l d (b, (p.length : Int)) = some (.cont ((if matchP x.Pattern d = true ∧ b.length < x.Pattern.length then x.Pattern else b), ((p.length + 1 : Nat) : Int))) := by
          unfold routes_best_l1 routes_best_k2
          dsimp only
          have e : (x.Pattern == d) = false := beq_eq_false_iff_ne.2 hxd
          have e2 : decide ((b.length : Int) < (x.Pattern.length : Int)) = decide (b.length < x.Pattern.length) := by congr 1; apply propext; omega
          rw [dec_lt hx, idx_get hx]
          simp only [cond_true, Option.bind_some, e, cond_false, routes_matches_eq _ _ hsm.1 hd, sc _ (show p.length < 9223372036854775807 by omega), e2]
          cases hm : matchP x.Pattern d with
          | false => simp
          | true => by_cases hlt : b.length < x.Pattern.length <;> simp [hlt]
        rw [iter_cont hbody]
        have := ih (p ++ [x]) (if matchP x.Pattern d = true ∧ b.length < x.Pattern.length then x.Pattern else b) (by simp [h]) (by
          intro y hy
          rcases List.mem_append.1 hy with hy | hy
          · exact h1 y hy
          · rw [List.mem_singleton.1 hy]; exact hxd) (by
          split
          · rename_i hc; exact .inr ⟨x, by simp, rfl, hc.1⟩
          · rcases h2 with h2 | ⟨y, hy, h4⟩
            · exact .inl h2
            · exact .inr ⟨y, by simp [hy], h4⟩) (by
          intro y hy hym
          rcases List.mem_append.1 hy with hy | hy
          · have := h3 y hy hym
            split
            · rename_i hc; omega
            · exact this
          · rw [List.mem_singleton.1 hy] at hym ⊢
            split
            · omega
            · rename_i hc
              by_cases hlt : b.length < x.Pattern.length
              · exact absurd ⟨hym, hlt⟩ hc
              · omega)
        simpa using this
  obtain ⟨o, ho, hc⟩ := loop l [] [] rfl (by simp) (.inl rfl) (by simp)
  unfold routes_best
  rw [show iter (routes_best_l1 l d) (([] : Str), 0) = some o from ho]
  simp only [Option.bind_some]
  unfold bestP triesP
  rcases hc with ⟨rfl, hd'⟩ | ⟨b, rfl, h1, h2, h3⟩
  · rw [List.find?_cons, hd']; rfl
  · have hnd : hasPt l d = false := by
      unfold hasPt; rw [List.any_eq_false]; intro x hx; simp [h1 x hx]
    rw [List.find?_cons, hnd]
    have hmax : ∀ t ∈ wildT d, hasPt l t = true → t.length ≤ b.length := by
      intro t ht hh
      unfold hasPt at hh
      obtain ⟨x, hx, he⟩ := List.any_eq_true.1 hh
      rw [beq_iff_eq] at he
      have := h3 x hx (by rw [he]; exact tries_match (by unfold triesP; simp [ht]))
      rw [he] at this; exact this
    rcases h2 with rfl | ⟨x, hx, rfl, hm⟩
    · have : (wildT d).find? (hasPt l) = none := by
        rw [List.find?_eq_none]
        intro t ht hh
        have := hmax t ht hh
        rcases wild_is.1 ht with rfl | ⟨r, rfl, _⟩
        · simp at this
        · simp at this
      rw [this]; rfl
    · have hw : x.Pattern ∈ wildT d := by
        rcases List.mem_cons.1 (match_tries (hok x hx) hm) with h | h
        · exact absurd h (h1 x hx)
        · exact h
      rw [find_longest (wild_dec d) hw (by unfold hasPt; rw [List.any_eq_true]; exact ⟨x, hx, by simp⟩) hmax]
      rfl
end Go.Proofs.Ytpclhpncmlbccaa

/- Numerals: strconv.Itoa, the reference's Digits and Fill, dates.pad. -/
namespace Go.Proofs.Ytpclhpncmlbccaa
open Go.RowKit
set_option linter.unusedVariables false
set_option maxHeartbeats 1000000
end Go.Proofs.Ytpclhpncmlbccaa

/- Numerals that are read: strconv.Atoi with Itoa, basic.Number, the reference's Amount. -/
namespace Go.Proofs.Ytpclhpncmlbccaa
open Go.RowKit
set_option linter.unusedVariables false
set_option maxHeartbeats 1000000
end Go.Proofs.Ytpclhpncmlbccaa

/- Aliases: the plain functions, and what the typed functions compute. -/
namespace Go.Proofs.Ytpclhpncmlbccaa
open Go.RowKit
set_option linter.unusedVariables false
set_option maxHeartbeats 1000000

/-! ### validation -/
end Go.Proofs.Ytpclhpncmlbccaa

/- Aliases: the search, and what the typed functions compute. -/
namespace Go.Proofs.Ytpclhpncmlbccaa
open Go.RowKit
set_option linter.unusedVariables false
set_option maxHeartbeats 1000000

/-! ### lists without repetition -/
def add1 (o : List Str) (x : Str) : List Str := if o.contains x then o else o ++ [x]
def addNew (o xs : List Str) : List Str := xs.foldl add1 o
theorem add1_mem (o : List Str) (x y : Str) : y ∈ add1 o x ↔ y ∈ o ∨ y = x := by
  unfold add1
  split
  · rename_i h
    simp at h
    constructor
    · exact .inl
    · rintro (h1 | rfl)
      · exact h1
      · exact h
  · simp
theorem add1_prefix (o : List Str) (x : Str) : o <+: add1 o x := by
  unfold add1; split
  · exact List.prefix_refl _
  · exact List.prefix_append _ _
theorem add1_nodup {o : List Str} (h : o.Nodup) (x : Str) : (add1 o x).Nodup := by
  unfold add1; split
  · exact h
  · rename_i hx
    simp at hx
    rw [List.nodup_append]
    exact ⟨h, by simp, fun a ha b hb hab => by simp at hb; subst hb; subst hab; exact hx ha⟩
theorem addNew_mem (xs : List Str) : ∀ (o : List Str) (y : Str), y ∈ addNew o xs ↔ y ∈ o ∨ y ∈ xs := by
  induction xs with
  | nil => intro o y; simp [addNew]
  | cons x xs ih => intro o y; show y ∈ addNew (add1 o x) xs ↔ _; rw [ih, add1_mem]; simp [or_assoc]
theorem addNew_prefix (xs : List Str) : ∀ o : List Str, o <+: addNew o xs := by
  induction xs with
  | nil => intro o; exact List.prefix_refl _
  | cons x xs ih => intro o; exact (add1_prefix o x).trans (ih _)
theorem addNew_nodup (xs : List Str) : ∀ {o : List Str}, o.Nodup → (addNew o xs).Nodup := by
  induction xs with
  | nil => intro o h; exact h
  | cons x xs ih => intro o h; exact ih (add1_nodup h x)
theorem nodup_le {l m : List Str} (hl : l.Nodup) (h : ∀ x ∈ l, x ∈ m) : l.length ≤ m.length := by
  induction l generalizing m with
  | nil => simp
  | cons x l ih =>
    have hx : x ∈ m := h x (by simp)
    obtain ⟨hxl, hl'⟩ := List.nodup_cons.1 hl
    have := ih (m := m.erase x) hl' (fun y hy => by
      have hne : y ≠ x := by rintro rfl; exact hxl hy
      exact (List.mem_erase_of_ne hne).2 (h y (by simp [hy])))
    rw [List.length_erase_of_mem hx] at this
    have : 0 < m.length := List.length_pos_of_mem hx
    simp; omega

/-! ### the search -/
def tgtO (l : List TAlias) (s : Str) : Option (List Str) := (l.find? (fun a => a.Address == s)).map (·.To)
def tgt (l : List TAlias) (s : Str) : List Str := (tgtO l s).getD []
def univ (l : List TAlias) (from_ : List Str) : List Str := from_ ++ l.flatMap (·.To)
theorem tgt_sub (l : List TAlias) (s x : Str) (h : x ∈ tgt l s) : ∃ a ∈ l, a.Address = s ∧ x ∈ a.To := by
  unfold tgt tgtO at h
  cases hf : l.find? (fun a => a.Address == s) with
  | none => rw [hf] at h; simp at h
  | some a =>
    rw [hf] at h
    have := List.find?_some hf
    exact ⟨a, List.mem_of_find?_eq_some hf, by simpa using this, by simpa using h⟩
/-- what holds of the list during the search -/
structure Inv (l : List TAlias) (U : List Str) (k : Nat) (out : List Str) : Prop where
  nd : out.Nodup
  sub : ∀ x ∈ out, x ∈ U
  le : k ≤ out.length
theorem Inv.len {l : List TAlias} {U : List Str} {k : Nat} {out : List Str} (h : Inv l U k out) : out.length ≤ U.length := nodup_le h.nd h.sub
theorem Inv.step {l : List TAlias} {from_ : List Str} {k : Nat} {out : List Str} (h : Inv l (univ l from_) k out) {s : Str} (hs : out[k]? = some s) : Inv l (univ l from_) (k + 1) (addNew out (tgt l s)) := by
  refine ⟨addNew_nodup _ h.nd, fun x hx => ?_, ?_⟩
  · rcases (addNew_mem _ _ _).1 hx with h1 | h1
    · exact h.sub x h1
    · obtain ⟨a, ha, _, hxa⟩ := tgt_sub l s x h1
      exact List.mem_append.2 (.inr (List.mem_flatMap.2 ⟨a, ha, hxa⟩))
  · have := (addNew_prefix (tgt l s) out).length_le
    have := lt_get hs
    omega
/-! ### the reference -/
end Go.Proofs.Ytpclhpncmlbccaa

/- Aliases: what the program's expansion and loops compute. -/
namespace Go.Proofs.Ytpclhpncmlbccaa
open Go.RowKit
set_option linter.unusedVariables false
set_option maxHeartbeats 1000000

/-! ### the table -/
end Go.Proofs.Ytpclhpncmlbccaa

/- Aliases: loops; the closed example; sizes. -/
namespace Go.Proofs.Ytpclhpncmlbccaa
open Go.RowKit
set_option linter.unusedVariables false
set_option maxHeartbeats 1000000

/-! ### the closed example -/
end Go.Proofs.Ytpclhpncmlbccaa

/- strings.IndexAny on a short text: plain. -/
namespace Go.Proofs.Ytpclhpncmlbccaa
open Go.RowKit
set_option linter.unusedVariables false
end Go.Proofs.Ytpclhpncmlbccaa

/- strings.ContainsAny. -/
namespace Go.Proofs.Ytpclhpncmlbccaa
open Go.RowKit
set_option linter.unusedVariables false
end Go.Proofs.Ytpclhpncmlbccaa

/- Header fields in lines: the plain functions, and what the typed functions compute. -/
namespace Go.Proofs.Ytpclhpncmlbccaa
open Go.RowKit
set_option linter.unusedVariables false
set_option maxHeartbeats 1000000

def blankC (c : UInt8) : Bool := c == 32 || c == 9
/-! ### where a line is cut -/
/-- may a line be cut here? -/
def br (t : Str) (f i : Nat) : Bool := decide (1 ≤ i) && decide (f ≤ i) && (match t[i]?, t[i - 1]? with | some a, some b => blankC a && !blankC b | _, _ => false)
/-- what the cut is -/
def CutIs (t : Str) (f c : Nat) : Prop := (c = 0 ∧ ∀ j, br t f j = false) ∨ (br t f c = true ∧ ((c ≤ 78 ∧ ∀ j, c < j → j ≤ 78 → br t f j = false) ∨ (78 < c ∧ ∀ j, j < c → br t f j = false)))
theorem br_lt {t : Str} {f i : Nat} (h : br t f i = true) : i < t.length ∧ 1 ≤ i ∧ f ≤ i := by
  unfold br at h
  simp only [Bool.and_eq_true, decide_eq_true_eq] at h
  obtain ⟨⟨h1, h2⟩, h3⟩ := h
  refine ⟨?_, h1, h2⟩
  cases hi : t[i]? with
  | none => rw [hi] at h3; simp at h3
  | some a => exact lt_get hi
def PInv (t : Str) (f b i : Nat) : Prop := f ≤ i ∧ 1 ≤ i ∧ ((b = 0 ∧ ∀ j, j < i → br t f j = false) ∨ (br t f b = true ∧ b < i ∧ ((b ≤ 78 ∧ ∀ j, b < j → j < i → br t f j = false) ∨ (78 < b ∧ ∀ j, j < b → br t f j = false))))
theorem PInv.done {t : Str} {f b i : Nat} (h : PInv t f b i) (hi : 0 < b ∧ 78 < i ∨ t.length ≤ i) : CutIs t f b := by
  obtain ⟨hf, h1, h2⟩ := h
  rcases h2 with ⟨rfl, h3⟩ | ⟨h3, h4, h5⟩
  · left
    refine ⟨rfl, fun j => ?_⟩
    cases hb : br t f j with
    | false => rfl
    | true =>
      have := (br_lt hb).1
      rw [h3 j (by omega)] at hb; cases hb
  · right
    refine ⟨h3, ?_⟩
    rcases h5 with ⟨h6, h7⟩ | h6
    · left
      refine ⟨h6, fun j hj hj2 => ?_⟩
      cases hb : br t f j with
      | false => rfl
      | true =>
        have := (br_lt hb).1
        rw [h7 j hj (by omega)] at hb; cases hb
    · exact .inr h6
end Go.Proofs.Ytpclhpncmlbccaa

/- Fields and messages: the plain functions, and what the typed functions compute. -/
namespace Go.Proofs.Ytpclhpncmlbccaa
open Go.RowKit
set_option linter.unusedVariables false
set_option maxHeartbeats 1000000

end Go.Proofs.Ytpclhpncmlbccaa

/- Messages and mails: the plain functions, and what the typed functions compute. -/
namespace Go.Proofs.Ytpclhpncmlbccaa
open Go.RowKit
set_option linter.unusedVariables false
set_option maxHeartbeats 1000000

/-! ### a head -/
/-! ### the bytes of a message -/
end Go.Proofs.Ytpclhpncmlbccaa

/- Bodies, messages and mails: the plain functions, and what the typed functions compute. -/
namespace Go.Proofs.Ytpclhpncmlbccaa
open Go.RowKit
set_option linter.unusedVariables false
set_option maxHeartbeats 1000000

end Go.Proofs.Ytpclhpncmlbccaa

/- The union of recipients: the plain functions, and what the typed functions compute. -/
namespace Go.Proofs.Ytpclhpncmlbccaa
open Go.RowKit
set_option linter.unusedVariables false
set_option maxHeartbeats 1000000

/-! ### conditions -/
/-! ### one recipient for each address -/
def orL (n : Int) (l : List TRecipient) : Int := l.foldl (fun n r => iOr n r.Notify) n
def sameA (s : Str) (r : TRecipient) : Bool := r.Address == s
/-- one for each address, as the first of them stands -/
def mergeP : Nat → List TRecipient → List TRecipient
  | 0, _ => []
  | _, [] => []
  | n + 1, r :: t => ⟨r.Address, orL r.Notify (t.filter (sameA r.Address))⟩ :: mergeP n (t.filter fun x => !sameA r.Address x)
def merged (l : List TRecipient) : List TRecipient := mergeP l.length l
def hasA (out : List TRecipient) (s : Str) : Bool := out.any (sameA s)
def putR (out : List TRecipient) (r : TRecipient) : List TRecipient := if hasA out r.Address then out.map (fun x => if sameA r.Address x then ⟨x.Address, iOr x.Notify r.Notify⟩ else x) else out ++ [r]
end Go.Proofs.Ytpclhpncmlbccaa

/- The union of recipients: what the typed functions compute; the closed example. -/
namespace Go.Proofs.Ytpclhpncmlbccaa
open Go.RowKit
set_option linter.unusedVariables false
set_option maxHeartbeats 1000000

def posA (out : List TRecipient) (s : Str) : Option Nat := out.findIdx? (sameA s)
theorem posA_has (out : List TRecipient) (s : Str) : (posA out s).isSome = hasA out s := by unfold posA hasA; exact List.findIdx?_isSome
theorem posA_app (out : List TRecipient) (r : TRecipient) (s : Str) (h : hasA out r.Address = false) : posA (out ++ [r]) s = if r.Address == s then some out.length else posA out s := by
  unfold posA
  rw [List.findIdx?_append]
  by_cases hs : (r.Address == s) = true
  · rw [if_pos hs]
    have e : r.Address = s := beq_iff_eq.1 hs
    subst e
    have : out.findIdx? (sameA r.Address) = none := by
      have := posA_has out r.Address
      rw [h] at this
      unfold posA at this
      simpa using this
    rw [this]
    simp [sameA]
  · rw [if_neg hs]
    have : sameA s r = false := by unfold sameA; simpa using hs
    simp [List.findIdx?_cons, this]
theorem posA_map (out : List TRecipient) (f : TRecipient → TRecipient) (hf : ∀ x, (f x).Address = x.Address) (s : Str) : posA (out.map f) s = posA out s := by
  unfold posA
  rw [List.findIdx?_map]
  congr 1
  funext x
  simp [Function.comp, sameA, hf]
structure MInv (i : Nat) (out : List TRecipient) (m : List (Str × Int)) : Prop where
  len : out.length ≤ i
  nd : (out.map (·.Address)).Nodup
  mp : ∀ s, mget m s = (posA out s).map fun k => ((k : Nat) : Int)
theorem MInv.put {i : Nat} {out : List TRecipient} {m : List (Str × Int)} (h : MInv i out m) (r : TRecipient) : MInv (i + 1) (putR out r) (if hasA out r.Address then m else mput m r.Address (out.length : Int)) := by
  unfold putR
  cases hh : hasA out r.Address with
  | true =>
    simp only [if_true]
    have hf : ∀ x : TRecipient, (if sameA r.Address x then (⟨x.Address, iOr x.Notify r.Notify⟩ : TRecipient) else x).Address = x.Address := by intro x; split <;> rfl
    refine ⟨by simp; have := h.len; omega, ?_, fun s => ?_⟩
    · rw [List.map_map, show ((·.Address) ∘ fun x : TRecipient => if sameA r.Address x then (⟨x.Address, iOr x.Notify r.Notify⟩ : TRecipient) else x) = (·.Address) from funext hf]; exact h.nd
    · rw [posA_map _ _ hf]; exact h.mp s
  | false =>
    simp only [Bool.false_eq_true, if_false]
    refine ⟨by simp; exact h.len, ?_, fun s => ?_⟩
    · rw [List.map_append, List.nodup_append]
      refine ⟨h.nd, by simp, ?_⟩
      intro a ha b hb
      simp at hb; subst hb
      rintro rfl
      obtain ⟨x, hx, hxe⟩ := List.mem_map.1 ha
      unfold hasA at hh
      rw [List.any_eq_false] at hh
      exact hh x hx (by simp [sameA, hxe])
    · rw [mget_mputG, posA_app _ _ _ hh, h.mp s]
      by_cases hs : (r.Address == s) = true
      · rw [if_pos hs, if_pos hs]; rfl
      · rw [if_neg hs, if_neg hs]
end Go.Proofs.Ytpclhpncmlbccaa

/- The law EnvelopeDomainsMatchSpec, as a plain statement. -/
namespace Go.Proofs.Ytpclhpncmlbccaa
open Go.RowKit
set_option linter.unusedVariables false
end Go.Proofs.Ytpclhpncmlbccaa

/- The law EnvelopeMatchesSpec in plain Lean. -/
namespace Go.Proofs.Ytpclhpncmlbccaa
open Go.RowKit
set_option linter.unusedVariables false
set_option maxHeartbeats 1000000

end Go.Proofs.Ytpclhpncmlbccaa

/- Sending on: the plain functions of its parts, and what the typed functions compute. -/
namespace Go.Proofs.Ytpclhpncmlbccaa
open Go.RowKit
set_option linter.unusedVariables false
set_option maxHeartbeats 1000000

/-! ### rules as aliases -/
/-! ### letters -/
/-! ### fields -/
/-! ### a field in front -/
end Go.Proofs.Ytpclhpncmlbccaa

/- Sending on: a step, the tree. -/
namespace Go.Proofs.Ytpclhpncmlbccaa
open Go.RowKit
set_option linter.unusedVariables false
set_option maxHeartbeats 1000000

/-! ### a step -/
/-! ### the tree -/
end Go.Proofs.Ytpclhpncmlbccaa

/- Sending on: the closed example; what a step makes. -/
namespace Go.Proofs.Ytpclhpncmlbccaa
open Go.RowKit
set_option linter.unusedVariables false
set_option maxHeartbeats 1000000

instance : DecidableEq TField := fun a b => decidable_of_iff (a.Name = b.Name ∧ a.Value = b.Value) (by cases a; cases b; simp)
instance : DecidableEq TMessage := fun a b => decidable_of_iff (a.Fields = b.Fields ∧ a.Body = b.Body) (by cases a; cases b; simp)
instance : DecidableEq TMail := fun a b => decidable_of_iff (a.Envelope = b.Envelope ∧ a.Message = b.Message) (by cases a; cases b; simp)
/-! ### what a step makes -/
end Go.Proofs.Ytpclhpncmlbccaa

/- The reference's side of messages: letters, values, recipients, a field in front, equal mails. -/
namespace Go.Proofs.Ytpclhpncmlbccaa
open Go.RowKit
set_option linter.unusedVariables false
set_option maxHeartbeats 1000000

end Go.Proofs.Ytpclhpncmlbccaa

/- Texts divided at one byte: strings.Split and the reference's Pieces. -/
namespace Go.Proofs.Ytpclhpncmlbccaa
open Go.RowKit
set_option linter.unusedVariables false
set_option maxHeartbeats 1000000
end Go.Proofs.Ytpclhpncmlbccaa

/- Words between spaces: strings.FieldsFunc at the space. -/
namespace Go.Proofs.Ytpclhpncmlbccaa
open Go.RowKit
set_option linter.unusedVariables false
set_option maxHeartbeats 1000000
end Go.Proofs.Ytpclhpncmlbccaa

/- Commands: the plain functions; checking and printing, by the program and by the reference. -/
namespace Go.Proofs.Ytpclhpncmlbccaa
open Go.RowKit
set_option linter.unusedVariables false
set_option maxHeartbeats 2000000
/-! ### printing -/
instance : DecidableEq (Step (Int × List Str) (List Str)) := fun a b => match a, b with
  | .cont x, .cont y => decidable_of_iff (x = y) (by simp)
  | .out x, .out y => decidable_of_iff (x = y) (by simp)
  | .cont x, .out y => isFalse (by simp)
  | .out x, .cont y => isFalse (by simp)
end Go.Proofs.Ytpclhpncmlbccaa

/- Replies: the plain functions, and what the typed functions of the program compute. -/
namespace Go.Proofs.Ytpclhpncmlbccaa
open Go.RowKit
set_option linter.unusedVariables false
set_option maxHeartbeats 1000000

def rlnC (c : UInt8) : Bool := c == 13 || c == 10
def digC (c : UInt8) : Bool := decide (48 ≤ c) && decide (c ≤ 57)
/-! ### numerals of three digits -/
def num3 (a b c : UInt8) : Nat := ((a.toNat - 48) * 10 + (b.toNat - 48)) * 10 + (c.toNat - 48)
/-! ### validation -/
/-! ### printing -/
end Go.Proofs.Ytpclhpncmlbccaa

/- Replies: reading lines. -/
namespace Go.Proofs.Ytpclhpncmlbccaa
open Go.RowKit
set_option linter.unusedVariables false
set_option maxHeartbeats 1000000

/-- the number that a line of a reply tells; none: no such line -/
def rdQ : Str → Option Nat
  | a :: b :: c :: d :: r => if (d == 45 || d == 32) && (digC a && digC b && digC c) && !((a :: b :: c :: d :: r).any rlnC) && (decide (200 ≤ num3 a b c) && decide (num3 a b c ≤ 599)) then some (num3 a b c) else none
  | _ => none
/-! ### the lines one after the other -/
abbrev PR := TReply × Int × TFault
def parP : List Str → Nat → List Str → Int → Option PR
  | [], _, _, _ => none
  | s :: r, i, acc, prev =>
    if i = 20 then some (⟨0, []⟩, 0, ⟨2, i⟩)
    else match rdQ s with
      | none => some (⟨0, []⟩, 0, ⟨11, i⟩)
      | some n =>
        if 504 < s.length then some (⟨0, []⟩, 0, ⟨1, i⟩)
        else if 0 < i ∧ (n : Int) ≠ prev then some (⟨0, []⟩, 0, ⟨5, i⟩)
        else if s[3]? = some 32 then some (⟨n, acc ++ [s.drop 4]⟩, ((i + 1 : Nat) : Int), ⟨0, 0⟩)
        else parP r (i + 1) (acc ++ [s.drop 4]) n
def parseP (l : List Str) : PR := if 300 < l.length then (⟨0, []⟩, 0, ⟨2, -1⟩) else (parP l 0 [] 0).getD (⟨0, []⟩, 0, ⟨9, -2⟩)
end Go.Proofs.Ytpclhpncmlbccaa

/- Lines of a stream: the plain functions, and what the typed functions compute. -/
namespace Go.Proofs.Ytpclhpncmlbccaa
open Go.RowKit
set_option linter.unusedVariables false

/-- the lines of a stream and the rest; cur: what has been passed of the current line -/
def fl : List UInt8 → List UInt8 → List Str × List UInt8
  | cur, [] => ([], cur)
  | cur, [c] => ([], cur ++ [c])
  | cur, c :: d :: r => if c = 13 ∧ d = 10 then (cur :: (fl [] r).1, (fl [] r).2) else fl (cur ++ [c]) (d :: r)

end Go.Proofs.Ytpclhpncmlbccaa

/- Lines: the reference's lines, lists of strings compared, the closed example, the laws of division. -/
namespace Go.Proofs.Ytpclhpncmlbccaa
open Go.RowKit
set_option linter.unusedVariables false

end Go.Proofs.Ytpclhpncmlbccaa

/- Data as it is sent and received: the plain functions, and what the typed functions compute. -/
namespace Go.Proofs.Ytpclhpncmlbccaa
open Go.RowKit
set_option linter.unusedVariables false

end Go.Proofs.Ytpclhpncmlbccaa

/- Data as it is received; the reference's Sent and Received; the closed example. -/
namespace Go.Proofs.Ytpclhpncmlbccaa
open Go.RowKit
set_option linter.unusedVariables false

end Go.Proofs.Ytpclhpncmlbccaa

/- The law EnvelopesOfDomainsJoin in plain Lean. -/
namespace Go.Proofs.Ytpclhpncmlbccaa
open Go.RowKit
set_option linter.unusedVariables false
set_option maxHeartbeats 1000000

/-! ### domains -/
end Go.Proofs.Ytpclhpncmlbccaa

/- Clients: what a client sends; plain functions, and what the typed functions of program and reference compute. -/
namespace Go.Proofs.Ytpclhpncmlbccaa
open Go.RowKit
set_option linter.unusedVariables false
set_option maxHeartbeats 1000000
abbrev Talk := Tposthouseref4_Talk
/-! ### sending -/
/-! ### what is asked -/
end Go.Proofs.Ytpclhpncmlbccaa

/- Clients: going on, leaving, hearing a reply. -/
namespace Go.Proofs.Ytpclhpncmlbccaa
open Go.RowKit
set_option linter.unusedVariables false
set_option maxHeartbeats 1000000
set_option maxRecDepth 20000
/-! ### several commands -/
/-! ### going on -/
def many (t : Talk) : Nat := t.C.Mail.Envelope.To.length
end Go.Proofs.Ytpclhpncmlbccaa

/- Clients: hearing a reply. -/
namespace Go.Proofs.Ytpclhpncmlbccaa
open Go.RowKit
set_option linter.unusedVariables false
set_option maxHeartbeats 1000000
set_option maxRecDepth 20000
/-! ### results -/
def tb (t : Talk) (b : List UInt8) : Talk := ⟨{ t.C with Buffer := b }, t.Out⟩
/-! ### the state -/
end Go.Proofs.Ytpclhpncmlbccaa

/- Clients: what the reference hears; what stays as it was. -/
namespace Go.Proofs.Ytpclhpncmlbccaa
open Go.RowKit
set_option linter.unusedVariables false
set_option maxHeartbeats 1000000
set_option maxRecDepth 20000
/-! ### the buffer does not matter -/
/-! ### what the reference hears -/
/-! ### what stays -/
end Go.Proofs.Ytpclhpncmlbccaa

/- Lines: the closed example, streams that are joined, the four laws as plain statements. -/
namespace Go.Proofs.Ytpclhpncmlbccaa
open Go.RowKit
set_option linter.unusedVariables false

end Go.Proofs.Ytpclhpncmlbccaa

/- Clients: the scan of what has come, by program and reference. -/
namespace Go.Proofs.Ytpclhpncmlbccaa
open Go.RowKit
set_option linter.unusedVariables false
set_option maxHeartbeats 1000000
set_option maxRecDepth 20000
/-! ### a reply that was read is valid -/
/-! ### the scan -/
def codeL (l : List Str) : Int := (parseP l).2.2.Code
def badL (acc : List Str) (x : Str) : Prop := 4000 < x.length ∨ (codeL (acc ++ [x]) ≠ 0 ∧ codeL (acc ++ [x]) ≠ 9)
instance (acc : List Str) (x : Str) : Decidable (badL acc x) := inferInstanceAs (Decidable (_ ∨ _))
/-! ### lines of what has come -/
/-! ### the program's scan -/
end Go.Proofs.Ytpclhpncmlbccaa

/- Clients: all that has come, by program and reference. -/
namespace Go.Proofs.Ytpclhpncmlbccaa
open Go.RowKit
set_option linter.unusedVariables false
set_option maxHeartbeats 1000000
set_option maxRecDepth 20000
/-! ### the reference -/
def fin (o : Talk ⊕ Talk) : Talk := Sum.elim (fun t => tb t []) id o
end Go.Proofs.Ytpclhpncmlbccaa

/- Clients: which ones are valid; feeding and closing. -/
namespace Go.Proofs.Ytpclhpncmlbccaa
open Go.RowKit
set_option linter.unusedVariables false
set_option maxHeartbeats 1000000
set_option maxRecDepth 20000
/-! ### which clients are valid -/
end Go.Proofs.Ytpclhpncmlbccaa

/- Clients: feeding, closing, starting; clients that are the same. -/
namespace Go.Proofs.Ytpclhpncmlbccaa
open Go.RowKit
set_option linter.unusedVariables false
set_option maxHeartbeats 1000000
set_option maxRecDepth 20000
/-! ### copies -/
/-! ### feeding and closing -/
end Go.Proofs.Ytpclhpncmlbccaa

/- Routes: the hosts, and what is found. -/
namespace Go.Proofs.Ytpclhpncmlbccaa
open Go.RowKit
set_option linter.unusedVariables false
set_option maxHeartbeats 1000000
def addH (acc : List Str) (x : TRoute) : List Str := if acc.contains x.Host then acc else acc ++ [x.Host]
theorem addH_len (acc : List Str) (x : TRoute) : (addH acc x).length ≤ acc.length + 1 := by unfold addH; split <;> simp
theorem foldH_len (l : List TRoute) : ∀ acc : List Str, (l.foldl addH acc).length ≤ acc.length + l.length := by
  induction l with
  | nil => intro acc; simp
  | cons x l ih => intro acc; have := ih (addH acc x); have := addH_len acc x; simp; omega
def hostsP (l : List TRoute) (t : Str) : List Str := (isort pk (l.filter fun x => x.Pattern == t)).foldl addH []
theorem hostsP_len (l : List TRoute) (t : Str) : (hostsP l t).length ≤ l.length := by
  unfold hostsP
  have h1 := foldH_len (isort pk (l.filter fun x => x.Pattern == t)) []
  rw [len_isort] at h1
  have h2 := List.length_filter_le (fun x : TRoute => x.Pattern == t) l
  simp only [List.length_nil] at h1
  omega
def findP (l : List TRoute) (d : Str) : List Str × TFault :=
  if (routF l).Code != 0 then ([], routF l) else if !domP d then ([], ⟨10, -2⟩) else if bestP l d = [] then ([], ⟨6, -3⟩) else (hostsP l (bestP l d), ⟨0, 0⟩)
theorem find_hosts (v : List TRoute) (hv : v.length ≤ 1048576) : iter (routes_Find_l3 v) (0, ([] : List Str)) = some (v.foldl addH []) := by
  refine (iter_fold v (fun i acc => (i, acc)) addH (fun acc => acc) (fun i acc => acc.length ≤ i) (body := routes_Find_l3 v) (fun s hs => by unfold routes_Find_l3; simp [dec_len]) (fun i r acc hr hi => by
      have hlt := lt_get hr
      refine ⟨?_, Nat.le_trans (addH_len acc r) (by omega)⟩
      unfold routes_Find_l3
      dsimp only
      rw [dec_lt hr, idx_get hr]
      simp only [cond_true, Option.bind_some, slices_Contains_eq acc _ (by omega), sc i (by omega)]
      unfold addH
      cases acc.contains r.Host with
      | true => rfl
      | false => simp only [Bool.not_false, cond_true, Bool.false_eq_true, if_false]; rw [app_ok (by simp; omega)]; rfl) ([] : List Str) (by simp)).1
theorem best_has {l : List TRoute} {d : Str} (h : bestP l d ≠ []) : hasPt l (bestP l d) = true ∧ bestP l d ∈ triesP d := by
  unfold bestP at h ⊢
  cases hf : (triesP d).find? (hasPt l) with
  | none => rw [hf] at h; exact absurd rfl h
  | some t => exact ⟨List.find?_some hf, List.mem_of_find?_eq_some hf⟩
theorem routes_Find_eq (l : List TRoute) (d : Str) (hl : smallRt l) (hd : d.length ≤ 1048576) : routes_Find l d = some (findP l d) := by
  unfold routes_Find findP
  rw [routes_Validate_eq l hl]
  simp only [Option.bind_some, basic_Failed_eq, basic_Fault_eq, basic_None_eq]
  by_cases hc : (routF l).Code = 0
  · obtain ⟨ok, hF⟩ := routF_ok hc
    have h1 : ((routF l).Code != 0) = false := by simp [hc]
    have hn := ok.n
    rw [h1, envelope_Domain_eq d (by omega)]
    simp only [Option.bind_some, cond_false, Bool.false_eq_true, if_false]
    cases hdp : domP d with
    | false => rfl
    | true =>
      simp only [Bool.not_true, cond_false, Bool.false_eq_true, if_false]
      rw [routes_best_eq l d hl hd ok.pat]
      simp only [Option.bind_some]
      by_cases hb : bestP l d = []
      · rw [hb]; simp
      · have hb' : (bestP l d == []) = false := beq_eq_false_iff_ne.2 hb
        rw [hb', if_neg hb]
        simp only [cond_false]
        rw [app_ok (by simp; omega)]
        simp only [List.nil_append, Option.bind_some]
        rw [nilE_same _ _ _ (fun he => by rw [List.isEmpty_iff.1 he])]
        simp only [Option.bind_some]
        have hdel := del_eq (fun x : TRoute => x.Pattern == bestP l d) l (TRoute.mk (([] : Str)) (([] : Str)) 0) (by omega) (b1 := routes_Find_l1 (bestP l d) l) (b2 := routes_Find_l2 (bestP l d)) (by unfold routes_Find_l1; rw [dec_len]; rfl) (fun i x hx => by
            have hi := lt_get hx
            unfold routes_Find_l1
            rw [dec_lt hx, idx_get hx]
            simp only [cond_true, Option.bind_some, sc i (by omega)]
            unfold bne
            cases x.Pattern == bestP l d <;> rfl) (fun i M hM => by
            unfold routes_Find_l2
            dsimp only
            rw [← hM, dec_len]; rfl) (fun i k M x hM hx hik => by
            have hi := lt_get hx
            have hii : M[i]? = some (M[i]'(by omega)) := List.getElem?_eq_getElem (by omega)
            unfold routes_Find_l2
            dsimp only
            rw [dec_lt hx, idx_get hx, idx_get hii]
            simp only [cond_true, Option.bind_some, sc i (by omega), sc k (by omega)]
            unfold bne
            cases x.Pattern == bestP l d <;> simp)
        rw [hdel]
        simp only [Option.bind_some]
        have hlf := List.length_filter_le (fun x : TRoute => x.Pattern == bestP l d) l
        have hne : (l.filter fun x => x.Pattern == bestP l d) ≠ [] := by
          have := (best_has hb).1
          unfold hasPt at this
          obtain ⟨x, hx, he⟩ := List.any_eq_true.1 this
          intro h0
          have : x ∈ l.filter fun x => x.Pattern == bestP l d := List.mem_filter.2 ⟨hx, he⟩
          rw [h0] at this; cases this
        rw [stable_eq _ hne (by omega) (fun x hx => ok.pr x (List.mem_filter.1 hx).1)]
        simp only [Option.bind_some]
        rw [find_hosts _ (by rw [len_isort]; omega)]
        rfl
  · have h1 : ((routF l).Code != 0) = true := by simpa using hc
    rw [h1]; rfl
/-! ### the other way -/
theorem hostsP_ne {l : List TRoute} {t : Str} : hostsP l t ≠ [] ↔ hasPt l t = true := by
  have grow : ∀ (l : List TRoute) (acc : List Str), acc ≠ [] → l.foldl addH acc ≠ [] := by
    intro l
    induction l with
    | nil => intro acc h; exact h
    | cons x l ih =>
      intro acc h
      refine ih _ ?_
      unfold addH; split
      · exact h
      · simp
  unfold hostsP hasPt
  constructor
  · intro h
    cases hf : l.filter (fun x => x.Pattern == t) with
    | nil => rw [hf] at h; exact absurd rfl h
    | cons x r =>
      rw [List.any_eq_true]
      have : x ∈ l.filter (fun x => x.Pattern == t) := by rw [hf]; simp
      exact ⟨x, List.mem_filter.1 this⟩
  · intro h
    obtain ⟨x, hx, he⟩ := List.any_eq_true.1 h
    cases hf : isort pk (l.filter (fun x => x.Pattern == t)) with
    | nil =>
      have h1 := len_isort pk (l.filter (fun x => x.Pattern == t))
      rw [hf] at h1
      have : x ∈ l.filter (fun x => x.Pattern == t) := List.mem_filter.2 ⟨hx, he⟩
      rw [List.length_eq_zero_iff.1 h1.symm] at this
      cases this
    | cons y r =>
      refine grow r _ ?_
      unfold addH; simp
/-! ### the closed example -/
theorem routeSmall {x : TRoute} (h : TRoute.bk x ≤ 1048576) : x.Pattern.length ≤ 1048576 ∧ x.Host.length ≤ 1048576 := by unfold TRoute.bk at h; dsimp only at h; omega
theorem routeBk (x : TRoute) : 1 ≤ TRoute.bk x := by unfold TRoute.bk; omega
theorem smallRt_of {l : List TRoute} (h : bkL TRoute.bk l ≤ 1048576) : smallRt l := by
  have h1 := bkL_len routeBk l
  refine ⟨by omega, fun a ha => ?_⟩
  have := bkL_mem (bk := TRoute.bk) ha
  exact routeSmall (by omega)
theorem L_finds_eq : L_finds = some true := by
  unfold L_finds
  rw [routes_Find_eq _ _ (by unfold smallRt; decide) (by decide), routes_Find_eq _ _ (by unfold smallRt; decide) (by decide), routes_Find_eq _ _ (by unfold smallRt; decide) (by decide)]
  have e1 : findP [⟨[42], [99], 0⟩, ⟨[42, 46, 98], [100], 2⟩, ⟨[42, 46, 98], [101], 1⟩] [97, 46, 98] = ([[101], [100]], ⟨0, 0⟩) := by decide
  have e2 : findP [⟨[42], [99], 0⟩, ⟨[42, 46, 98], [100], 2⟩, ⟨[42, 46, 98], [101], 1⟩] [98] = ([[99]], ⟨0, 0⟩) := by decide
  have e3 : findP [] [98] = ([], ⟨6, -3⟩) := by decide
  rw [e1, e2, e3]
  simp only [Option.bind_some, R_At_eq]
  rw [R_Strings_eq _ _ (by decide), R_Strings_eq _ _ (by decide)]
  rfl
end Go.Proofs.Ytpclhpncmlbccaa

/- The law RoutesExactCounts, as a plain statement. -/
namespace Go.Proofs.Ytpclhpncmlbccaa
open Go.RowKit
set_option linter.unusedVariables false
theorem fold_has : ∀ (l : List TRoute) (acc : List Str) (s : Str), s ∈ l.foldl addH acc ↔ s ∈ acc ∨ ∃ x ∈ l, x.Host = s
  | [], acc, s => by simp
  | x :: l, acc, s => by
    rw [List.foldl_cons, fold_has l, show (s ∈ addH acc x) ↔ s ∈ acc ∨ x.Host = s by
      unfold addH; split
      · rename_i h
        constructor
        · exact .inl
        · rintro (h' | rfl)
          · exact h'
          · simpa using h
      · simp [eq_comm]]
    simp [or_assoc]
theorem find_inv {l : List TRoute} {d : Str} (h : (findP l d).2.Code = 0) : RoutOk l ∧ domP d = true ∧ bestP l d ≠ [] ∧ findP l d = (hostsP l (bestP l d), ⟨0, 0⟩) := by
  unfold findP at h ⊢
  by_cases hc : (routF l).Code = 0
  · obtain ⟨ok, hF⟩ := routF_ok hc
    have h2 : ((routF l).Code != 0) = false := by simp [hc]
    rw [h2] at h ⊢
    simp only [Bool.false_eq_true, if_false] at h ⊢
    cases hd : domP d with
    | false => rw [hd] at h; simp at h
    | true =>
      rw [hd] at h
      simp only [Bool.not_true, Bool.false_eq_true, if_false] at h ⊢
      by_cases hb : bestP l d = []
      · rw [if_pos hb] at h; simp at h
      · exact ⟨ok, trivial, hb, by rw [if_neg hb]⟩
  · have h2 : ((routF l).Code != 0) = true := by simpa using hc
    rw [h2] at h
    simp only [if_true] at h
    exact absurd h hc
theorem find_bad {l : List TRoute} {d : Str} (h : (findP l d).2.Code ≠ 0) : (findP l d).1 = [] := by
  unfold findP at h ⊢
  split
  · rfl
  · split
    · rfl
    · split
      · rfl
      · rename_i h1 h2 h3
        rw [if_neg h1, if_neg h2, if_neg h3] at h
        exact absurd rfl h
end Go.Proofs.Ytpclhpncmlbccaa

/- The law RoutesHostsOnce, as a plain statement. -/
namespace Go.Proofs.Ytpclhpncmlbccaa
open Go.RowKit
set_option linter.unusedVariables false
theorem fold_nodup : ∀ (l : List TRoute) (acc : List Str), acc.Nodup → (l.foldl addH acc).Nodup
  | [], acc, h => h
  | x :: l, acc, h => by
    refine fold_nodup l _ ?_
    unfold addH; split
    · exact h
    · rename_i hc
      rw [List.nodup_append]
      refine ⟨h, by simp, ?_⟩
      intro a ha b hb
      rw [List.mem_singleton.1 hb]
      rintro rfl
      exact hc (by simpa using ha)
theorem once_take {l : List Str} (h : l.Nodup) {i : Nat} {s : Str} (hi : l[i]? = some s) : (l.take i).contains s = false := by
  cases hc : (l.take i).contains s with
  | false => rfl
  | true =>
    rw [List.contains_iff_mem] at hc
    obtain ⟨j, hj⟩ := List.mem_iff_getElem?.1 hc
    have hjl := lt_get hj
    simp at hjl
    rw [List.getElem?_take_of_lt (by omega)] at hj
    have := (List.getElem?_inj (by omega) h).1 (hj.trans hi.symm)
    omega
theorem L_RoutesHostsOnce_true (a0 : List TRoute) (a1 : Str) (o0 : (okL TRoute.ok) a0) (o1 : okStr a1) (hk : (bkL TRoute.bk) a0 + (fun s => s.length + 1) a1 ≤ 1048576) : L_RoutesHostsOnce a0 a1 = some true := by
  simp only [] at hk
  have hp := bkL_pos TRoute.bk a0
  have hl : smallRt a0 := smallRt_of (by omega)
  unfold L_RoutesHostsOnce
  rw [routes_Find_eq a0 a1 hl (by omega), L_finds_eq]
  simp only [Option.bind_some, Bool.not_true, cond_false, cond_true]
  by_cases hc : (findP a0 a1).2.Code = 0
  · have h1 : ((findP a0 a1).2.Code != 0) = false := by simp [hc]
    obtain ⟨ok, hd, hb, hf⟩ := find_inv hc
    have hn := ok.n
    have hlen := hostsP_len a0 (bestP a0 a1)
    have hne := hostsP_ne.2 (best_has hb).1
    have hnd : (hostsP a0 (bestP a0 a1)).Nodup := fold_nodup _ _ List.nodup_nil
    have hfrom : ∀ s ∈ hostsP a0 (bestP a0 a1), ∃ x ∈ a0, x.Host = s := by
      intro s hs
      unfold hostsP at hs
      rcases (fold_has _ _ _).1 hs with h | ⟨x, hx, he⟩
      · cases h
      · exact ⟨x, (List.mem_filter.1 ((mem_isort pk).1 hx)).1, he⟩
    rw [h1, hf]
    simp only [cond_false]
    rw [iter_first (hostsP a0 (bestP a0 a1)) (fun _ _ => (none : Option Bool)) (.inl ()) .inr]
    · rw [firstI_none.2 (fun _ _ _ => rfl)]
      simp only [Option.elim, Option.bind_some, Sum.elim_inl]
      rw [decide_eq_true (by have := List.length_pos_iff.2 hne; omega)]
    · unfold L_RoutesHostsOnce_l1; dsimp only; rw [dec_len]; rfl
    · intro i s hs
      have hi := lt_get hs
      obtain ⟨x, hx, he⟩ := hfrom s (List.mem_of_getElem? hs)
      have hloop : iter (L_RoutesHostsOnce_l2 a0 (hostsP a0 (bestP a0 a1), ⟨0, 0⟩) (i : Int)) (false, 0) = some true := by
        have := (iter_fold a0 (fun i b => (b, i)) (fun b (x : TRoute) => b || x.Host == s) (fun b => b) (fun _ _ => True) (body := L_RoutesHostsOnce_l2 a0 (hostsP a0 (bestP a0 a1), ⟨0, 0⟩) (i : Int)) (fun b _ => by unfold L_RoutesHostsOnce_l2; dsimp only; rw [dec_len]; rfl) (fun j y b hy _ => ⟨by
          have hj := lt_get hy
          unfold L_RoutesHostsOnce_l2
          dsimp only
          rw [dec_lt hy, idx_get hy, idx_get hs]
          simp only [cond_true, Option.bind_some, sc j (by omega)]
          cases b <;> rfl, trivial⟩) false trivial).1
        rw [this]
        have aux : ∀ (l : List TRoute) (b : Bool), l.foldl (fun b (x : TRoute) => b || x.Host == s) b = (b || l.any fun x => x.Host == s) := by
          intro l
          induction l with
          | nil => intro b; simp
          | cons y l ih => intro b; rw [List.foldl_cons, ih, List.any_cons, Bool.or_assoc]
        rw [aux]
        have : (a0.any fun x => x.Host == s) = true := by rw [List.any_eq_true]; exact ⟨x, hx, by simp [he]⟩
        rw [this]; rfl
      unfold L_RoutesHostsOnce_l1
      dsimp only
      rw [dec_lt hs, hloop, idx_get hs]
      simp only [cond_true, Option.bind_some, Bool.not_true, cond_false, sc i (by omega)]
      rw [cut_0n (Nat.le_of_lt hi)]
      simp only [Option.bind_some]
      rw [R_Has_eq _ _ (by simp; omega), once_take hnd hs]
      rfl
  · have h1 : ((findP a0 a1).2.Code != 0) = true := by simpa using hc
    rw [h1, find_bad hc]; rfl
end Go.Proofs.Ytpclhpncmlbccaa

namespace Go.Proofs.Ytpclhpncmlbccaa
open Go.RowKit
set_option maxRecDepth 100000
set_option maxHeartbeats 40000000
set_option linter.unusedVariables false
theorem R_At_run (a0 : Int) (a1 : Int) (r : TFault) (hr : R_At a0 a1 = some r) : Run Try.prog 11 [.i a0, .i a1] (.agg [.i r.Code, .i r.Index]) := by
 unfold R_At at hr
 refine rf (fn := Try.f11) ⟨Try.func11, rfl, by kernel_rfl⟩ rfl (fun _ => rfl) fun g0 hg => ?_
 refine rn tk 14 rfl ?_
 cases hr
 exact kr tk (.inr rfl) rfl rfl
theorem R_Strings_run (a0 : List Str) (a1 : List Str) (r : Bool) (hr : R_Strings a0 a1 = some r) : Run Try.prog 13 [.l cS a0, .l cS a1] (.bo r) := by
 unfold R_Strings at hr
 refine rf (fn := Try.f13) ⟨Try.func13, rfl, by kernel_rfl⟩ rfl (fun _ => rfl) fun g0 hg => ?_
 refine rn tk 9 rfl ?_
 refine wn tk rfl rfl rfl ?_
 refine rn tk 1 rfl ?_
 refine wn tk rfl rfl rfl ?_
 refine rn tk 3 rfl ?_
 refine ac 10 hr rfl (fun c1 hr => ?_) (fun c1 hr => ?_)
 ·
  refine rn tk 7 rfl ?_
  cases hr
  exact kr tk (.inr rfl) rfl rfl
 ·
  refine rn tk 9 rfl ?_
  refine al2 hr (fun s2 => [(0, .l cS a0), (1, .l cS a1), (5, .i s2)]) (fun s2 => []) (.exit 0) (fun b3 => []) (fun b3 => []) .ret (fun b4 => [(4, .bo b4)]) (fun b4 => []) rfl rfl (fun s2 x6 hr => ?_) (fun b3 hr => ?_) (fun b4 hr => ?_)
  ·
   unfold R_Strings_l1 at hr
   refine rn tk 5 rfl ?_
   refine wn tk rfl rfl rfl ?_
   refine rn tk 3 rfl ?_
   refine ac 14 hr rfl (fun c7 hr => ?_) (fun c7 hr => ?_)
   ·
    refine rn tk 5 rfl ?_
    obtain ⟨v8, h9, hr⟩ := bind_some hr
    obtain ⟨v10, h11, hr⟩ := bind_some hr
    refine dr 8 [(24, .s v10), (23, .ep [pS v10]), (22, .i s2), (21, .l cS a1), (20, .s v8), (19, .ep [pS v8]), (18, .i s2), (17, .l cS a0)] mixed (by kernel_rfl) rfl rfl (pq tk rfl (.plain rfl) (pq tk rfl (.plain rfl) (.run (.plain rfl) (opG_q (ev_idx (f := cS) rfl rfl ty_s_string ty_string rfl h9)) (pq tk rfl (.plain rfl) (pq tk rfl (.plain rfl) (pq tk rfl (.plain rfl) (.run (.plain rfl) (opG_q (ev_idx (f := cS) rfl rfl ty_s_string ty_string rfl h11)) (pq tk rfl (.plain rfl) .nil)))))))) rfl ?_
    refine rn tk 3 rfl ?_
    refine ac 25 hr rfl (fun c12 hr => ?_) (fun c12 hr => ?_)
    ·
     refine rn tk 8 rfl ?_
     cases hr
     exact ato rfl rfl rfl rfl
    ·
     refine rn tk 8 rfl ?_
     cases hr
     exact atc rfl rfl
   ·
    refine rn tk 2 rfl ?_
    cases hr
    exact ato rfl rfl rfl rfl
  ·
   refine rn tk 8 rfl ?_
   cases hr
   exact kr tk (.inr rfl) rfl rfl
  ·
   refine rn tk 2 rfl ?_
   cases hr
   exact kr tk (.inr rfl) rfl rfl
theorem basic_Failed_run (a0 : TFault) (r : Bool) (hr : basic_Failed a0 = some r) : Run Try.prog 17 [.agg [.i a0.Code, .i a0.Index]] (.bo r) := by
 unfold basic_Failed at hr
 refine rf (fn := Try.f17) ⟨Try.func17, rfl, by kernel_rfl⟩ rfl (fun _ => rfl) fun g0 hg => ?_
 refine rn tk 15 rfl ?_
 cases hr
 exact kr tk (.inr rfl) rfl rfl
theorem basic_Fault_run (a0 : Int) (a1 : Int) (r : TFault) (hr : basic_Fault a0 a1 = some r) : Run Try.prog 19 [.i a0, .i a1] (.agg [.i r.Code, .i r.Index]) := by
 unfold basic_Fault at hr
 refine rf (fn := Try.f19) ⟨Try.func19, rfl, by kernel_rfl⟩ rfl (fun _ => rfl) fun g0 hg => ?_
 refine rn tk 14 rfl ?_
 cases hr
 exact kr tk (.inr rfl) rfl rfl
theorem basic_None_run  (r : TFault) (hr : basic_None = some r) : Run Try.prog 27 [] (.agg [.i r.Code, .i r.Index]) := by
 unfold basic_None at hr
 refine rf (fn := Try.f27) ⟨Try.func27, rfl, by kernel_rfl⟩ rfl (fun _ => rfl) fun g0 hg => ?_
 refine rn tk 12 rfl ?_
 cases hr
 exact kr tk (.inr rfl) rfl rfl
end Go.Proofs.Ytpclhpncmlbccaa

/- Library functions compute what their Lean functions do: what is shared. -/
namespace Go.Proofs.Ytpclhpncmlbccaa
open Go.RowKit
set_option maxRecDepth 100000
theorem str_arg {g : G} {s : Str} {v : Value} (h : Rel g (.s s) v) : v = .string (strB s) := rel_b h
end Go.Proofs.Ytpclhpncmlbccaa

/- Library functions compute what their Lean functions do. -/
namespace Go.Proofs.Ytpclhpncmlbccaa
open Go.RowKit
set_option maxRecDepth 100000
theorem strings_Contains_run (s t : Str) (r : Bool) (hr : strings_Contains s t = some r) : Run Try.prog 33 [.s s, .s t] (.bo r) := by
  unfold strings_Contains at hr
  split at hr
  case isFalse => cases hr
  rename_i hlen
  cases hr
  refine ⟨⟨_, _, ⟨Try.func33, rfl, by kernel_rfl⟩⟩, fun g vs hw hg ha => ?_⟩
  obtain ⟨hsz, hrel⟩ := ha
  obtain ⟨l⟩ := vs
  match l, hsz with
  | [x, y], _ =>
    obtain rfl := str_arg (hrel 0 _ rfl)
    obtain rfl := str_arg (hrel 1 _ rfl)
    obtain ⟨_, _, m, hm⟩ := hg.1 (0, 0) (by simp [globs])
    refine callsIn_wide.2 ((Try.strings_Contains (strB s) (strB t) m g.w (by rw [strB_size]; exact hlen) hm).mono ?_)
    rintro e w' ⟨rfl, rfl⟩
    exact ⟨g, _, rfl, rfl, Old.refl _ g, hw, rfl, .pv (.b rfl)⟩
end Go.Proofs.Ytpclhpncmlbccaa

namespace Go.Proofs.Ytpclhpncmlbccaa
open Go.RowKit
set_option maxRecDepth 100000
set_option maxHeartbeats 40000000
set_option linter.unusedVariables false
theorem internal_stringslite_HasPrefix_run (a0 : Str) (a1 : Str) (r : Bool) (hr : internal_stringslite_HasPrefix a0 a1 = some r) : Run Try.prog 39 [.s a0, .s a1] (.bo r) := by
 unfold internal_stringslite_HasPrefix at hr
 refine rf (fn := Try.f39) ⟨Try.func39, rfl, by kernel_rfl⟩ rfl (fun _ => rfl) fun g0 hg => ?_
 refine rn tk 5 rfl ?_
 refine jb hr (fun j1 => [(4, .bo j1)]) (fun j1 => []) (fun j1 hr => ?_) (fun j1 hr => ?_)
 ·
  refine rn tk 7 rfl ?_
  refine bs 10 hr rfl (fun c2 hr => ?_) (fun c2 hr => ?_)
  ·
   refine rn tk 3 rfl ?_
   obtain ⟨v3, h4, hr⟩ := bind_some hr
   refine ug rfl rfl rfl ?_
   refine wscH tk h4 rfl rfl rfl rfl ?_
   refine rn tk 5 rfl ?_
   cases hr
   exact jn _ rfl rfl rfl
  ·
   refine rn tk 9 rfl ?_
   cases hr
   exact jn _ rfl rfl rfl
 ·
  refine rn tk 1 rfl ?_
  cases hr
  exact kr tk (.inr rfl) rfl rfl
theorem strings_HasPrefix_run (a0 : Str) (a1 : Str) (r : Bool) (hr : strings_HasPrefix a0 a1 = some r) : Run Try.prog 31 [.s a0, .s a1] (.bo r) := by
 unfold strings_HasPrefix at hr
 refine rf (fn := Try.f31) ⟨Try.func31, rfl, by kernel_rfl⟩ rfl (fun _ => rfl) fun g0 hg => ?_
 refine rn tk 9 rfl ?_
 obtain ⟨v1, h2, hr⟩ := bind_some hr
 refine cl (internal_stringslite_HasPrefix_run _ _ _ h2) rfl rfl ?_
 refine rn tk 4 rfl ?_
 cases hr
 exact kr tk (.inr rfl) rfl rfl
theorem internal_stringslite_HasSuffix_run (a0 : Str) (a1 : Str) (r : Bool) (hr : internal_stringslite_HasSuffix a0 a1 = some r) : Run Try.prog 40 [.s a0, .s a1] (.bo r) := by
 unfold internal_stringslite_HasSuffix at hr
 refine rf (fn := Try.f40) ⟨Try.func40, rfl, by kernel_rfl⟩ rfl (fun _ => rfl) fun g0 hg => ?_
 refine rn tk 5 rfl ?_
 refine jb hr (fun j1 => [(4, .bo j1)]) (fun j1 => []) (fun j1 hr => ?_) (fun j1 hr => ?_)
 ·
  refine rn tk 7 rfl ?_
  refine bs 10 hr rfl (fun c2 hr => ?_) (fun c2 hr => ?_)
  ·
   refine rn tk 6 rfl ?_
   obtain ⟨v3, h4, hr⟩ := bind_some hr
   refine ug rfl rfl rfl ?_
   refine wscL tk h4 rfl rfl rfl rfl ?_
   refine rn tk 5 rfl ?_
   cases hr
   exact jn _ rfl rfl rfl
  ·
   refine rn tk 12 rfl ?_
   cases hr
   exact jn _ rfl rfl rfl
 ·
  refine rn tk 1 rfl ?_
  cases hr
  exact kr tk (.inr rfl) rfl rfl
theorem strings_HasSuffix_run (a0 : Str) (a1 : Str) (r : Bool) (hr : strings_HasSuffix a0 a1 = some r) : Run Try.prog 32 [.s a0, .s a1] (.bo r) := by
 unfold strings_HasSuffix at hr
 refine rf (fn := Try.f32) ⟨Try.func32, rfl, by kernel_rfl⟩ rfl (fun _ => rfl) fun g0 hg => ?_
 refine rn tk 9 rfl ?_
 obtain ⟨v1, h2, hr⟩ := bind_some hr
 refine cl (internal_stringslite_HasSuffix_run _ _ _ h2) rfl rfl ?_
 refine rn tk 4 rfl ?_
 cases hr
 exact kr tk (.inr rfl) rfl rfl
theorem envelope_Domain_run (a0 : Str) (r : Bool) (hr : envelope_Domain a0 = some r) : Run Try.prog 18 [.s a0] (.bo r) := by
 unfold envelope_Domain at hr
 refine rf (fn := Try.f18) ⟨Try.func18, rfl, by kernel_rfl⟩ rfl (fun _ => rfl) fun g0 hg => ?_
 refine rn tk 10 rfl ?_
 refine jb hr (fun j1 => [(2, .bo j1)]) (fun j1 => []) (fun j1 hr => ?_) (fun j1 hr => ?_)
 ·
  refine rn tk 4 rfl ?_
  refine bs 6 hr rfl (fun c2 hr => ?_) (fun c2 hr => ?_)
  ·
   refine rn tk 5 rfl ?_
   refine bs 11 hr rfl (fun c3 hr => ?_) (fun c3 hr => ?_)
   ·
    refine rn tk 2 rfl ?_
    refine ug rfl rfl rfl ?_
    refine ct hr (fun j4 => [(0, .s a0), (11, .bo true), (14, .bo j4)]) (fun j4 => []) (fun j4 hr jump4 => ?_) (fun j4 hr => ?_)
    ·
     refine il (fn := Try.f30) (args := [.s a0, .fn (.func 29) [] []]) 400000 499999 [(0, .s a0), (11, .bo true)] rfl ⟨Try.func30, rfl, by kernel_rfl⟩ rfl rfl rfl fun T4 ds4 => ?_
     refine rn tk 14 rfl ?_
     refine al2 hr (fun s5 => [(0, .s a0), (1, .fn (.func 29) [] []), (7, .i ((a0.length : Int))), (8, .i s5)]) (fun s5 => [(499999, .sus g0.w.heap.size ds4), (400000, .hold (.s a0) (T4.getD 0 undef)), (400011, .hold (.bo true) (T4.getD 11 undef))]) (.exit 0) (fun b6 => []) (fun b6 => [(499999, .sus g0.w.heap.size ds4), (400000, .hold (.s a0) (T4.getD 0 undef)), (400011, .hold (.bo true) (T4.getD 11 undef))]) .ret (fun b7 => [(4, .bo false)]) (fun b7 => [(499999, .sus g0.w.heap.size ds4), (400000, .hold (.s a0) (T4.getD 0 undef)), (400011, .hold (.bo true) (T4.getD 11 undef))]) rfl rfl (fun s5 x9 hr => ?_) (fun b6 hr => ?_) (fun b7 hr => ?_)
     ·
      unfold envelope_Domain_l1 at hr
      refine rn tk 6 rfl ?_
      refine ac 9 hr rfl (fun c10 hr => ?_) (fun c10 hr => ?_)
      ·
       refine rn tk 15 rfl ?_
       obtain ⟨v11, h12, hr⟩ := bind_some hr
       refine ws tk h12 rfl rfl rfl rfl ?_
       refine il (fn := Try.f29) (args := [.u8 v11]) 600000 699999 [(0, .s a0), (1, .fn (.func 29) [] []), (7, .i ((a0.length : Int))), (8, .i s5)] rfl ⟨Try.func29, rfl, by kernel_rfl⟩ rfl rfl rfl fun T6 ds6 => ?_
       refine rn tk 5 rfl ?_
       refine jb hr (fun j13 => [(2, .bo j13)]) (fun j13 => [(699999, .sus g0.w.heap.size ds6), (600000, .hold (.s a0) (T6.getD 0 undef)), (600001, .hold (.fn (.func 29) [] []) (T6.getD 1 undef)), (600007, .hold (.i ((a0.length : Int))) (T6.getD 7 undef)), (600008, .hold (.i s5) (T6.getD 8 undef)), (499999, .sus g0.w.heap.size ds4), (400000, .hold (.s a0) (T4.getD 0 undef)), (400011, .hold (.bo true) (T4.getD 11 undef))]) (fun j13 hr => ?_) (fun j13 hr => ?_)
       ·
        refine rn tk 4 rfl ?_
        refine bs 5 hr rfl (fun c14 hr => ?_) (fun c14 hr => ?_)
        ·
         refine rn tk 4 rfl ?_
         refine bs 9 hr rfl (fun c15 hr => ?_) (fun c15 hr => ?_)
         ·
          refine rn tk 17 rfl ?_
          cases hr
          exact jn _ rfl rfl rfl
         ·
          refine rn tk 3 rfl ?_
          refine bs 12 hr rfl (fun c16 hr => ?_) (fun c16 hr => ?_)
          ·
           refine rn tk 5 rfl ?_
           refine bs 17 hr rfl (fun c17 hr => ?_) (fun c17 hr => ?_)
           ·
            refine rn tk 9 rfl ?_
            cases hr
            exact jn _ rfl rfl rfl
           ·
            refine rn tk 4 rfl ?_
            refine bs 21 hr rfl (fun c18 hr => ?_) (fun c18 hr => ?_)
            ·
             refine rn tk 5 rfl ?_
             cases hr
             exact jn _ rfl rfl rfl
            ·
             refine rn tk 5 rfl ?_
             cases hr
             exact jn _ rfl rfl rfl
          ·
           refine rn tk 9 rfl ?_
           refine bs 21 hr rfl (fun c19 hr => ?_) (fun c19 hr => ?_)
           ·
            refine rn tk 5 rfl ?_
            cases hr
            exact jn _ rfl rfl rfl
           ·
            refine rn tk 5 rfl ?_
            cases hr
            exact jn _ rfl rfl rfl
        ·
         refine rn tk 7 rfl ?_
         refine bs 12 hr rfl (fun c20 hr => ?_) (fun c20 hr => ?_)
         ·
          refine rn tk 5 rfl ?_
          refine bs 17 hr rfl (fun c21 hr => ?_) (fun c21 hr => ?_)
          ·
           refine rn tk 9 rfl ?_
           cases hr
           exact jn _ rfl rfl rfl
          ·
           refine rn tk 4 rfl ?_
           refine bs 21 hr rfl (fun c22 hr => ?_) (fun c22 hr => ?_)
           ·
            refine rn tk 5 rfl ?_
            cases hr
            exact jn _ rfl rfl rfl
           ·
            refine rn tk 5 rfl ?_
            cases hr
            exact jn _ rfl rfl rfl
         ·
          refine rn tk 9 rfl ?_
          refine bs 21 hr rfl (fun c23 hr => ?_) (fun c23 hr => ?_)
          ·
           refine rn tk 5 rfl ?_
           cases hr
           exact jn _ rfl rfl rfl
          ·
           refine rn tk 5 rfl ?_
           cases hr
           exact jn _ rfl rfl rfl
       ·
        refine rn tk 1 rfl ?_
        refine ie tk [.bo j13] [(0, .s a0), (1, .fn (.func 29) [] []), (7, .i ((a0.length : Int))), (8, .i s5)] [(499999, .sus g0.w.heap.size ds4), (400000, .hold (.s a0) (T4.getD 0 undef)), (400011, .hold (.bo true) (T4.getD 11 undef))] (.inr rfl) rfl rfl rfl rfl (hO ?_)
        refine rn tk 3 rfl ?_
        refine ac 16 hr rfl (fun c24 hr => ?_) (fun c24 hr => ?_)
        ·
         refine rn tk 8 rfl ?_
         cases hr
         exact ato rfl rfl rfl rfl
        ·
         refine rn tk 7 rfl ?_
         cases hr
         exact atc rfl rfl
      ·
       refine rn tk 2 rfl ?_
       cases hr
       exact ato rfl rfl rfl rfl
     ·
      refine rn tk 8 rfl ?_
      refine ie tk [.bo true] [(0, .s a0), (11, .bo true)] [] (.inr rfl) rfl rfl rfl rfl ?_
      cases hr
      exact jump4 _ _ rfl rfl
     ·
      refine rn tk 2 rfl ?_
      refine ie tk [.bo false] [(0, .s a0), (11, .bo true)] [] (.inr rfl) rfl rfl rfl rfl ?_
      cases hr
      exact jump4 _ _ rfl rfl
    ·
     refine rn tk 2 rfl ?_
     refine bs 16 hr rfl (fun c25 hr => ?_) (fun c25 hr => ?_)
     ·
      refine rn tk 1 rfl ?_
      obtain ⟨v26, h27, hr⟩ := bind_some hr
      refine ug rfl rfl rfl ?_
      refine cl (strings_HasPrefix_run _ _ _ h27) rfl rfl ?_
      refine rn tk 3 rfl ?_
      refine bs 21 hr rfl (fun c28 hr => ?_) (fun c28 hr => ?_)
      ·
       refine rn tk 1 rfl ?_
       obtain ⟨v29, h30, hr⟩ := bind_some hr
       refine ug rfl rfl rfl ?_
       refine cl (strings_HasSuffix_run _ _ _ h30) rfl rfl ?_
       refine rn tk 3 rfl ?_
       refine bs 26 hr rfl (fun c31 hr => ?_) (fun c31 hr => ?_)
       ·
        refine rn tk 1 rfl ?_
        obtain ⟨v32, h33, hr⟩ := bind_some hr
        refine ug rfl rfl rfl ?_
        refine cl (strings_Contains_run _ _ _ h33) rfl rfl ?_
        refine rn tk 4 rfl ?_
        cases hr
        exact jn _ rfl rfl rfl
       ·
        refine rn tk 6 rfl ?_
        cases hr
        exact jn _ rfl rfl rfl
      ·
       refine rn tk 11 rfl ?_
       cases hr
       exact jn _ rfl rfl rfl
     ·
      refine rn tk 16 rfl ?_
      cases hr
      exact jn _ rfl rfl rfl
   ·
    refine rn tk 21 rfl ?_
    cases hr
    exact jn _ rfl rfl rfl
  ·
   refine rn tk 26 rfl ?_
   cases hr
   exact jn _ rfl rfl rfl
 ·
  refine rn tk 1 rfl ?_
  cases hr
  exact kr tk (.inr rfl) rfl rfl
end Go.Proofs.Ytpclhpncmlbccaa

/- Library functions compute what their Lean functions do: strings.CutPrefix. -/
namespace Go.Proofs.Ytpclhpncmlbccaa
open Go.RowKit
set_option maxRecDepth 100000
theorem str_argTp {g : G} {s : Str} {v : Value} (h : Rel g (.s s) v) : v = .string (strB s) := rel_b h
theorem strings_CutPrefix_run (s t : Str) (r : Str × Bool) (hr : strings_CutPrefix s t = some r) : Run Try.prog 38 [.s s, .s t] (.tup [.s r.1, .bo r.2]) := by
  unfold strings_CutPrefix at hr
  cases hr
  refine ⟨⟨_, _, ⟨Try.func38, rfl, by kernel_rfl⟩⟩, fun g vs hw hg ha => ?_⟩
  obtain ⟨hsz, hrel⟩ := ha
  obtain ⟨l⟩ := vs
  match l, hsz with
  | [x, y], _ =>
    obtain rfl := str_argTp (hrel 0 _ rfl)
    obtain rfl := str_argTp (hrel 1 _ rfl)
    refine callsIn_wide.2 ((Try.strings_CutPrefix (strB s) (strB t) g.w).mono ?_)
    rintro e w' ⟨rfl, rfl⟩
    refine ⟨g, _, rfl, rfl, Old.refl _ g, hw, rfl, .tup rfl fun i c hi => ?_⟩
    match i, hi with
    | 0, rfl => exact .pv (.b rfl)
    | 1, rfl => exact .pv (.b rfl)
end Go.Proofs.Ytpclhpncmlbccaa

namespace Go.Proofs.Ytpclhpncmlbccaa
open Go.RowKit
set_option maxRecDepth 100000
set_option maxHeartbeats 40000000
set_option linter.unusedVariables false
theorem routes_pattern_run (a0 : Str) (r : Bool) (hr : routes_pattern a0 = some r) : Run Try.prog 28 [.s a0] (.bo r) := by
 unfold routes_pattern at hr
 refine rf (fn := Try.f28) ⟨Try.func28, rfl, by kernel_rfl⟩ rfl (fun _ => rfl) fun g0 hg => ?_
 refine rn tk 8 rfl ?_
 obtain ⟨v1, h2, hr⟩ := bind_some hr
 refine cl (strings_CutPrefix_run _ _ _ h2) rfl rfl ?_
 refine rn tk 7 rfl ?_
 refine jb hr (fun j3 => [(2, .bo j3)]) (fun j3 => []) (fun j3 hr => ?_) (fun j3 hr => ?_)
 ·
  refine rn tk 4 rfl ?_
  refine bs 12 hr rfl (fun c4 hr => ?_) (fun c4 hr => ?_)
  ·
   refine rn tk 12 rfl ?_
   cases hr
   exact jn _ rfl rfl rfl
  ·
   refine rn tk 2 rfl ?_
   refine bs 14 hr rfl (fun c5 hr => ?_) (fun c5 hr => ?_)
   ·
    refine rn tk 1 rfl ?_
    obtain ⟨v6, h7, hr⟩ := bind_some hr
    refine ug rfl rfl rfl ?_
    refine cl (envelope_Domain_run _ _ h7) rfl rfl ?_
    refine rn tk 3 rfl ?_
    refine bs 19 hr rfl (fun c8 hr => ?_) (fun c8 hr => ?_)
    ·
     refine rn tk 5 rfl ?_
     cases hr
     exact jn _ rfl rfl rfl
    ·
     refine rn tk 1 rfl ?_
     obtain ⟨v9, h10, hr⟩ := bind_some hr
     refine ug rfl rfl rfl ?_
     refine cl (envelope_Domain_run _ _ h10) rfl rfl ?_
     refine rn tk 3 rfl ?_
     cases hr
     exact jn _ rfl rfl rfl
   ·
    refine rn tk 6 rfl ?_
    obtain ⟨v11, h12, hr⟩ := bind_some hr
    refine ug rfl rfl rfl ?_
    refine cl (envelope_Domain_run _ _ h12) rfl rfl ?_
    refine rn tk 3 rfl ?_
    cases hr
    exact jn _ rfl rfl rfl
 ·
  refine rn tk 1 rfl ?_
  cases hr
  exact kr tk (.inr rfl) rfl rfl
theorem routes_Validate_run (a0 : List TRoute) (r : TFault) (hr : routes_Validate a0 = some r) : Run Try.prog 9 [.l TRoute.pc a0] (.agg [.i r.Code, .i r.Index]) := by
 unfold routes_Validate at hr
 refine rf (fn := Try.f9) ⟨Try.func9, rfl, by kernel_rfl⟩ rfl (fun _ => rfl) fun g0 hg => ?_
 refine rn tk 9 rfl ?_
 refine wn tk rfl rfl rfl ?_
 refine rn tk 3 rfl ?_
 refine ac 7 hr rfl (fun c1 hr => ?_) (fun c1 hr => ?_)
 ·
  refine rn tk 2 rfl ?_
  obtain ⟨v2, h3, hr⟩ := bind_some hr
  refine cl (basic_Fault_run _ _ _ h3) rfl rfl ?_
  refine rn tk 5 rfl ?_
  cases hr
  exact kr tk (.inr rfl) rfl rfl
 ·
  refine rn tk 6 rfl ?_
  refine wn tk rfl rfl rfl ?_
  refine rn tk 4 rfl ?_
  refine al2 hr (fun s4 => [(2, .ptr 2 0), (9, .l TRoute.pc a0), (10, .i ((a0.length : Int))), (11, .i s4)]) (fun s4 => [(2, .cells [.i 0, .i 0])]) (.exit 0) (fun b5 => [(2, .ptr 2 0)]) (fun b5 => [(2, .cells [.i 0, .i 0])]) .ret (fun b6 => [(2, .ptr 2 0)]) (fun b6 => [(2, .cells [.i b6.Code, .i b6.Index])]) rfl rfl (fun s4 x8 hr => ?_) (fun b5 hr => ?_) (fun b6 hr => ?_)
  ·
   unfold routes_Validate_l1 at hr
   refine rn tk 6 rfl ?_
   refine ac 12 hr rfl (fun c9 hr => ?_) (fun c9 hr => ?_)
   ·
    refine rn tk 7 rfl ?_
    obtain ⟨v10, h11, hr⟩ := bind_some hr
    refine wi tk h11 rfl rfl rfl rfl rfl ?_
    refine rn tk 7 rfl ?_
    refine jb hr (fun j12 => [(2, .ptr 2 0), (3, .i s4), (4, .ptr 4 0), (9, .l TRoute.pc a0), (10, .i ((a0.length : Int))), (11, .i s4), (25, .bo j12)]) (fun j12 => [(4, .cells [.s v10.Pattern, .s v10.Host, .i v10.Preference]), (2, .cells [.i 0, .i 0])]) (fun j12 hr => ?_) (fun j12 hr => ?_)
    ·
     refine rn tk 3 rfl ?_
     obtain ⟨v13, h14, hr⟩ := bind_some hr
     refine cl (routes_pattern_run _ _ h14) rfl rfl ?_
     refine rn tk 2 rfl ?_
     refine bs 20 hr rfl (fun c15 hr => ?_) (fun c15 hr => ?_)
     ·
      refine rn tk 6 rfl ?_
      cases hr
      exact jn _ rfl rfl rfl
     ·
      refine rn tk 2 rfl ?_
      obtain ⟨v16, h17, hr⟩ := bind_some hr
      refine ug rfl rfl rfl ?_
      refine cl (envelope_Domain_run _ _ h17) rfl rfl ?_
      refine rn tk 3 rfl ?_
      cases hr
      exact jn _ rfl rfl rfl
    ·
     refine ac 25 hr rfl (fun c18 hr => ?_) (fun c18 hr => ?_)
     ·
      refine rn tk 3 rfl ?_
      obtain ⟨v19, h20, hr⟩ := bind_some hr
      refine cl (basic_Fault_run _ _ _ h20) rfl rfl ?_
      refine rn tk 7 rfl ?_
      cases hr
      exact ato rfl rfl rfl rfl
     ·
      refine rn tk 2 rfl ?_
      refine jb hr (fun j21 => [(2, .ptr 2 0), (3, .i s4), (9, .l TRoute.pc a0), (10, .i ((a0.length : Int))), (11, .i s4), (35, .bo j21)]) (fun j21 => [(2, .cells [.i 0, .i 0])]) (fun j21 hr => ?_) (fun j21 hr => ?_)
      ·
       refine rn tk 5 rfl ?_
       refine bs 31 hr rfl (fun c22 hr => ?_) (fun c22 hr => ?_)
       ·
        refine rn tk 5 rfl ?_
        cases hr
        exact jn _ rfl rfl rfl
       ·
        refine rn tk 5 rfl ?_
        cases hr
        exact jn _ rfl rfl rfl
      ·
       refine ac 35 hr rfl (fun c23 hr => ?_) (fun c23 hr => ?_)
       ·
        refine rn tk 3 rfl ?_
        obtain ⟨v24, h25, hr⟩ := bind_some hr
        refine cl (basic_Fault_run _ _ _ h25) rfl rfl ?_
        refine rn tk 6 rfl ?_
        cases hr
        exact ato rfl rfl rfl rfl
       ·
        refine rn tk 7 rfl ?_
        cases hr
        exact atc rfl rfl
   ·
    refine rn tk 2 rfl ?_
    cases hr
    exact ato rfl rfl rfl rfl
  ·
   refine rn tk 4 rfl ?_
   obtain ⟨v26, h27, hr⟩ := bind_some hr
   refine cl (basic_None_run _ h27) rfl rfl ?_
   refine rn tk 4 rfl ?_
   cases hr
   exact kr tk (.inr rfl) rfl rfl
  ·
   refine rn tk 2 rfl ?_
   cases hr
   exact kr tk (.inr rfl) rfl rfl
theorem routes_matches_run (a0 : Str) (a1 : Str) (r : Bool) (hr : routes_matches a0 a1 = some r) : Run Try.prog 34 [.s a0, .s a1] (.bo r) := by
 unfold routes_matches at hr
 refine rf (fn := Try.f34) ⟨Try.func34, rfl, by kernel_rfl⟩ rfl (fun _ => rfl) fun g0 hg => ?_
 refine rn tk 8 rfl ?_
 obtain ⟨v1, h2, hr⟩ := bind_some hr
 refine cl (strings_CutPrefix_run _ _ _ h2) rfl rfl ?_
 refine rn tk 7 rfl ?_
 refine jb hr (fun j3 => [(4, .bo j3)]) (fun j3 => []) (fun j3 hr => ?_) (fun j3 hr => ?_)
 ·
  refine rn tk 3 rfl ?_
  refine bs 13 hr rfl (fun c4 hr => ?_) (fun c4 hr => ?_)
  ·
   refine rn tk 2 rfl ?_
   obtain ⟨v5, h6, hr⟩ := bind_some hr
   refine ug rfl rfl rfl ?_
   refine cl (strings_HasSuffix_run _ _ _ h6) rfl rfl ?_
   refine rn tk 2 rfl ?_
   refine bs 18 hr rfl (fun c7 hr => ?_) (fun c7 hr => ?_)
   ·
    refine rn tk 6 rfl ?_
    cases hr
    exact jn _ rfl rfl rfl
   ·
    refine rn tk 6 rfl ?_
    cases hr
    exact jn _ rfl rfl rfl
  ·
   refine rn tk 11 rfl ?_
   cases hr
   exact jn _ rfl rfl rfl
 ·
  refine rn tk 1 rfl ?_
  cases hr
  exact kr tk (.inr rfl) rfl rfl
theorem routes_best_run (a0 : List TRoute) (a1 : Str) (r : Str) (hr : routes_best a0 a1 = some r) : Run Try.prog 20 [.l TRoute.pc a0, .s a1] (.s r) := by
 unfold routes_best at hr
 refine rf (fn := Try.f20) ⟨Try.func20, rfl, by kernel_rfl⟩ rfl (fun _ => rfl) fun g0 hg => ?_
 refine rn tk 14 rfl ?_
 refine wn tk rfl rfl rfl ?_
 refine rn tk 4 rfl ?_
 refine al2 hr (fun s1 => [(1, .s a1), (5, .s s1.1), (8, .l TRoute.pc a0), (9, .i ((a0.length : Int))), (10, .i s1.2)]) (fun s1 => []) (.exit 0) (fun b2 => [(5, .s b2)]) (fun b2 => []) .ret (fun b3 => [(4, .s b3)]) (fun b3 => []) rfl rfl (fun s1 x5 hr => ?_) (fun b2 hr => ?_) (fun b3 hr => ?_)
 ·
  unfold routes_best_l1 at hr
  refine rn tk 6 rfl ?_
  refine ac 11 hr rfl (fun c6 hr => ?_) (fun c6 hr => ?_)
  ·
   refine rn tk 2 rfl ?_
   refine jk (fun j7 => [(1, .s a1), (5, .s j7), (8, .l TRoute.pc a0), (9, .i ((a0.length : Int))), (10, .i s1.2)]) (fun j7 => []) (fun j7 => routes_best_k2 s1 j7 = some x5) ?_ ?_
   ·
    refine rn tk 3 rfl ?_
    obtain ⟨v8, h9, hr⟩ := bind_some hr
    refine wi tk h9 rfl rfl rfl rfl rfl ?_
    refine rn tk 14 rfl ?_
    refine ac 17 hr rfl (fun c10 hr => ?_) (fun c10 hr => ?_)
    ·
     refine rn tk 10 rfl ?_
     cases hr
     exact ato rfl rfl rfl rfl
    ·
     refine rn tk 2 rfl ?_
     refine jb hr (fun j11 => [(1, .s a1), (5, .s s1.1), (7, .ptr 7 0), (8, .l TRoute.pc a0), (9, .i ((a0.length : Int))), (10, .i s1.2), (30, .bo j11)]) (fun j11 => [(7, .cells [.s v8.Pattern, .s v8.Host, .i v8.Preference])]) (fun j11 hr => ?_) (fun j11 hr => ?_)
     ·
      refine rn tk 4 rfl ?_
      obtain ⟨v12, h13, hr⟩ := bind_some hr
      refine cl (routes_matches_run _ _ _ h13) rfl rfl ?_
      refine rn tk 1 rfl ?_
      refine bs 23 hr rfl (fun c14 hr => ?_) (fun c14 hr => ?_)
      ·
       refine rn tk 8 rfl ?_
       cases hr
       exact jn _ rfl rfl rfl
      ·
       refine rn tk 8 rfl ?_
       cases hr
       exact jn _ rfl rfl rfl
     ·
      refine ac 30 hr rfl (fun c15 hr => ?_) (fun c15 hr => ?_)
      ·
       refine rn tk 6 rfl ?_
       exact jn v8.Pattern hr rfl rfl
      ·
       refine rn tk 2 rfl ?_
       exact jn s1.1 hr rfl rfl
   ·
    intro j7 hr
    unfold routes_best_k2 at hr
    refine rn tk 4 rfl ?_
    cases hr
    exact atc rfl rfl
  ·
   refine rn tk 2 rfl ?_
   cases hr
   exact ato rfl rfl rfl rfl
 ·
  refine rn tk 9 rfl ?_
  cases hr
  exact kr tk (.inr rfl) rfl rfl
 ·
  refine rn tk 2 rfl ?_
  cases hr
  exact kr tk (.inr rfl) rfl rfl
theorem slices_Index_string_string_run (a0 : List Str) (a1 : Str) (r : Int) (hr : slices_Index_string_string a0 a1 = some r) : Run Try.prog 37 [.l cS a0, .s a1] (.i r) := by
 unfold slices_Index_string_string at hr
 refine rf (fn := Try.f37) ⟨Try.func37, rfl, by kernel_rfl⟩ rfl (fun _ => rfl) fun g0 hg => ?_
 refine rn tk 9 rfl ?_
 refine wn tk rfl rfl rfl ?_
 refine rn tk 4 rfl ?_
 refine al2 hr (fun s1 => [(0, .l cS a0), (1, .s a1), (7, .i ((a0.length : Int))), (8, .i s1)]) (fun s1 => []) (.exit 0) (fun b2 => []) (fun b2 => []) .ret (fun b3 => [(4, .i b3)]) (fun b3 => []) rfl rfl (fun s1 x5 hr => ?_) (fun b2 hr => ?_) (fun b3 hr => ?_)
 ·
  unfold slices_Index_string_string_l1 at hr
  refine rn tk 6 rfl ?_
  refine ac 9 hr rfl (fun c6 hr => ?_) (fun c6 hr => ?_)
  ·
   refine rn tk 15 rfl ?_
   obtain ⟨v7, h8, hr⟩ := bind_some hr
   refine wi tk h8 rfl rfl rfl rfl rfl ?_
   refine rn tk 4 rfl ?_
   refine ac 16 hr rfl (fun c9 hr => ?_) (fun c9 hr => ?_)
   ·
    refine rn tk 9 rfl ?_
    cases hr
    exact ato rfl rfl rfl rfl
   ·
    refine rn tk 7 rfl ?_
    cases hr
    exact atc rfl rfl
  ·
   refine rn tk 2 rfl ?_
   cases hr
   exact ato rfl rfl rfl rfl
 ·
  refine rn tk 8 rfl ?_
  cases hr
  exact kr tk (.inr rfl) rfl rfl
 ·
  refine rn tk 2 rfl ?_
  cases hr
  exact kr tk (.inr rfl) rfl rfl
theorem slices_Contains_string_string_run (a0 : List Str) (a1 : Str) (r : Bool) (hr : slices_Contains_string_string a0 a1 = some r) : Run Try.prog 26 [.l cS a0, .s a1] (.bo r) := by
 unfold slices_Contains_string_string at hr
 refine rf (fn := Try.f26) ⟨Try.func26, rfl, by kernel_rfl⟩ rfl (fun _ => rfl) fun g0 hg => ?_
 refine rn tk 9 rfl ?_
 obtain ⟨v1, h2, hr⟩ := bind_some hr
 refine cl (slices_Index_string_string_run _ _ _ h2) rfl rfl ?_
 refine rn tk 5 rfl ?_
 cases hr
 exact kr tk (.inr rfl) rfl rfl
end Go.Proofs.Ytpclhpncmlbccaa

/- The abstract calculus: regions that draw their order, in short forms: what does not change the store is checked by computation. No program is named. -/
namespace Go.Proofs.Ytpclhpncmlbccaa
open Go.RowKit Go.Lib

variable {E : Env} {fr : Fr} {σ : Sto} {K : Post} {T : Tab} {l : List Oper} {cs : List (Option AV)} {all : List Node} {H : List Bool}
theorem MSteps.of : ∀ {is : List Nat}, (∀ i ∈ is, MStep E l cs all H fr σ i) → MSteps E l cs all H fr σ is
  | [], _ => .nil
  | i :: is, h => .cons (h i (by simp)) (MSteps.of fun j hj => h j (by simp [hj]))
def pureQ (T : Tab) (l : List Oper) (cs : List (Option AV)) (fr : Fr) (σ : Sto) (i : Nat) : Option AV := (l[i]?).bind fun o => qval T (purF l cs (allT l) ++ fr).ev σ o.op
def pureC (cs : List (Option AV)) (i : Nat) : Option AV := (cs[i]?).bind id
def restM (l : List Oper) (cs : List (Option AV)) (H : List Bool) (is : List Nat) : List Nat := (mayL l cs H).filter fun i => !is.contains i
theorem ms_all (hT : TabOk E.P T) (is : List Nat) (h1 : ((restM l cs H is).map (pureQ T l cs fr σ), (restM l cs H is).all (fun i => (pureC cs i).isSome)) = ((restM l cs H is).map (pureC cs), true)) (h2 : MSteps E l cs all H fr σ is) : MSteps E l cs all H fr σ (mayL l cs H) := by
  refine MSteps.of fun i hi => ?_
  by_cases hc : is.contains i = true
  · exact h2.get (by simpa using hc)
  · have hm : i ∈ restM l cs H is := by
      unfold restM
      rw [List.mem_filter]
      exact ⟨hi, by simpa using hc⟩
    have e1 := congrArg Prod.fst h1
    have e2 := congrArg Prod.snd h1
    have hq : pureQ T l cs fr σ i = pureC cs i := List.map_inj_left.1 e1 i hm
    have hs : (pureC cs i).isSome = true := List.all_eq_true.1 e2 i hm
    obtain ⟨c, hcc⟩ := Option.isSome_iff_exists.1 hs
    rw [hcc] at hq
    obtain ⟨o, ho, hv⟩ := Option.bind_eq_some_iff.1 hq
    obtain ⟨x, hx, hxc⟩ := Option.bind_eq_some_iff.1 hcc
    have hxc : x = some c := hxc
    subst hxc
    exact .pure ho hx (opG_q (qval_ok hT hv))
theorem mn (hT : TabOk E.P T) (is : List Nat) (h1 : (((List.range l.length).all fun i => !(isHv cs i) || H.getD i false), (restM l cs H is).map (pureQ T l cs fr σ), (restM l cs H is).all (fun i => (pureC cs i).isSome)) = (false, (restM l cs H is).map (pureC cs), true)) (h2 : MSteps E l cs all H fr σ is) : MNode E l cs K all (H, fr, σ) :=
  .step _ rfl (congrArg Prod.fst h1) (ms_all hT is (congrArg Prod.snd h1) h2)
theorem mf (hT : TabOk E.P T) (is : List Nat) (frJ : Fr) (h1 : ((restM l cs H is).map (pureQ T l cs fr σ), (restM l cs H is).all (fun i => (pureC cs i).isSome)) = ((restM l cs H is).map (pureC cs), true)) (h2 : MSteps E l cs all H fr σ is) (hf : FrLe (purF l cs (allT l) ++ fr) frJ) (h : K .normal frJ σ) : MNode E l cs K all (H, fr, σ) :=
  .full _ rfl (ms_all hT is h1 h2) hf stoLe_refl2 h
theorem mst (j : Nat) {i : Nat} {o : Oper} {σ' : Sto} (ho : l[i]? = some o) (h : HvS E o (purF l cs (allT l) ++ fr) σ σ') (e : (cs[i]?, all[j]?) = (some none, some (H.set i true, fr, σ'))) : MStep E l cs all H fr σ i :=
  .sto j ho (congrArg Prod.fst e) h (congrArg Prod.snd e) frLe_refl stoLe_refl2
theorem mz {id : Nat} (cs : List (Option AV)) (mk : Fr → Sto → List Node) (hmix : E.P.follows .mixedOrders = true) (hok : (maskOk E.N l cs, (mk fr σ)[0]?) = (true, some (List.replicate l.length false, fr, σ))) (h : MNodes E l cs K (mk fr σ) (mk fr σ)) : AWP E (.region id l.toArray true) fr σ K :=
  awp_masked cs (mk fr σ) hmix (congrArg Prod.fst hok) (congrArg Prod.snd hok) rfl frLe_refl stoLe_refl2 h
end Go.Proofs.Ytpclhpncmlbccaa

/- The abstract calculus: regions that draw their order, whose stores stand in one line: all by computation. No program is named. -/
namespace Go.Proofs.Ytpclhpncmlbccaa
open Go.RowKit Go.Lib

variable {E : Env} {fr : Fr} {σ : Sto} {K : Post} {T : Tab} {l : List Oper} {cs : List (Option AV)} {all : List Node} {H : List Bool}
def tget : List (Nat × AV) → Nat → Option AV
  | [], _ => none
  | (k, c) :: r, i => bif Nat.beq k i then some c else tget r i
inductive Told (E : Env) (l : List Oper) (cs : List (Option AV)) (fr : Fr) (L : List Sto) : List (Nat × AV) → Prop
  | nil : Told E l cs fr L []
  | cons {i : Nat} {c : AV} {o : Oper} {r : List (Nat × AV)} (ho : l[i]? = some o) (hc : cs[i]? = some (some c)) (h : ∀ s, s ∈ L → OpG E o (purF l cs (allT l) ++ fr) s c) (hr : Told E l cs fr L r) : Told E l cs fr L ((i, c) :: r)
theorem Told.get {L : List Sto} {tl : List (Nat × AV)} (h : Told E l cs fr L tl) {i : Nat} (hi : (tget tl i).isSome = true) : ∃ o c, l[i]? = some o ∧ cs[i]? = some (some c) ∧ ∀ s, s ∈ L → OpG E o (purF l cs (allT l) ++ fr) s c := by
  induction h with
  | nil => cases hi
  | @cons k c o r ho hc h _ ih =>
    unfold tget at hi
    cases hb : Nat.beq k i with
    | true =>
      have := Nat.eq_of_beq_eq_true hb
      subst this
      exact ⟨o, c, ho, hc, h⟩
    | false => rw [hb] at hi; exact ih hi
theorem MNodes.of : ∀ {r : List Node}, (∀ nd ∈ r, MNode E l cs K all nd) → MNodes E l cs K all r
  | [], _ => .nil
  | nd :: r, h => .cons (h nd (by simp)) (MNodes.of fun x hx => h x (by simp [hx]))
end Go.Proofs.Ytpclhpncmlbccaa

namespace Go.Proofs.Ytpclhpncmlbccaa
open Go.RowKit
set_option maxRecDepth 100000
set_option maxHeartbeats 40000000
set_option linter.unusedVariables false
theorem slices_insertionSortCmpFunc_api_Route_run (a0 : List TRoute) (a1 : Int) (a2 : Int) (r : List TRoute) (hr : slices_insertionSortCmpFunc_api_Route a0 a1 a2 = some r) : RunS Try.prog 42 [.hs 90009000 0, .i a1, .i a2, .fn (.func 25) [] []] [(90009000, .row 36 true 3 (List.map TRoute.pc a0))] (.tup []) [(90009000, .row 36 true 3 (List.map TRoute.pc r))] 90009000 [] := by
 unfold slices_insertionSortCmpFunc_api_Route at hr
 obtain ⟨hne, hr⟩ := rowne hr
 refine rfW (fn := Try.f42) (H := 90009999) ⟨Try.func42, rfl, by kernel_rfl⟩ rfl (fun _ => rfl) rfl rfl rfl (hne _) rfl rfl rfl rfl rfl fun g0 hg S sg T => ?_
 refine rn tk 8 rfl ?_
 refine al1 hr (fun s1 => [(0, .hs 90009000 0), (1, .i a1), (2, .i a2), (3, .fn (.func 25) [] []), (8, .i s1.1)]) (fun s1 => [(90009999, .hold (.hs 90009000 0) (T.getD 0 undef)), (90009000, .row 36 true 3 (List.map TRoute.pc s1.2))]) (.exit 0) (fun b2 => []) (fun b2 => [(90009999, .hold (.hs 90009000 0) (T.getD 0 undef)), (90009000, .row 36 true 3 (List.map TRoute.pc b2))]) rfl rfl (fun s1 x3 hr => ?_) (fun b2 hr => ?_)
 ·
  unfold slices_insertionSortCmpFunc_api_Route_l1 at hr
  refine rn tk 8 rfl ?_
  refine ac 14 hr rfl (fun c4 hr => ?_) (fun c4 hr => ?_)
  ·
   refine rn tk 11 rfl ?_
   refine al1 hr (fun s5 => [(0, .hs 90009000 0), (1, .i a1), (2, .i a2), (3, .fn (.func 25) [] []), (8, .i s1.1), (9, .i s5.1)]) (fun s5 => [(90009999, .hold (.hs 90009000 0) (T.getD 0 undef)), (90009000, .row 36 true 3 (List.map TRoute.pc s5.2))]) (.exit 2) (fun b6 => [(0, .hs 90009000 0), (1, .i a1), (2, .i a2), (3, .fn (.func 25) [] []), (8, .i s1.1)]) (fun b6 => [(90009999, .hold (.hs 90009000 0) (T.getD 0 undef)), (90009000, .row 36 true 3 (List.map TRoute.pc b6))]) rfl rfl (fun s5 x7 hr => ?_) (fun b6 hr => ?_)
   ·
    unfold slices_insertionSortCmpFunc_api_Route_l2 at hr
    refine rn tk 1 rfl ?_
    refine jb hr (fun j8 => [(0, .hs 90009000 0), (1, .i a1), (2, .i a2), (3, .fn (.func 25) [] []), (8, .i s1.1), (9, .i s5.1), (34, .bo j8)]) (fun j8 => [(90009999, .hold (.hs 90009000 0) (T.getD 0 undef)), (90009000, .row 36 true 3 (List.map TRoute.pc s5.2))]) (fun j8 hr => ?_) (fun j8 hr => ?_)
    ·
     refine bool_split (decide (a1 < s5.1)) (fun c9 => ?_) (fun c9 => ?_)
     ·
      replace hr := cond_t c9 hr
      obtain ⟨v10, h11, hr⟩ := bind_some hr
      obtain ⟨v12, h13, hr⟩ := bind_some hr
      obtain ⟨v14, h15, hr⟩ := bind_some hr
      obtain ⟨v16, h17, hr⟩ := bind_some hr
      refine dr 14 [(31, .agg [.s v16.Pattern, .s v16.Host, .i v16.Preference]), (30, .hp 90009000 (Int.toNat ((w64 (s5.1 - 1)))) 0), (29, .i ((w64 (s5.1 - 1)))), (28, .i s5.1), (27, .hs 90009000 0), (26, .agg [.s v12.Pattern, .s v12.Host, .i v12.Preference]), (25, .hp 90009000 (Int.toNat s5.1) 0), (24, .i s5.1), (23, .hs 90009000 0), (22, .fn (.func 25) [] []), (21, .bo (decide (a1 < s5.1))), (20, .bo (decide (a1 < s5.1))), (19, .i a1), (18, .i s5.1)] mixed (by kernel_rfl) rfl rfl (pq tk rfl (.plain rfl) (pq tk rfl (.plain rfl) (pq tk rfl (.plain rfl) (pq tk rfl (.plain rfl) (pq tk rfl (.yes (d := 21) rfl rfl rfl c9) (pq tk rfl (.yes (d := 21) rfl rfl rfl c9) (pq tk rfl (.yes (d := 21) rfl rfl rfl c9) (.run (.yes (d := 21) rfl rfl rfl c9) (opG_q (ev_hidx (F := TRoute.pc) (l := s5.2) (n := s5.1) rfl rfl rfl ty_s_api_Route ty_api_Route h11)) (.run (.yes (d := 21) rfl rfl rfl c9) (opG_q (ev_hloadN (F := TRoute.pc) (l := s5.2) (n := s5.1) (j := 0) rfl rfl ty_api_Route rfl h13 rfl)) (pq tk rfl (.yes (d := 21) rfl rfl rfl c9) (pq tk rfl (.yes (d := 21) rfl rfl rfl c9) (pq tk rfl (.yes (d := 21) rfl rfl rfl c9) (.run (.yes (d := 21) rfl rfl rfl c9) (opG_q (ev_hidx (F := TRoute.pc) (l := s5.2) (n := ((w64 (s5.1 - 1)))) rfl rfl rfl ty_s_api_Route ty_api_Route h15)) (.run (.yes (d := 21) rfl rfl rfl c9) (opG_q (ev_hloadN (F := TRoute.pc) (l := s5.2) (n := ((w64 (s5.1 - 1)))) (j := 0) rfl rfl ty_api_Route rfl h17 rfl)) .nil)))))))))))))) rfl ?_
      refine kn 21 c9 rfl ?_
      refine ug rfl rfl rfl ?_
      refine il (fn := Try.f25) (args := [.agg [.s v12.Pattern, .s v12.Host, .i v12.Preference], .agg [.s v16.Pattern, .s v16.Host, .i v16.Preference]]) 1800000 1899999 [(0, .hs 90009000 0), (1, .i a1), (2, .i a2), (3, .fn (.func 25) [] []), (8, .i s1.1), (9, .i s5.1), (21, .bo true), (22, .fn (.func 25) [] []), (23, .hs 90009000 0), (24, .i s5.1), (25, .hp 90009000 (Int.toNat s5.1) 0), (26, .agg [.s v12.Pattern, .s v12.Host, .i v12.Preference]), (27, .hs 90009000 0), (28, .i s5.1), (29, .i ((w64 (s5.1 - 1)))), (30, .hp 90009000 (Int.toNat ((w64 (s5.1 - 1)))) 0), (31, .agg [.s v16.Pattern, .s v16.Host, .i v16.Preference])] rfl ⟨Try.func25, rfl, by kernel_rfl⟩ rfl rfl rfl fun T18 ds18 => ?_
      refine rn tk 18 rfl ?_
      refine ie tk [.i ((w64 (v12.Preference - v16.Preference)))] [(0, .hs 90009000 0), (1, .i a1), (2, .i a2), (3, .fn (.func 25) [] []), (8, .i s1.1), (9, .i s5.1), (21, .bo true), (22, .fn (.func 25) [] []), (23, .hs 90009000 0), (24, .i s5.1), (25, .hp 90009000 (Int.toNat s5.1) 0), (26, .agg [.s v12.Pattern, .s v12.Host, .i v12.Preference]), (27, .hs 90009000 0), (28, .i s5.1), (29, .i ((w64 (s5.1 - 1)))), (30, .hp 90009000 (Int.toNat ((w64 (s5.1 - 1)))) 0), (31, .agg [.s v16.Pattern, .s v16.Host, .i v16.Preference])] [(3, .cells [.s v16.Pattern, .s v16.Host, .i v16.Preference]), (2, .cells [.s v12.Pattern, .s v12.Host, .i v12.Preference]), (90009999, .hold (.hs 90009000 0) (T.getD 0 undef)), (90009000, .row 36 true 3 (List.map TRoute.pc s5.2))] (.inr rfl) rfl rfl rfl rfl (hO ?_)
      refine rn tk 3 rfl ?_
      cases hr
      exact jn _ rfl rfl rfl
     ·
      replace hr := cond_f c9 hr
      refine dr 14 [(31, .tup []), (30, .tup []), (29, .tup []), (28, .tup []), (27, .tup []), (26, .tup []), (25, .tup []), (24, .tup []), (23, .tup []), (22, .tup []), (21, .bo (decide (a1 < s5.1))), (20, .bo (decide (a1 < s5.1))), (19, .i a1), (18, .i s5.1)] mixed (by kernel_rfl) rfl rfl (pq tk rfl (.plain rfl) (pq tk rfl (.plain rfl) (pq tk rfl (.plain rfl) (pq tk rfl (.plain rfl) (.skip (.no (d := 21) rfl rfl rfl c9) (.skip (.no (d := 21) rfl rfl rfl c9) (.skip (.no (d := 21) rfl rfl rfl c9) (.skip (.no (d := 21) rfl rfl rfl c9) (.skip (.no (d := 21) rfl rfl rfl c9) (.skip (.no (d := 21) rfl rfl rfl c9) (.skip (.no (d := 21) rfl rfl rfl c9) (.skip (.no (d := 21) rfl rfl rfl c9) (.skip (.no (d := 21) rfl rfl rfl c9) (.skip (.no (d := 21) rfl rfl rfl c9) .nil)))))))))))))) rfl ?_
      refine kn 21 c9 rfl ?_
      refine rn tk 4 rfl ?_
      cases hr
      exact jn _ rfl rfl rfl
    ·
     refine ac 34 hr rfl (fun c18 hr => ?_) (fun c18 hr => ?_)
     ·
      refine rn tk 4 rfl ?_
      obtain ⟨v19, h20, hr⟩ := bind_some hr
      obtain ⟨v21, h22, hr⟩ := bind_some hr
      obtain ⟨v23, h24, hr⟩ := bind_some hr
      obtain ⟨v25, h26, hr⟩ := bind_some hr
      obtain ⟨v27, h28, hr⟩ := bind_some hr
      obtain ⟨v29, h30, hr⟩ := bind_some hr
      obtain ⟨v31, h32, hr⟩ := bind_some hr
      obtain ⟨v33, h34, hr⟩ := bind_some hr
      refine mz [some (.hs 90009000 0), some (.i s5.1), some (.hs 90009000 0), some (.i s5.1), some (.i ((w64 (s5.1 - 1)))), some (.hs 90009000 0), some (.i s5.1), some (.i ((w64 (s5.1 - 1)))), some (.hp 90009000 (Int.toNat ((w64 (s5.1 - 1)))) 0), some (.agg [.s v21.Pattern, .s v21.Host, .i v21.Preference]), some (.hs 90009000 0), some (.i s5.1), some (.hp 90009000 (Int.toNat s5.1) 0), some (.agg [.s v25.Pattern, .s v25.Host, .i v25.Preference]), some (.hp 90009000 (Int.toNat s5.1) 0), none, some (.hp 90009000 (Int.toNat ((w64 (s5.1 - 1)))) 0), none] (fun f s => [((bt 18 0), f, s), ((bt 18 32768), f, (Sto.upd s 90009000 (.row 36 true 3 (List.map TRoute.pc ((List.set s5.2 (Int.toNat s5.1) v21)))))), ((bt 18 163840), f, (Sto.upd (Sto.upd s 90009000 (.row 36 true 3 (List.map TRoute.pc ((List.set s5.2 (Int.toNat s5.1) v21))))) 90009000 (.row 36 true 3 (List.map TRoute.pc ((List.set ((List.set s5.2 (Int.toNat s5.1) v21)) (Int.toNat ((w64 (s5.1 - 1)))) v25))))))]) mixed (by kernel_rfl) (.cons (mn tk [8, 9, 12, 13, 14, 15] (by kernel_rfl) (.cons (.pure rfl rfl (opG_q (ev_hidx (F := TRoute.pc) (l := s5.2) (n := ((w64 (s5.1 - 1)))) rfl rfl rfl ty_s_api_Route ty_api_Route h20))) (.cons (.pure rfl rfl (opG_q (ev_hloadN (F := TRoute.pc) (l := s5.2) (n := ((w64 (s5.1 - 1)))) (j := 0) rfl rfl ty_api_Route rfl h22 rfl))) (.cons (.pure rfl rfl (opG_q (ev_hidx (F := TRoute.pc) (l := s5.2) (n := s5.1) rfl rfl rfl ty_s_api_Route ty_api_Route h24))) (.cons (.pure rfl rfl (opG_q (ev_hloadN (F := TRoute.pc) (l := s5.2) (n := s5.1) (j := 0) rfl rfl ty_api_Route rfl h26 rfl))) (.cons (.pure rfl rfl (opG_q (ev_hidx (F := TRoute.pc) (l := s5.2) (n := s5.1) rfl rfl rfl ty_s_api_Route ty_api_Route h28))) (.cons (mst 1 rfl (hv_hstore (F := TRoute.pc) (l := s5.2) (n := s5.1) (j := 0) (v := v29) (v' := v21) (pcs := [pS v21.Pattern, pS v21.Host, pI v21.Preference]) rfl rfl rfl ty_api_Route rfl h30 rfl rfl) (by kernel_rfl)) .nil))))))) (.cons (mn tk [16, 17] (by kernel_rfl) (.cons (.pure rfl rfl (opG_q (ev_hidx (F := TRoute.pc) (l := ((List.set s5.2 (Int.toNat s5.1) v21))) (n := ((w64 (s5.1 - 1)))) rfl rfl rfl ty_s_api_Route ty_api_Route h32))) (.cons (mst 2 rfl (hv_hstore (F := TRoute.pc) (l := ((List.set s5.2 (Int.toNat s5.1) v21))) (n := ((w64 (s5.1 - 1)))) (j := 0) (v := v33) (v' := v25) (pcs := [pS v25.Pattern, pS v25.Host, pI v25.Preference]) rfl rfl rfl ty_api_Route rfl h34 rfl rfl) (by kernel_rfl)) .nil))) (.cons (mf tk [] [(0, .hs 90009000 0), (1, .i a1), (2, .i a2), (3, .fn (.func 25) [] []), (8, .i s1.1), (9, .i s5.1)] (by kernel_rfl) .nil (fc rfl (fc rfl (fc rfl (fc rfl (fc rfl (fc rfl fn)))))) (hA ?_)) .nil)))
      refine rn tk 7 rfl ?_
      cases hr
      exact atc rfl rfl
     ·
      refine rn tk 2 rfl ?_
      cases hr
      exact ato rfl rfl rfl rfl
   ·
    refine rn tk 8 rfl ?_
    cases hr
    exact atc rfl rfl
  ·
   refine rn tk 2 rfl ?_
   cases hr
   exact ato rfl rfl rfl rfl
 ·
  refine rn tk 1 rfl ?_
  cases hr
  exact krS tk (.inl rfl) rfl rfl (stoLe_cons rfl (stoLe_cons rfl stoLe_nil))
theorem slices_swapRangeCmpFunc_api_Route_run (a0 : List TRoute) (a1 : Int) (a2 : Int) (a3 : Int) (r : List TRoute) (hr : slices_swapRangeCmpFunc_api_Route a0 a1 a2 a3 = some r) : RunS Try.prog 51 [.hs 90009000 0, .i a1, .i a2, .i a3, .fn (.func 25) [] []] [(90009000, .row 36 true 3 (List.map TRoute.pc a0))] (.tup []) [(90009000, .row 36 true 3 (List.map TRoute.pc r))] 90009000 [] := by
 unfold slices_swapRangeCmpFunc_api_Route at hr
 obtain ⟨hne, hr⟩ := rowne hr
 refine rfW (fn := Try.f51) (H := 90009999) ⟨Try.func51, rfl, by kernel_rfl⟩ rfl (fun _ => rfl) rfl rfl rfl (hne _) rfl rfl rfl rfl rfl fun g0 hg S sg T => ?_
 refine rn tk 6 rfl ?_
 refine al1 hr (fun s1 => [(0, .hs 90009000 0), (1, .i a1), (2, .i a2), (3, .i a3), (10, .i s1.1)]) (fun s1 => [(90009999, .hold (.hs 90009000 0) (T.getD 0 undef)), (90009000, .row 36 true 3 (List.map TRoute.pc s1.2))]) (.exit 0) (fun b2 => []) (fun b2 => [(90009999, .hold (.hs 90009000 0) (T.getD 0 undef)), (90009000, .row 36 true 3 (List.map TRoute.pc b2))]) rfl rfl (fun s1 x3 hr => ?_) (fun b2 hr => ?_)
 ·
  unfold slices_swapRangeCmpFunc_api_Route_l1 at hr
  refine rn tk 8 rfl ?_
  refine ac 13 hr rfl (fun c4 hr => ?_) (fun c4 hr => ?_)
  ·
   refine rn tk 4 rfl ?_
   obtain ⟨v5, h6, hr⟩ := bind_some hr
   obtain ⟨v7, h8, hr⟩ := bind_some hr
   obtain ⟨v9, h10, hr⟩ := bind_some hr
   obtain ⟨v11, h12, hr⟩ := bind_some hr
   obtain ⟨v13, h14, hr⟩ := bind_some hr
   obtain ⟨v15, h16, hr⟩ := bind_some hr
   obtain ⟨v17, h18, hr⟩ := bind_some hr
   obtain ⟨v19, h20, hr⟩ := bind_some hr
   refine mz [some (.hs 90009000 0), some (.i a1), some (.i s1.1), some (.i ((w64 (a1 + s1.1)))), some (.hs 90009000 0), some (.i a2), some (.i s1.1), some (.i ((w64 (a2 + s1.1)))), some (.hs 90009000 0), some (.i a2), some (.i s1.1), some (.i ((w64 (a2 + s1.1)))), some (.hp 90009000 (Int.toNat ((w64 (a2 + s1.1)))) 0), some (.agg [.s v7.Pattern, .s v7.Host, .i v7.Preference]), some (.hs 90009000 0), some (.i a1), some (.i s1.1), some (.i ((w64 (a1 + s1.1)))), some (.hp 90009000 (Int.toNat ((w64 (a1 + s1.1)))) 0), some (.agg [.s v11.Pattern, .s v11.Host, .i v11.Preference]), some (.hp 90009000 (Int.toNat ((w64 (a1 + s1.1)))) 0), none, some (.hp 90009000 (Int.toNat ((w64 (a2 + s1.1)))) 0), none] (fun f s => [((bt 24 0), f, s), ((bt 24 2097152), f, (Sto.upd s 90009000 (.row 36 true 3 (List.map TRoute.pc ((List.set s1.2 (Int.toNat ((w64 (a1 + s1.1)))) v7)))))), ((bt 24 10485760), f, (Sto.upd (Sto.upd s 90009000 (.row 36 true 3 (List.map TRoute.pc ((List.set s1.2 (Int.toNat ((w64 (a1 + s1.1)))) v7))))) 90009000 (.row 36 true 3 (List.map TRoute.pc ((List.set ((List.set s1.2 (Int.toNat ((w64 (a1 + s1.1)))) v7)) (Int.toNat ((w64 (a2 + s1.1)))) v11))))))]) mixed (by kernel_rfl) (.cons (mn tk [12, 13, 18, 19, 20, 21] (by kernel_rfl) (.cons (.pure rfl rfl (opG_q (ev_hidx (F := TRoute.pc) (l := s1.2) (n := ((w64 (a2 + s1.1)))) rfl rfl rfl ty_s_api_Route ty_api_Route h6))) (.cons (.pure rfl rfl (opG_q (ev_hloadN (F := TRoute.pc) (l := s1.2) (n := ((w64 (a2 + s1.1)))) (j := 0) rfl rfl ty_api_Route rfl h8 rfl))) (.cons (.pure rfl rfl (opG_q (ev_hidx (F := TRoute.pc) (l := s1.2) (n := ((w64 (a1 + s1.1)))) rfl rfl rfl ty_s_api_Route ty_api_Route h10))) (.cons (.pure rfl rfl (opG_q (ev_hloadN (F := TRoute.pc) (l := s1.2) (n := ((w64 (a1 + s1.1)))) (j := 0) rfl rfl ty_api_Route rfl h12 rfl))) (.cons (.pure rfl rfl (opG_q (ev_hidx (F := TRoute.pc) (l := s1.2) (n := ((w64 (a1 + s1.1)))) rfl rfl rfl ty_s_api_Route ty_api_Route h14))) (.cons (mst 1 rfl (hv_hstore (F := TRoute.pc) (l := s1.2) (n := ((w64 (a1 + s1.1)))) (j := 0) (v := v15) (v' := v7) (pcs := [pS v7.Pattern, pS v7.Host, pI v7.Preference]) rfl rfl rfl ty_api_Route rfl h16 rfl rfl) (by kernel_rfl)) .nil))))))) (.cons (mn tk [22, 23] (by kernel_rfl) (.cons (.pure rfl rfl (opG_q (ev_hidx (F := TRoute.pc) (l := ((List.set s1.2 (Int.toNat ((w64 (a1 + s1.1)))) v7))) (n := ((w64 (a2 + s1.1)))) rfl rfl rfl ty_s_api_Route ty_api_Route h18))) (.cons (mst 2 rfl (hv_hstore (F := TRoute.pc) (l := ((List.set s1.2 (Int.toNat ((w64 (a1 + s1.1)))) v7))) (n := ((w64 (a2 + s1.1)))) (j := 0) (v := v19) (v' := v11) (pcs := [pS v11.Pattern, pS v11.Host, pI v11.Preference]) rfl rfl rfl ty_api_Route rfl h20 rfl rfl) (by kernel_rfl)) .nil))) (.cons (mf tk [] [(0, .hs 90009000 0), (1, .i a1), (2, .i a2), (3, .i a3), (10, .i s1.1)] (by kernel_rfl) .nil (fc rfl (fc rfl (fc rfl (fc rfl (fc rfl fn))))) (hA ?_)) .nil)))
   refine rn tk 7 rfl ?_
   cases hr
   exact atc rfl rfl
  ·
   refine rn tk 2 rfl ?_
   cases hr
   exact ato rfl rfl rfl rfl
 ·
  refine rn tk 1 rfl ?_
  cases hr
  exact krS tk (.inl rfl) rfl rfl (stoLe_cons rfl (stoLe_cons rfl stoLe_nil))
theorem slices_rotateCmpFunc_api_Route_run (a0 : List TRoute) (a1 : Int) (a2 : Int) (a3 : Int) (r : List TRoute) (hr : slices_rotateCmpFunc_api_Route a0 a1 a2 a3 = some r) : RunS Try.prog 46 [.hs 90009000 0, .i a1, .i a2, .i a3, .fn (.func 25) [] []] [(90009000, .row 36 true 3 (List.map TRoute.pc a0))] (.tup []) [(90009000, .row 36 true 3 (List.map TRoute.pc r))] 90009000 [] := by
 unfold slices_rotateCmpFunc_api_Route at hr
 obtain ⟨hne, hr⟩ := rowne hr
 refine rfW (fn := Try.f46) (H := 90009999) ⟨Try.func46, rfl, by kernel_rfl⟩ rfl (fun _ => rfl) rfl rfl rfl (hne _) rfl rfl rfl rfl rfl fun g0 hg S sg T => ?_
 refine rn tk 18 rfl ?_
 refine al1 hr (fun s1 => [(0, .hs 90009000 0), (2, .i a2), (4, .fn (.func 25) [] []), (10, .i s1.1), (11, .i s1.2.1)]) (fun s1 => [(90009999, .hold (.hs 90009000 0) (T.getD 0 undef)), (90009000, .row 36 true 3 (List.map TRoute.pc s1.2.2))]) (.exit 0) (fun b2 => [(0, .hs 90009000 0), (2, .i a2), (4, .fn (.func 25) [] []), (10, .i b2.1)]) (fun b2 => [(90009999, .hold (.hs 90009000 0) (T.getD 0 undef)), (90009000, .row 36 true 3 (List.map TRoute.pc b2.2))]) rfl rfl (fun s1 x3 hr => ?_) (fun b2 hr => ?_)
 ·
  unfold slices_rotateCmpFunc_api_Route_l1 at hr
  refine rn tk 8 rfl ?_
  refine ac 20 hr rfl (fun c4 hr => ?_) (fun c4 hr => ?_)
  ·
   refine rn tk 10 rfl ?_
   refine ac 23 hr rfl (fun c5 hr => ?_) (fun c5 hr => ?_)
   ·
    refine rn tk 9 rfl ?_
    obtain ⟨v6, h7, hr⟩ := bind_some hr
    refine wo (opTo_callS (k := 31) (slices_swapRangeCmpFunc_api_Route_run s1.2.2 ((w64 (a2 - s1.1))) a2 s1.2.1 v6 h7) rfl rfl (stoLe_cons rfl stoLe_nil)) rfl ?_
    refine rn tk 9 rfl ?_
    cases hr
    exact atc rfl rfl
   ·
    refine rn tk 13 rfl ?_
    obtain ⟨v8, h9, hr⟩ := bind_some hr
    refine wo (opTo_callS (k := 46) (slices_swapRangeCmpFunc_api_Route_run s1.2.2 ((w64 (a2 - s1.1))) ((w64 ((w64 (a2 + s1.2.1)) - s1.1))) s1.1 v8 h9) rfl rfl (stoLe_cons rfl stoLe_nil)) rfl ?_
    refine rn tk 9 rfl ?_
    cases hr
    exact atc rfl rfl
  ·
   refine rn tk 2 rfl ?_
   cases hr
   exact ato rfl rfl rfl rfl
 ·
  refine rn tk 10 rfl ?_
  obtain ⟨v10, h11, hr⟩ := bind_some hr
  refine wo (opTo_callS (k := 57) (slices_swapRangeCmpFunc_api_Route_run b2.2 ((w64 (a2 - b2.1))) a2 b2.1 v10 h11) rfl rfl (stoLe_cons rfl stoLe_nil)) rfl ?_
  refine rn tk 1 rfl ?_
  cases hr
  exact krS tk (.inl rfl) rfl rfl (stoLe_cons rfl (stoLe_cons rfl stoLe_nil))
end Go.Proofs.Ytpclhpncmlbccaa

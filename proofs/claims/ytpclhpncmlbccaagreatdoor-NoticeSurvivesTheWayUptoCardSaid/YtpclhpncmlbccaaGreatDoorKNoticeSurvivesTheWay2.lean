/- Part 2 of the proof of the law NoticeSurvivesTheWay: what it needs. -/
import Derived.Test.YtpclhpncmlbccaaGreatDoorKNoticeSurvivesTheWay1
import Derived.RangeFuncIn
import Derived.RangeFuncRecord
import Derived.MapKept
import Derived.Laws.Cover3
import Derived.Laws.RangeAny
import Derived.Lib.AppendZeros
set_option linter.unusedVariables false
set_option linter.unusedSimpArgs false
/- The abstract calculus: regions that draw their order: reads and calls in any order, then the rest in the text's order. No program is named. -/
namespace Go.Proofs.YtpclhpncmlbccaaGreatDoor
open Go.RowKit Go.Lib

/-- an operation that turns nothing that was there: by its operands alone -/
structure OpG (E : Env) (o : Oper) (fr : Fr) (σ : Sto) (c : AV) : Prop where
  go : ∀ g a (K : Act → World → Prop) (Q : Exit → Act → World → Prop), (∀ x ∈ o.op.operands, Rel g (fr.ev x) (a.eval x)) → Sok E.S E.g0 g σ → (∀ g' v, Old (fun _ => False) g g' → Wf g' → g'.loc = g.loc → Rel g' c v → K (a.put o.dst v) g'.w) → o.wpIn (fen E.rd) 0 E.P a g.w K Q

variable {E : Env} {fr : Fr} {σ : Sto} {K : Post}
theorem opG_q {o : Oper} {c : AV} (h : EvQ E.P o fr.ev σ c) : OpG E o fr σ c :=
  ⟨fun g a K Q hx hs hK => by
    obtain ⟨v, hr, hv⟩ := h.run g a.eval hx hs.obj
    refine ⟨fun _ _ => trivial, ?_⟩
    rw [Oper.semAt_plain _ _ _ h.nd, hr, Oper.uponIn_value]
    exact hK g v (Old.refl _ g) hs.wf rfl hv⟩
theorem opG_call {f : FuncId} {dst : Option Tmp} {ty : TypeId} {pos : String} {af : Array Edge} {gu : Option (Nat × Bool)} {xs : List Operand} {ats : Array TypeId} {args : List AV} {r : AV} (hr : Run E.P f args r) (ha : xs.map (fun x => (fr.ev x).weak) = args) :
    OpG E ⟨dst, .call ⟨.value (.func f), xs.toArray, ats⟩, ty, pos, af, gu⟩ fr σ r :=
  ⟨fun g a K Q hx hs hK => by
    obtain ⟨fn, c, hok⟩ := hr.ok
    refine ⟨fun _ _ => trivial, ?_⟩
    rw [Oper.semAt_plain _ _ _ (fun c => by simp), run_call_op hok (first := #[]) (cap := #[]) rfl, Oper.uponIn_enter]
    refine ⟨fun h => by simp [fen] at h, ?_⟩
    have hargs : RelArgs g args (#[] ++ xs.toArray.map a.eval ++ #[]) := by
      subst ha
      refine ⟨by simp, fun i c hi => ?_⟩
      simp only [List.getElem?_map, Option.map_eq_some_iff] at hi
      obtain ⟨x, hx', rfl⟩ := hi
      have := rel_weak (hx x (by simp [Op.operands, Call.operands]; exact .inr (List.mem_of_getElem? hx')))
      simpa [hx'] using this
    refine (callsIn_fen (hr.run g _ hs.wf (E.glOf hs) hargs)).mono ?_
    rintro e w' ⟨g', v, rfl, hl, ho, hw, rfl, hv⟩
    exact hK g' v ho hw hl hv⟩

/-- the guard of an operation says yes, no -/
inductive GuardYes (ops : Array Oper) (fr : Fr) (o : Oper) : Prop
  | plain (h : o.guard = none)
  | yes {j d : Nat} {want t : Bool} (hg : o.guard = some (j, want)) (hj : (ops[j]?).bind (·.dst) = some d) (hv : fr.get d = .pv (.b (.bool t))) (ht : t = want)
inductive GuardNo (ops : Array Oper) (fr : Fr) (o : Oper) : Prop
  | no {j d : Nat} {want t : Bool} (hg : o.guard = some (j, want)) (hj : (ops[j]?).bind (·.dst) = some d) (hv : fr.get d = .pv (.b (.bool t))) (ht : t = !want)
  | none {j d : Nat} {want : Bool} (hg : o.guard = some (j, want)) (hj : (ops[j]?).bind (·.dst) = some d) (hv : fr.get d = .tup [])
/-- what the first operations yield -/
inductive Pres (E : Env) (ops : Array Oper) (fr : Fr) (σ : Sto) : List Oper → List AV → Prop
  | nil : Pres E ops fr σ [] []
  | run {o : Oper} {l : List Oper} {c : AV} {cs : List AV} (hg : GuardYes ops fr o) (h : OpG E o fr σ c) (hr : Pres E ops fr σ l cs) : Pres E ops fr σ (o :: l) (c :: cs)
  | skip {o : Oper} {l : List Oper} {cs : List AV} (hg : GuardNo ops fr o) (hr : Pres E ops fr σ l cs) : Pres E ops fr σ (o :: l) (.tup [] :: cs)
theorem Pres.len {ops : Array Oper} {l : List Oper} {cs : List AV} (h : Pres E ops fr σ l cs) : cs.length = l.length := by
  induction h with
  | nil => rfl
  | run _ _ _ ih => simp [ih]
  | skip _ _ ih => simp [ih]
theorem Pres.get {ops : Array Oper} {l : List Oper} {cs : List AV} (h : Pres E ops fr σ l cs) : ∀ {i : Nat} {o : Oper} {c : AV}, l[i]? = some o → cs[i]? = some c → (GuardYes ops fr o ∧ OpG E o fr σ c) ∨ (GuardNo ops fr o ∧ c = .tup []) := by
  induction h with
  | nil => intro i o c h1; simp at h1
  | run hg h _ ih =>
    intro i o c h1 h2
    cases i with
    | zero => simp at h1 h2; subst h1; subst h2; exact .inl ⟨hg, h⟩
    | succ i => exact ih (by simpa using h1) (by simpa using h2)
  | skip hg _ ih =>
    intro i o c h1 h2
    cases i with
    | zero => simp at h1 h2; subst h1; subst h2; exact .inr ⟨hg, rfl⟩
    | succ i => exact ih (by simpa using h1) (by simpa using h2)
/-- the slots that they write -/
def newOf : List Oper → List AV → Fr → Fr
  | o :: l, c :: cs, fr => newOf l cs (match o.dst with | some d => (d, c) :: fr | none => fr)
  | _, _, fr => fr

/-- the tmps that an operation looks at: its operands', its guard's -/
def tmpsOf (o : Oper) : List Nat := o.op.operands.toList.filterMap fun | .tmp t => some t | _ => none
/-- which operations come before each one, by binding edges: a bit each -/
def maskOf (acc : List Nat) (o : Oper) : Nat := o.after.toList.foldl (fun s e => bif Region.binds .any e then s ||| (2 ^ e.on ||| acc.getD e.on 0) else s) 0
def pushMask (l : List Oper) (n : Nat) (acc : List Nat) : List Nat := acc ++ [match l[n]? with | some o => maskOf acc o | none => 0]
def masksN (l : List Oper) : Nat → List Nat
  | 0 => []
  | n + 1 => pushMask l n (masksN l n)
def directly (o : Oper) (j : Nat) : Bool := o.after.toList.any fun e => Region.binds .any e && Nat.beq e.on j
/-- the first m operations: whatever they look at that one of them writes is written before; each has a slot of its own; the others come in the text's order -/
def drawOk (l : List Oper) (m : Nat) : Bool :=
  leadsBack .any l.toArray &&
  ((l.take m).all fun o => o.dst.isSome) &&
  (List.range m).all (fun i => (List.range m).all fun j => Nat.beq i j || (l[i]?).bind (·.dst) != (l[j]?).bind (·.dst)) &&
  ((l.take m).all fun o => (tmpsOf o).all fun t => (List.range m).all fun j => (l[j]?).bind (·.dst) != some t || directly o j) &&
  ((l.take m).all fun o => match o.guard with | none => true | some (j, _) => directly o j) &&
  (List.range l.length).all (fun i => Nat.ble (i + 1) m || (List.range i).all fun j => ((masksN l l.length).getD i 0).testBit j)

theorem foldl_bits {D : Nat → Bool} (acc : List Nat) (hacc : ∀ i j, (acc.getD i 0).testBit j = true → D i = true → D j = true) : ∀ (es : List Edge) (s : Nat), (∀ e ∈ es, Region.binds .any e = true → D e.on = true) → (∀ j, s.testBit j = true → D j = true) →
    ∀ j, (es.foldl (fun s e => bif Region.binds .any e then s ||| (2 ^ e.on ||| acc.getD e.on 0) else s) s).testBit j = true → D j = true
  | [], s, _, hs, j, h => hs j h
  | e :: es, s, he, hs, j, h => by
    rw [List.foldl_cons] at h
    refine foldl_bits acc hacc es _ (fun e' h' => he e' (by simp [h'])) ?_ j h
    intro j' hj'
    cases hb : Region.binds .any e with
    | false => rw [hb] at hj'; exact hs j' hj'
    | true =>
      rw [hb] at hj'
      simp only [cond_true, Nat.testBit_or, Bool.or_eq_true] at hj'
      have hd := he e (by simp) hb
      rcases hj' with h1 | h1 | h1
      · exact hs j' h1
      · rw [Nat.testBit_two_pow] at h1
        simp at h1
        rw [← h1]; exact hd
      · exact hacc e.on j' h1 hd
theorem masksN_len (l : List Oper) : ∀ n, (masksN l n).length = n
  | 0 => rfl
  | n + 1 => by simp [masksN, pushMask, masksN_len l n]
theorem masks_closed {D : Nat → Bool} {l : List Oper} (hcl : ∀ i o, l[i]? = some o → D i = true → ∀ e ∈ o.after, Region.binds .any e = true → D e.on = true) : ∀ (n i j : Nat), ((masksN l n).getD i 0).testBit j = true → D i = true → D j = true
  | 0, i, j, h, _ => by simp [masksN] at h
  | n + 1, i, j, h, hd => by
    have ih := masks_closed hcl n
    rcases Nat.lt_trichotomy i n with hlt | heq | hgt
    · rw [masksN, pushMask, List.getD_eq_getElem?_getD, List.getElem?_append_left (by rw [masksN_len]; exact hlt), ← List.getD_eq_getElem?_getD] at h
      exact ih i j h hd
    · subst heq
      rw [masksN, pushMask, List.getD_eq_getElem?_getD, List.getElem?_append_right (by rw [masksN_len]; exact Nat.le_refl _), masksN_len, Nat.sub_self] at h
      cases ho : l[i]? with
      | none => rw [ho] at h; simp at h
      | some o =>
        rw [ho] at h
        exact foldl_bits _ ih o.after.toList 0 (fun e he hb => hcl i o ho hd e (by simpa using he) hb) (fun j hj => by simp at hj) j h
    · rw [List.getD_eq_getElem?_getD, List.getElem?_eq_none (by rw [masksN_len]; omega)] at h
      simp at h
theorem masks_ready {D : Nat → Bool} {l : List Oper} (hcl : ∀ i o, l[i]? = some o → D i = true → ∀ e ∈ o.after, Region.binds .any e = true → D e.on = true) : ∀ (n i : Nat) (o : Oper), l[i]? = some o → (∀ e ∈ o.after, Region.binds .any e = true → D e.on = true) → ∀ j, ((masksN l n).getD i 0).testBit j = true → D j = true
  | 0, i, o, _, _, j, h => by simp [masksN] at h
  | n + 1, i, o, ho, he, j, h => by
    rcases Nat.lt_trichotomy i n with hlt | heq | hgt
    · rw [masksN, pushMask, List.getD_eq_getElem?_getD, List.getElem?_append_left (by rw [masksN_len]; exact hlt), ← List.getD_eq_getElem?_getD] at h
      exact masks_ready hcl n i o ho he j h
    · subst heq
      rw [masksN, pushMask, List.getD_eq_getElem?_getD, List.getElem?_append_right (by rw [masksN_len]; exact Nat.le_refl _), masksN_len, Nat.sub_self, ho] at h
      exact foldl_bits _ (masks_closed hcl i) o.after.toList 0 (fun e hm hb => he e (by simpa using hm) hb) (fun j hj => by simp at hj) j h
    · rw [List.getD_eq_getElem?_getD, List.getElem?_eq_none (by rw [masksN_len]; omega)] at h
      simp at h

theorem St.drew {g : G} {a : Act} (h : St E g a fr σ) : St E ⟨g.w.drew, g.u, g.loc⟩ a fr σ := by
  have hold : Old (fun _ => False) g ⟨g.w.drew, g.u, g.loc⟩ := ⟨rfl, rfl, rfl, ⟨Nat.le_refl _, fun _ _ => Nat.le_refl _, fun _ _ _ _ => rfl, fun _ h => h⟩, fun _ _ _ => ⟨rfl, rfl⟩⟩
  exact h.grow hold h.so.wf (fun _ _ => rfl)

theorem newOf_other : ∀ (l : List Oper) (cs : List AV) (fr : Fr) (d : Nat), (∀ o ∈ l, o.dst ≠ some d) → (newOf l cs fr).get d = fr.get d
  | [], cs, fr, d, _ => by cases cs <;> rfl
  | o :: l, [], fr, d, _ => rfl
  | o :: l, c :: cs, fr, d, h => by
    rw [newOf, newOf_other l cs _ d (fun o' h' => h o' (by simp [h']))]
    cases hd : o.dst with
    | none => rfl
    | some d' =>
      show Fr.get ((d', c) :: fr) d = _
      rw [Fr.get_cons, if_neg]
      rintro rfl
      exact h o (by simp) hd
theorem newOf_get : ∀ (l : List Oper) (cs : List AV) (fr : Fr) (i : Nat) (o : Oper) (c : AV) (d : Nat), (∀ (i j : Nat) (o o' : Oper), l[i]? = some o → l[j]? = some o' → i ≠ j → o.dst ≠ o'.dst) → l[i]? = some o → cs[i]? = some c → o.dst = some d → (newOf l cs fr).get d = c
  | [], cs, fr, i, o, c, d, _, h1, _, _ => by simp at h1
  | o' :: l, [], fr, i, o, c, d, _, _, h2, _ => by simp at h2
  | o' :: l, c' :: cs, fr, 0, o, c, d, hd, h1, h2, h3 => by
    simp at h1 h2
    subst h1; subst h2
    rw [newOf, newOf_other]
    · rw [h3]
      show Fr.get ((d, c') :: fr) d = c'
      rw [Fr.get_cons, if_pos rfl]
    · intro o2 ho2
      obtain ⟨j, hj, rfl⟩ := List.getElem_of_mem ho2
      rw [← h3]
      exact fun hc => hd 0 (j + 1) o' l[j] rfl (by simp [hj]) (by omega) hc.symm
  | o' :: l, c' :: cs, fr, i + 1, o, c, d, hd, h1, h2, h3 => by
    rw [newOf]
    exact newOf_get l cs _ i o c d (fun i j o o' hi hj hne => hd (i + 1) (j + 1) o o' (by simpa using hi) (by simpa using hj) (by omega)) (by simpa using h1) (by simpa using h2) h3
theorem newOf_append : ∀ (l : List Oper) (cs : List AV) (fr fr' : Fr), newOf l cs (fr ++ fr') = newOf l cs fr ++ fr'
  | [], cs, fr, fr' => by cases cs <;> rfl
  | o :: l, [], fr, fr' => rfl
  | o :: l, c :: cs, fr, fr' => by
    rw [newOf, newOf, ← newOf_append]
    cases o.dst <;> rfl

/-- while the region runs: the first m operations in any order, then the others in the text's -/
def JD (E : Env) (l : List Oper) (m : Nat) (cs : List AV) (fr : Fr) (σ : Sto) (K : Post) (D : Nat → Bool) (a : Act) (w : World) : Prop :=
  (∀ i o, l[i]? = some o → D i = true → ∀ e ∈ o.after, Region.binds .any e = true → D e.on = true) ∧
  ((∃ g, g.w = w ∧ (∀ i, m ≤ i → D i = false) ∧ (∃ i, i < m ∧ D i = false) ∧ a.tmps.size = E.N ∧ DokE E g.w a.defers ∧ Sok E.S E.g0 g σ ∧
     (∀ d, (∀ i o, i < m → l[i]? = some o → o.dst ≠ some d) → Rel g (fr.get d) (a.tmps.getD d undef)) ∧
     (∀ i o c d, i < m → D i = true → l[i]? = some o → cs[i]? = some c → o.dst = some d → Rel g c (a.tmps.getD d undef)))
   ∨ (∃ s, m ≤ s ∧ (∀ i, i < l.length → (D i = true ↔ i < s)) ∧ s ≤ l.length ∧ wpListIn (fen E.rd) 0 E.P l.toArray (Ends E K) (l.drop s) a w))

set_option maxHeartbeats 1000000 in
theorem awp_drawn {id : Nat} {l : List Oper} (m : Nat) (new : Fr) {cs : List AV} (hmix : E.P.follows .mixedOrders = true) (hok : drawOk l m = true) (hm : Nat.ble m l.length = true) (hN : ((l.take m).all fun o => o.dst.all fun d => Nat.ble (d + 1) E.N) = true)
    (hp : Pres E l.toArray (new ++ fr) σ (l.take m) cs) (hnew : newOf (l.take m) cs [] = new) (h : AWPL E l.toArray (l.drop m) (new ++ fr) σ K) : AWP E (.region id l.toArray true) fr σ K := by
  have hm := Nat.le_of_ble_eq_true hm
  simp only [drawOk, Bool.and_eq_true, List.all_eq_true] at hok
  obtain ⟨⟨⟨⟨⟨hlb, hsome⟩, hdist⟩, hdat⟩, hgrd⟩, hsuf⟩ := hok
  have hcslen : cs.length = m := by rw [hp.len]; simp; omega
  have htake : ∀ i, i < m → (l.take m)[i]? = l[i]? := fun i hi => List.getElem?_take_of_lt hi
  have hmem : ∀ i o, i < m → l[i]? = some o → o ∈ l.take m := fun i o hi ho => List.mem_of_getElem? (by rw [htake i hi]; exact ho)
  have hdist' : ∀ i j o o', i < m → j < m → l[i]? = some o → l[j]? = some o' → i ≠ j → o.dst ≠ o'.dst := by
    intro i j o o' hi hj ho ho' hne hc
    have := hdist i (by simpa using hi) j (by simpa using hj)
    simp only [Bool.or_eq_true, bne_iff_ne, ne_eq] at this
    rcases this with h1 | h1
    · exact hne (Nat.eq_of_beq_eq_true h1)
    · exact h1 (by rw [ho, ho']; simpa using hc)
  have hA : ∀ d, (∀ i o, i < m → l[i]? = some o → o.dst ≠ some d) → (new ++ fr).get d = fr.get d := by
    intro d hd
    rw [← hnew, ← newOf_append, List.nil_append]
    refine newOf_other _ _ _ _ fun o ho => ?_
    obtain ⟨i, hi, rfl⟩ := List.getElem_of_mem ho
    have hi' : i < m := by simp at hi; omega
    exact hd i _ hi' (by rw [← htake i hi']; exact List.getElem?_eq_getElem hi)
  have hB : ∀ i o c d, i < m → l[i]? = some o → cs[i]? = some c → o.dst = some d → (new ++ fr).get d = c := by
    intro i o c d hi ho hc hd
    rw [← hnew, ← newOf_append, List.nil_append]
    refine newOf_get _ _ _ i o c d (fun i j o o' h1 h2 hne => ?_) (by rw [htake i hi]; exact ho) hc hd
    have hi1 : i < m := by have := (List.getElem?_eq_some_iff.1 h1).1; simp at this; omega
    have hj1 : j < m := by have := (List.getElem?_eq_some_iff.1 h2).1; simp at this; omega
    rw [htake i hi1] at h1; rw [htake j hj1] at h2
    exact hdist' i j o o' hi1 hj1 h1 h2 hne
  have hsuf' : ∀ {D : Nat → Bool} i o, (∀ i o, l[i]? = some o → D i = true → ∀ e ∈ o.after, Region.binds .any e = true → D e.on = true) → m ≤ i → l[i]? = some o → (∀ e ∈ o.after, Region.binds .any e = true → D e.on = true) → ∀ j, j < i → D j = true := by
    intro D i o hcl hi ho he j hj
    have hil : i < l.length := (List.getElem?_eq_some_iff.1 ho).1
    have := hsuf i (by simpa using hil)
    simp only [Bool.or_eq_true, List.all_eq_true] at this
    rcases this with h1 | h1
    · have := Nat.le_of_ble_eq_true h1; omega
    · exact masks_ready hcl l.length i o ho he j (h1 j (by simpa using hj))
  have hdir : ∀ {D : Nat → Bool} {o : Oper} {j : Nat}, (∀ e ∈ o.after, Region.binds .any e = true → D e.on = true) → directly o j = true → D j = true := by
    intro D o j he hd
    simp only [directly, List.any_eq_true, Bool.and_eq_true] at hd
    obtain ⟨e, h1, h2, h3⟩ := hd
    rw [← Nat.eq_of_beq_eq_true h3]
    exact he e (by simpa using h1) h2
  refine ⟨fun g a hst => ?_⟩
  have hst0 := hst.drew
  refine wpIn_region_inv hmix hlb (JD E l m cs fr σ K) ⟨fun i o _ hd => by simp at hd, ?_⟩ ?_ ?_
  · by_cases h0 : m = 0
    · subst h0
      refine .inr ⟨0, Nat.le_refl _, fun i _ => by simp, Nat.zero_le _, ?_⟩
      have hn : new = [] := by rw [← hnew]; simp [newOf]
      subst hn
      have := h.go _ a hst0
      simpa using this
    · exact .inl ⟨⟨g.w.drew, g.u, g.loc⟩, rfl, fun _ _ => rfl, ⟨0, by omega, rfl⟩, hst0.n, hst0.df, hst0.so, fun d _ => hst0.fr d, fun i o c d _ hd => by simp at hd⟩
  · rintro D a w ⟨_, ⟨g, _, _, ⟨i, hi, hd⟩, _⟩ | ⟨s, hs1, hs2, hs3, hs4⟩⟩ hall
    · rw [hall i (by simp; omega)] at hd; cases hd
    · have : s = l.length := by
        rcases Nat.lt_or_ge s l.length with h1 | h1
        · have := (hs2 s h1).1 (hall s (by simpa using h1)); omega
        · omega
      subst this
      rw [List.drop_length] at hs4
      exact hs4
  · rintro D a w i o ⟨hcl, hJ⟩ ho hDi he
    have ho' : l[i]? = some o := by simpa using ho
    have hcl' : ∀ i' o', l[i']? = some o' → upd D i i' = true → ∀ e ∈ o'.after, Region.binds .any e = true → upd D i e.on = true := by
      intro i' o' h1 h2 e h3 h4
      unfold upd at h2 ⊢
      split
      · rfl
      · split at h2
        · rename_i hii; subst hii
          rw [ho'] at h1; cases h1
          exact he e h3 h4
        · exact hcl i' o' h1 h2 e h3 h4
    rcases hJ with ⟨g, rfl, hge, ⟨i0, hi0, hd0⟩, hsz, hdf, hso, hf0, hfD⟩ | ⟨s, hs1, hs2, hs3, hs4⟩
    · have him : i < m := by
        rcases Nat.lt_or_ge i m with h1 | h1
        · exact h1
        · have := hsuf' i o hcl h1 ho' he i0 (by omega)
          rw [hd0] at this; cases this
      obtain ⟨c, hc⟩ : ∃ c, cs[i]? = some c := ⟨cs[i]'(by omega), List.getElem?_eq_getElem (by omega)⟩
      have hslot : ∀ d, (∃ j o' , j < m ∧ l[j]? = some o' ∧ o'.dst = some d ∧ D j = true) ∨ (∀ j o', j < m → l[j]? = some o' → o'.dst ≠ some d) → Rel g ((new ++ fr).get d) (a.tmps.getD d undef) := by
        rintro d (⟨j, o', hj, ho1, hd1, hD1⟩ | hno)
        · obtain ⟨c', hc'⟩ : ∃ c, cs[j]? = some c := ⟨cs[j]'(by omega), List.getElem?_eq_getElem (by omega)⟩
          rw [hB j o' c' d hj ho1 hc' hd1]
          exact hfD j o' c' d hj hD1 ho1 hc' hd1
        · rw [hA d hno]; exact hf0 d hno
      have hops : ∀ x ∈ o.op.operands, Rel g ((new ++ fr).ev x) (a.eval x) := by
        intro x hx
        cases x with
        | const v => exact rel_const g v
        | global q => exact .pv (.b rfl)
        | func f => exact .fn (by simp) (by simp) (fun i c h => by simp at h) (fun i c h => by simp at h)
        | tmp t =>
          refine hslot t ?_
          by_cases hex : ∃ j o', j < m ∧ l[j]? = some o' ∧ o'.dst = some t
          · obtain ⟨j, o', hj, ho1, hd1⟩ := hex
            have h1 := hdat o (hmem i o him ho') t (by simp only [tmpsOf, List.mem_filterMap]; exact ⟨.tmp t, by simpa using hx, rfl⟩) j (by simpa using hj)
            simp only [Bool.or_eq_true, bne_iff_ne, ne_eq] at h1
            rcases h1 with h1 | h1
            · exact absurd (by rw [ho1]; simpa using hd1) h1
            · exact .inl ⟨j, o', hj, ho1, hd1, hdir he h1⟩
          · exact .inr fun j o' hj ho1 hd1 => hex ⟨j, o', hj, ho1, hd1⟩
      have hguard : ∀ j want d, o.guard = some (j, want) → (l.toArray[j]?).bind (·.dst) = some d → Rel g ((new ++ fr).get d) (a.tmps.getD d undef) := by
        intro j want d hg hj
        have h1 := hgrd o (hmem i o him ho')
        rw [hg] at h1
        have hDj := hdir he h1
        have hjm : j < m := by
          rcases Nat.lt_or_ge j m with h2 | h2
          · exact h2
          · rw [hge j h2] at hDj; cases hDj
        cases hoj : l[j]? with
        | none => rw [List.getElem?_toArray, hoj] at hj; cases hj
        | some o' =>
          rw [List.getElem?_toArray, hoj] at hj
          exact hslot d (.inl ⟨j, o', hjm, hoj, by simpa using hj, hDj⟩)
      -- the state behind the operation
      have hafter : ∀ (g' : G) (v : Value) (d : Nat), o.dst = some d → Old (fun _ => False) g g' → Wf g' → g'.loc = g.loc → Rel g' c v → JD E l m cs fr σ K (upd D i) (a.put o.dst v) g'.w := by
        intro g' v d hd hold hwf hloc hv
        refine ⟨hcl', ?_⟩
        have hdN : d < E.N := by
          rw [List.all_eq_true] at hN
          have := hN o (hmem i o him ho')
          rw [hd] at this
          exact Nat.le_of_ble_eq_true (by simpa using this)
        have hmono : ∀ c v, Rel g c v → Rel g' c v := fun c v hr => hr.mono hold.ext (fun k _ => by rw [hloc])
        have hso' := hso.grow hold hwf (fun k _ => by rw [hloc])
        have hget : ∀ d', (a.put o.dst v).tmps.getD d' undef = if d = d' then v else a.tmps.getD d' undef := by
          intro d'
          rw [hd]
          simp only [Act.put]
          rw [getD_set_eq]
          by_cases h1 : d = d'
          · rw [if_pos ⟨h1, by omega⟩, if_pos h1]
          · rw [if_neg (fun x => h1 x.1), if_neg h1]
        have hsz' : (a.put o.dst v).tmps.size = E.N := by rw [hd]; simp [Act.put, hsz]
        have hdf' : DokE E g'.w (a.put o.dst v).defers := by rw [hd]; exact hdf.mono hold.ext
        have hF0 : ∀ d', (∀ i o, i < m → l[i]? = some o → o.dst ≠ some d') → Rel g' (fr.get d') ((a.put o.dst v).tmps.getD d' undef) := by
          intro d' hno
          rw [hget, if_neg (by rintro rfl; exact hno i o him ho' hd)]
          exact hmono _ _ (hf0 d' hno)
        have hFD : ∀ i' o' c' d', i' < m → upd D i i' = true → l[i']? = some o' → cs[i']? = some c' → o'.dst = some d' → Rel g' c' ((a.put o.dst v).tmps.getD d' undef) := by
          intro i' o' c' d' hi' hD' h1 h2 h3
          by_cases hii : i' = i
          · subst hii
            rw [ho'] at h1; cases h1
            rw [hc] at h2; cases h2
            rw [hd] at h3; cases h3
            rw [hget, if_pos rfl]
            exact hv
          · have hD1 : D i' = true := by unfold upd at hD'; rwa [if_neg hii] at hD'
            have hne : d ≠ d' := by
              rintro rfl
              exact hdist' i' i o' o hi' him h1 ho' hii (h3.trans hd.symm)
            rw [hget, if_neg hne]
            exact hmono _ _ (hfD i' o' c' d' hi' hD1 h1 h2 h3)
        have hge' : ∀ i', m ≤ i' → upd D i i' = false := by
          intro i' hi'
          unfold upd
          rw [if_neg (by omega)]
          exact hge i' hi'
        by_cases hex : ∃ i', i' < m ∧ upd D i i' = false
        · exact .inl ⟨g', rfl, hge', hex, hsz', hdf', hso', hF0, hFD⟩
        · refine .inr ⟨m, Nat.le_refl _, fun i' _ => ⟨fun h1 => ?_, fun h1 => ?_⟩, hm, h.go g' _ ⟨fun d' => ?_, hsz', hdf', hso'⟩⟩
          · rcases Nat.lt_or_ge i' m with h2 | h2
            · exact h2
            · rw [hge' i' h2] at h1; cases h1
          · cases h2 : upd D i i' with
            | true => rfl
            | false => exact absurd ⟨i', h1, h2⟩ hex
          · by_cases hex2 : ∃ j o', j < m ∧ l[j]? = some o' ∧ o'.dst = some d'
            · obtain ⟨j, o', hj, h1, h2⟩ := hex2
              obtain ⟨c', hc'⟩ : ∃ c, cs[j]? = some c := ⟨cs[j]'(by omega), List.getElem?_eq_getElem (by omega)⟩
              rw [hB j o' c' d' hj h1 hc' h2]
              refine hFD j o' c' d' hj ?_ h1 hc' h2
              cases h3 : upd D i j with
              | true => rfl
              | false => exact absurd ⟨j, hj, h3⟩ hex
            · rw [hA d' (fun j o' hj h1 h2 => hex2 ⟨j, o', hj, h1, h2⟩)]
              exact hF0 d' (fun j o' hj h1 h2 => hex2 ⟨j, o', hj, h1, h2⟩)
      obtain ⟨d, hd⟩ : ∃ d, o.dst = some d := by
        have := hsome o (hmem i o him ho')
        cases hd : o.dst with
        | none => rw [hd] at this; cases this
        | some d => exact ⟨d, rfl⟩
      unfold wpOpIn
      rw [ho]
      simp only
      rcases hp.get (i := i) (by rw [htake i him]; exact ho') hc with ⟨hg, hop⟩ | ⟨hg, rfl⟩
      · have hw : Region.wanted o (yielded l.toArray a.tmps) = true := by
          cases hg with
          | plain h1 => simp [Region.wanted, h1]
          | @yes j d' want t h1 h2 h3 h4 =>
            have hr := hguard j want d' h1 h2
            rw [h3] at hr
            have hy : yielded l.toArray a.tmps j = some t := by
              unfold yielded
              rw [h2]
              simp only [Option.bind_some]
              have h5 := rel_bool hr
              cases hx : a.tmps[d']? with
              | none => rw [Array.getD_eq_getD_getElem?, hx] at h5; simp [undef] at h5
              | some x => rw [Array.getD_eq_getD_getElem?, hx] at h5; simp at h5; rw [h5]
            have h6 : (yielded l.toArray a.tmps j == some want) = true := by rw [hy, h4]; cases want <;> rfl
            simp only [Region.wanted, h1, h6]
        simp only [hw, if_true]
        exact hop.go g a _ _ hops hso fun g' v h1 h2 h3 h4 => hafter g' v d hd h1 h2 h3 h4
      · have hw : Region.wanted o (yielded l.toArray a.tmps) = false := by
          cases hg with
          | @no j d' want t h1 h2 h3 h4 =>
            have hr := hguard j want d' h1 h2
            rw [h3] at hr
            have hy : yielded l.toArray a.tmps j = some t := by
              unfold yielded
              rw [h2]
              simp only [Option.bind_some]
              have h5 := rel_bool hr
              cases hx : a.tmps[d']? with
              | none => rw [Array.getD_eq_getD_getElem?, hx] at h5; simp [undef] at h5
              | some x => rw [Array.getD_eq_getD_getElem?, hx] at h5; simp at h5; rw [h5]
            have h6 : (yielded l.toArray a.tmps j == some want) = false := by rw [hy, h4]; cases want <;> rfl
            simp only [Region.wanted, h1, h6]
          | @none j d' want h1 h2 h3 =>
            have hr := hguard j want d' h1 h2
            rw [h3] at hr
            have hy : yielded l.toArray a.tmps j = none := by
              unfold yielded
              rw [h2]
              simp only [Option.bind_some]
              cases hx : a.tmps[d']? with
              | none => rfl
              | some x => rw [Array.getD_eq_getD_getElem?, hx] at hr; simp only [Option.getD_some] at hr; cases hr; rfl
            have h6 : (yielded l.toArray a.tmps j == some want) = false := by rw [hy]; rfl
            simp only [Region.wanted, h1, h6]
        simp only [hw]
        exact ⟨fun _ _ => trivial, hafter g undef d hd (Old.refl _ g) hso.wf rfl (.tup rfl (fun i c hi => by simp at hi))⟩
    · have hil : i < l.length := (List.getElem?_eq_some_iff.1 ho').1
      have his : s ≤ i := by
        rcases Nat.lt_or_ge i s with h1 | h1
        · rw [(hs2 i hil).2 h1] at hDi; cases hDi
        · exact h1
      have hsi : i = s := by
        rcases Nat.lt_or_ge s i with h1 | h1
        · have := hsuf' i o hcl (by omega) ho' he s h1
          have := (hs2 s (by omega)).1 this
          omega
        · omega
      subst hsi
      have hdrop : l.drop i = o :: l.drop (i + 1) := by
        rw [List.drop_eq_getElem_cons hil]
        congr 1
        exact (List.getElem?_eq_some_iff.1 ho').2
      rw [hdrop] at hs4
      unfold wpOpIn
      rw [ho]
      simp only [wpListIn] at hs4 ⊢
      have hJ' : ∀ a' w', wpListIn (fen E.rd) 0 E.P l.toArray (Ends E K) (l.drop (i + 1)) a' w' → JD E l m cs fr σ K (upd D i) a' w' := by
        intro a' w' hw'
        refine ⟨hcl', .inr ⟨i + 1, by omega, fun i' hi' => ?_, by omega, hw'⟩⟩
        unfold upd
        split
        · rename_i hii; subst hii; simp
        · rename_i hii
          rw [hs2 i' hi']
          omega
      split
      · rename_i hw
        rw [if_pos hw] at hs4
        exact Oper.wpIn_mono hJ' hs4
      · rename_i hw
        rw [if_neg hw] at hs4
        exact ⟨hs4.1, hJ' _ _ hs4.2⟩

end Go.Proofs.YtpclhpncmlbccaaGreatDoor

/- The abstract calculus: literals and []byte(s) among operations in any order. No program is named. -/
namespace Go.Proofs.YtpclhpncmlbccaaGreatDoor
open Go.RowKit Go.Lib

variable {E : Env} {fr : Fr} {σ : Sto} {K : Post}
variable {dst : Option Tmp} {ty : TypeId} {pos : String} {af : Array Edge} {gu : Option (Nat × Bool)}
theorem opTo_g {o : Oper} {d : Nat} {c : AV} (hd : o.dst = some d) (hN : Nat.ble (d + 1) E.N = true) (h : OpG E o fr σ c) : OpTo E o fr σ ((d, c) :: fr) σ :=
  ⟨fun g a K Q hst hK => h.go g a K Q (fun x _ => hst.ev x) hst.so fun g' v ho hw hl hv => by
    rw [hd]
    exact hK g' _ ((hst.grow ho hw (fun k _ => by rw [hl])).put (Nat.le_of_ble_eq_true hN) hv)⟩
/-- .. the value is a slice of a new block -/
structure OpGN (E : Env) (o : Oper) (fr : Fr) (σ : Sto) (c : AV) : Prop where
  go : ∀ g a (K : Act → World → Prop) (Q : Exit → Act → World → Prop), (∀ x ∈ o.op.operands, Rel g (fr.ev x) (a.eval x)) → Sok E.S E.g0 g σ → (∀ g' v, Old (fun _ => False) g g' → Wf g' → g'.loc = g.loc → Rel g' c v → (∃ n cp, v = .slice (some ⟨g.w.heap.size, 0, none⟩) n cp) → K (a.put o.dst v) g'.w) → o.wpIn (fen E.rd) 0 E.P a g.w K Q
theorem OpGN.g {E : Env} {o : Oper} {fr : Fr} {σ : Sto} {c : AV} (h : OpGN E o fr σ c) : OpG E o fr σ c := ⟨fun g a K Q hx hs hK => h.go g a K Q hx hs fun g' v h1 h2 h3 h4 _ => hK g' v h1 h2 h3 h4⟩
section
variable {α : Type} {F : α → List PV} {l : List α} {size bytes sb ss k n : Nat} {e t : TypeId} {zero sz : Value} {d : TypeDesc}
/-- a literal of a slice -/
theorem opGN_lit {ps : List (Nat × Operand)} (ht : TyOk E.P t ss sb sz (.slice e)) (he : TyOk E.P e size bytes zero d) (hzs : (Nat.beq zero.cells.size size && Nat.ble 1 size && zero.cells.toList.all cellV) = true) (hF : ∀ x, (F x).length = size) (hln : Nat.beq l.length n && Nat.ble (n * size) 16777216)
    (hc : fillA (fun i => some (i * size, size)) (List.replicate (n * size) .any) (ps.map fun p => (p.1, (fr.ev p.2).weak)) = some (l.flatMap fun x => (F x).map AV.pv)) :
    OpGN E ⟨dst, .buildSlice t n ps.toArray, ty, pos, af, gu⟩ fr σ (.l F l) :=
  ⟨fun g a K Q hx0 hso hK => by
    simp only [Bool.and_eq_true] at hzs hln
    have hz1 := Nat.eq_of_beq_eq_true hzs.1.1
    have hz2 := Nat.le_of_ble_eq_true hzs.1.2
    have hn1 := Nat.eq_of_beq_eq_true hln.1
    have hn2 := Nat.le_of_ble_eq_true hln.2
    subst hn1
    refine ⟨fun _ _ => trivial, ?_⟩
    rw [Oper.semAt_plain _ _ _ (fun c => by simp)]
    generalize hzero : (if l.length * size = 0 then #[] else zero.cells) = zc
    generalize harr : ((Array.range (l.length * size)).map (fun i => zc[i % zc.size]!)) = arr
    have hasz : arr.size = l.length * size := by rw [← harr]; simp
    have hacell : ∀ i, i < arr.size → cellV (arr.getD i undef) = true := by
      intro i hi
      rw [hasz] at hi
      have hne : l.length * size ≠ 0 := by omega
      rw [if_neg hne] at hzero
      subst hzero
      have hlt : i % zero.cells.size < zero.cells.size := Nat.mod_lt _ (by omega)
      have : arr.getD i undef = zero.cells[i % zero.cells.size] := by
        rw [← harr]; simp [hi, hlt]
      rw [this]
      have h3 := hzs.2
      rw [List.all_eq_true] at h3
      exact h3 _ (by simp)
    obtain ⟨out, h1, h2⟩ := fill_ok (g := g) (ps.map fun p => (p.1, (fr.ev p.2).weak)) (ps.map fun p => (p.1, a.eval p.2)) (List.replicate (l.length * size) .any) arr (l.flatMap fun x => (F x).map AV.pv)
      ⟨by simp [hasz], hacell, fun i c hi => by
        have := List.mem_of_getElem? hi
        rw [List.mem_replicate] at this
        rw [this.2]; exact .any _⟩ (by simp) (fun i p v hp hv => by
      simp only [List.getElem?_map, Option.map_eq_some_iff] at hp hv
      obtain ⟨q, hq, rfl⟩ := hp
      obtain ⟨q', hq', rfl⟩ := hv
      rw [hq] at hq'
      cases hq'
      exact ⟨rfl, rel_weak (hx0 q.2 (by simp only [Op.operands, List.mem_toArray, List.mem_map]; exact ⟨q, List.mem_of_getElem? hq, rfl⟩))⟩) hc
    have hrun : (execOp a.eval ⟨dst, .buildSlice t l.length ps.toArray, ty, pos, af, gu⟩).run E.P g.w = .ok (.value (.slice (some ⟨g.w.heap.size, 0, none⟩) l.length l.length)) (g.w.alloc (.cells out e)) := by
      show Sem.run E.P (do let v ← Instr.buildSlice t l.length (ps.toArray.map fun (i, x) => (i, a.eval x)); pure (Next.value v)) g.w = _
      have e1 : (ps.toArray.map fun (x : Nat × Operand) => (x.1, a.eval x.2)).toList = ps.map fun p => (p.1, a.eval p.2) := by simp
      have hgt : ¬ (l.length * size > 2 ^ 24) := by simp; omega
      by_cases h0 : l.length * size = 0
      · rw [if_pos h0] at hzero; subst hzero
        simp only [Instr.buildSlice, underlying, program, Sem.run_bind, Sem.run, ht.u, he.sizeOf, Result.andThen_ok, Sem.run_pure, if_neg hgt, if_pos h0, e1, harr, h1]
        rfl
      · rw [if_neg h0] at hzero; subst hzero
        simp only [Instr.buildSlice, underlying, program, Sem.run_bind, Sem.run, ht.u, he.sizeOf, Result.andThen_ok, Sem.run_pure, if_neg hgt, if_neg h0, he.zeroValue, e1, harr, h1]
        rfl
    rw [hrun, Oper.uponIn_value]
    have hosz : out.size = l.length * size := by rw [h2.n, flatMap_len hF]
    have hold := old_alloc g out e (l.length * size) 0 (g.loc 0)
    have hwf := wf_alloc hso.wf out e (l.length * size) 0 (g.loc 0)
    have hloc : ∀ q, (g.alloc out e (l.length * size) 0 (g.loc 0)).loc q = g.loc q := fun q => by show (if q = 0 then g.loc 0 else g.loc q) = g.loc q; split <;> simp_all
    refine hK _ _ hold hwf (funext hloc) (rel_new (g := g) (out := out) hF (Nat.le_of_eq hosz.symm) (Nat.le_refl _) ?_ ?_ (if_pos rfl) ?_) ⟨_, _, rfl⟩
    · rw [show (g.alloc out e (l.length * size) 0 (g.loc 0)).w.heap[g.w.heap.size]? = some (.cells out e (0, 0)) from heap_alloc_new _ _]; simp
    · intro i hi
      exact cell_of_heap (heap_alloc_new _ _) hi
    · intro i j x c hi hj
      have := h2.r _ _ (flatMap_get hF l i j x c hi hj)
      cases this with
      | pv h => exact h.mono hold.ext⟩
theorem opG_lit {ps : List (Nat × Operand)} (ht : TyOk E.P t ss sb sz (.slice e)) (he : TyOk E.P e size bytes zero d) (hzs : (Nat.beq zero.cells.size size && Nat.ble 1 size && zero.cells.toList.all cellV) = true) (hF : ∀ x, (F x).length = size) (hln : Nat.beq l.length n && Nat.ble (n * size) 16777216)
    (hc : fillA (fun i => some (i * size, size)) (List.replicate (n * size) .any) (ps.map fun p => (p.1, (fr.ev p.2).weak)) = some (l.flatMap fun x => (F x).map AV.pv)) :
    OpG E ⟨dst, .buildSlice t n ps.toArray, ty, pos, af, gu⟩ fr σ (.l F l) := (opGN_lit ht he hzs hF hln hc).g
end
/-- []byte(s) -/
theorem opG_s2bytes {k : Nat} {t t' e : TypeId} {x : Operand} {s : Str} {ss sb ss' sb' s1 s2 : Nat} {sz sz' z : Value} (hx : fr.ev x = .s s) (ht : TyOk E.P t ss sb sz .string) (ht' : TyOk E.P t' ss' sb' sz' (.slice e)) (he : TyOk E.P e s1 s2 z (.int .u8)) :
    OpG E ⟨dst, .convert t t' x, ty, pos, af, gu⟩ fr σ (.l cU s) :=
  ⟨fun g a K Q hx0 hso hK => by
    refine ⟨fun _ _ => trivial, ?_⟩
    rw [Oper.semAt_plain _ _ _ (fun c => by simp)]
    have h1 := hx0 x (by simp [Op.operands])
    rw [hx] at h1
    have e1 := rel_b h1
    generalize hcap : (Question.appendCap s.length 0 e).cut (g.w.tape g.w.drawn (.appendCap s.length 0 e)) = cap
    have hge : s.length ≤ cap := by rw [← hcap]; simp [Question.cut]
    generalize hcells : ((strB s).data.map (fun b => Value.int .u8 (b.toNat : Int)) ++ Array.replicate (cap - s.length) (Value.int .u8 0)) = cells
    have hsz : cells.size = cap := by rw [← hcells]; simp [strB]; omega
    have hget : ∀ i c, s[i]? = some c → cells.getD i undef = .int .u8 (c.toNat : Int) := by
      intro i c hi
      have hlt := (List.getElem?_eq_some_iff.1 hi).1
      rw [← hcells, Array.getD_eq_getD_getElem?, Array.getElem?_append_left (by simpa [strB] using hlt)]
      simp [strB, hi]
    have hrun : (execOp a.eval ⟨dst, .convert t t' x, ty, pos, af, gu⟩).run E.P g.w = .ok (.value (.slice (some ⟨g.w.heap.size, 0, none⟩) s.length cap)) ((g.w.drew.alloc (.cells cells e)).freeze ⟨g.w.heap.size, cap, none⟩ 1) := by
      show Sem.run E.P (do let v ← convert t t' (a.eval x); pure (Next.value v)) g.w = _
      rw [e1]
      have hsh : (g.w.drew.alloc (.cells cells e)).shape? g.w.heap.size = some (e, cap) := by
        simp only [World.shape?]
        rw [show (g.w.drew.alloc (.cells cells e)).heap[g.w.heap.size]? = some (.cells cells e (0, 0)) from heap_alloc_new g.w.drew _]
        simp [hsz]
      simp only [convert, underlying, program, Sem.run_bind, Sem.run, ht.u, ht'.u, he.u, Result.andThen_ok, Sem.run_pure, Conv.stringToBytes, choose, Question.forced, Bool.false_eq_true, if_false, strB_size, hcap, hcells, newRow, newObj, markStringish, shape, freeze]
      show Result.andThen (Result.andThen (Sem.run E.P (match (g.w.drew.alloc (.cells cells e)).shape? g.w.heap.size with | some (_, n) => Sem.freeze ⟨g.w.heap.size, n, none⟩ 1 (Sem.pure ()) | _ => pure ()) (g.w.drew.alloc (.cells cells e))) fun _ w' => .ok (Value.slice (some ⟨g.w.heap.size, 0, none⟩) s.length cap) w') (fun v w' => .ok (Next.value v) w') = _
      rw [hsh]
      rfl
    rw [hrun, Oper.uponIn_value]
    generalize hw : (g.w.drew.alloc (.cells cells e)).freeze ⟨g.w.heap.size, cap, none⟩ 1 = w'
    have hblk : w'.heap[g.w.heap.size]? = some (.cells cells e (cap, cap + 1)) := by
      subst hw
      simp only [World.freeze, Nat.one_ne_zero, if_false, Array.getElem?_modify, if_true]
      rw [show (g.w.drew.alloc (.cells cells e)).heap[g.w.heap.size]? = some (.cells cells e (0, 0)) from heap_alloc_new g.w.drew _]
      rfl
    have hother : ∀ q, q < g.w.heap.size → w'.heap[q]? = g.w.heap[q]? := by
      intro q hq
      subst hw
      simp only [World.freeze, Nat.one_ne_zero, if_false, Array.getElem?_modify]
      rw [if_neg (by omega)]
      exact Below.heap_alloc g.w.drew _ _ hq
    have hws : w'.heap.size = g.w.heap.size + 1 := by subst hw; simp [World.freeze]
    have hold : Old (fun _ => False) g ⟨w', fun q => if q = g.w.heap.size then s.length else g.u q, g.loc⟩ := by
      refine ⟨by subst hw; first | (simp [World.freeze]; done) | (simp [World.freeze]; rfl), by subst hw; first | (simp [World.freeze]; done) | (simp [World.freeze]; rfl), by subst hw; first | (simp [World.freeze]; done) | (simp [World.freeze]; rfl), ⟨by show _ ≤ w'.heap.size; omega, fun q hq => ?_, fun q i hq hi => ?_, ?_⟩, fun q hq _ => ⟨hother q hq, if_neg (by omega)⟩⟩
      · show g.u q ≤ if q = g.w.heap.size then s.length else g.u q
        rw [if_neg (by omega)]; exact Nat.le_refl _
      · simp only [World.cell?]; rw [hother q hq]
      · intro r hr; exact (hother r (blk_lt hr)).trans hr
    have hwf : Wf ⟨w', fun q => if q = g.w.heap.size then s.length else g.u q, g.loc⟩ := by
      intro q hq
      have hq : g.w.heap.size + 1 ≤ q := by rw [← hws]; exact hq
      show (if q = g.w.heap.size then s.length else g.u q) = 0
      rw [if_neg (by omega)]
      exact hso.wf q (by omega)
    refine hK ⟨w', fun q => if q = g.w.heap.size then s.length else g.u q, g.loc⟩ _ hold hwf rfl (rel_new (g := g) (out := cells) (F := cU) (size := 1) (fun _ => rfl) (by omega) hge ?_ ?_ ?_ ?_)
    · show w'.heap[g.w.heap.size]? ≠ none
      rw [hblk]; simp
    · intro i hi
      exact cell_of_heap hblk hi
    · show (if g.w.heap.size = g.w.heap.size then s.length else _) = _
      rw [if_pos rfl, Nat.mul_one]
    · intro i j c0 c hi hj
      have : j = 0 := by have := (List.getElem?_eq_some_iff.1 hj).1; simp [cU] at this; exact this
      subst this
      simp [cU] at hj
      subst hj
      rw [Nat.mul_one, Nat.add_zero, hget i c0 hi]
      exact .b rfl⟩

end Go.Proofs.YtpclhpncmlbccaaGreatDoor

/- The abstract calculus: calls that share the store (entered in place), ranges over functions, yield. No program is named. -/
namespace Go.Proofs.YtpclhpncmlbccaaGreatDoor
open Go.RowKit Go.Lib

variable {E : Env} {fr : Fr} {σ : Sto} {K : Post}

/-- slots that are kept while another frame runs -/
inductive Keep (fr : Fr) : Fr → Prop
  | nil : Keep fr []
  | cons {k : Nat} {c : AV} {l : Fr} (h : fr.get k = c) (hr : Keep fr l) : Keep fr ((k, c) :: l)
def holds (base : Nat) (T : Array Value) : Fr → Sto
  | [] => []
  | (d, c) :: l => (base + d, .hold c (T.getD d undef)) :: holds base T l
/-- slots that have been kept -/
inductive Held (σ : Sto) (base : Nat) (T : Array Value) : Fr → Prop
  | nil : Held σ base T []
  | cons {d : Nat} {c : AV} {l : Fr} (h : σ.get (base + d) = some (.hold c (T.getD d undef))) (hr : Held σ base T l) : Held σ base T ((d, c) :: l)

theorem St.addHold {g : G} {a : Act} (h : St E g a fr σ) (id : Nat) {c : AV} {v : Value} (hr : Rel g c v) : St E g a fr ((id, .hold c v) :: σ) := by
  have hget : ∀ o ob, Sto.get ((id, .hold c v) :: σ) o = some ob → ob = .hold c v ∨ σ.get o = some ob := by
    intro o ob hg
    rw [Sto.get_cons] at hg
    split at hg
    · cases hg; exact .inl rfl
    · exact .inr hg
  refine ⟨h.fr, h.n, h.df, ⟨fun o ob ho => ?_, fun o o' ob ob' b h1 h2 h3 h4 => ?_, fun o ob b h1 h2 => ?_, h.so.old, h.so.wf⟩⟩
  · rcases hget o ob ho with rfl | h1
    · exact .hold hr
    · exact h.so.obj o ob h1
  · rcases hget o ob h1 with rfl | h1
    · cases h3
    · rcases hget o' ob' h2 with rfl | h2
      · cases h4
      · exact h.so.apart o o' ob ob' b h1 h2 h3 h4
  · rcases hget o ob h1 with rfl | h1
    · cases h2
    · exact h.so.mine o ob b h1 h2
theorem St.addSus {g : G} {a : Act} (h : St E g a fr σ) (id B : Nat) {ds : List Deferred} (hr : Dok B g.w ds) : St E g a fr ((id, .sus B ds) :: σ) := by
  have hget : ∀ o ob, Sto.get ((id, .sus B ds) :: σ) o = some ob → ob = .sus B ds ∨ σ.get o = some ob := by
    intro o ob hg
    rw [Sto.get_cons] at hg
    split at hg
    · cases hg; exact .inl rfl
    · exact .inr hg
  refine ⟨h.fr, h.n, h.df, ⟨fun o ob ho => ?_, fun o o' ob ob' b h1 h2 h3 h4 => ?_, fun o ob b h1 h2 => ?_, h.so.old, h.so.wf⟩⟩
  · rcases hget o ob ho with rfl | h1
    · exact .sus hr
    · exact h.so.obj o ob h1
  · rcases hget o ob h1 with rfl | h1
    · cases h3
    · rcases hget o' ob' h2 with rfl | h2
      · cases h4
      · exact h.so.apart o o' ob ob' b h1 h2 h3 h4
  · rcases hget o ob h1 with rfl | h1
    · cases h2
    · exact h.so.mine o ob b h1 h2
theorem St.addHolds {g : G} {a : Act} {keep : Fr} (h : St E g a fr σ) (base : Nat) (hk : Keep fr keep) : St E g a fr (holds base a.tmps keep ++ σ) := by
  induction hk with
  | nil => exact h
  | @cons k c l h1 hr ih => exact ih.addHold (base + k) (by have := h.fr k; rw [h1] at this; exact this)
theorem held_frame {g : G} {base : Nat} {T : Array Value} {fr' : Fr} (hs : ∀ o ob, σ.get o = some ob → RelO g o ob) (h : Held σ base T fr') : ∀ d, Rel g (fr'.get d) (T.getD d undef) := by
  induction h with
  | nil => exact fun d => .any _
  | @cons d c l h1 hr ih =>
    intro e
    rw [Fr.get_cons]
    split
    · rename_i he; subst he
      cases hs _ _ h1 with
      | hold h2 => exact h2
    · exact ih e
/-- the store of one frame under another frame -/
theorem St.frame {E' : Env} {g : G} {a a' : Act} {fr' : Fr} (h : St E g a fr σ) (hS : E'.S = E.S) (hg : E'.g0 = E.g0) (hf : ∀ d, Rel g (fr'.get d) (a'.tmps.getD d undef)) (hn : a'.tmps.size = E'.N) (hd : DokE E' g.w a'.defers) : St E' g a' fr' σ :=
  ⟨hf, hn, hd, by rw [hS, hg]; exact h.so⟩

/-- an operation that is not passed over -/
structure Wanted (E : Env) (ops : Array Oper) (o : Oper) (fr : Fr) (σ : Sto) : Prop where
  go : ∀ g a, St E g a fr σ → Region.wanted o (yielded ops a.tmps) = true
theorem wanted_plain {ops : Array Oper} {o : Oper} (hg : o.guard = none) : Wanted E ops o fr σ := ⟨fun g a hs => by simp [Region.wanted, hg]⟩
/-- **a call of a known function, entered in place**: it shares the store -/
theorem awpl_inline {gu : Option (Nat × Bool)} {ops rest} {k f : Nat} {fn : Func} {c : Code} {fx : Operand} {xs : List Operand} {ats : Array TypeId} {ty : TypeId} {pos : String} {af : Array Edge} {first cap args : List AV} (base sid : Nat) (keep : Fr) (hw : Wanted E ops ⟨some k, .call ⟨.value fx, xs.toArray, ats⟩, ty, pos, af, gu⟩ fr σ) (hf : fr.ev fx = .fn (.func f) first cap) (hok : FnOk E.P f fn c)
    (hN : (Nat.ble (k + 1) E.N && Nat.ble args.length fn.ntmps) = true) (ha : first ++ xs.map fr.ev ++ cap = args) (hk : Keep fr keep)
    (h : ∀ (T : Array Value) (ds : List Deferred), T.size = E.N → AWP ⟨E.P, none, E.g0, fn.ntmps, true, E.gl, E.S, E.sg⟩ c (frameFrom 0 args) ((sid, .sus E.g0.w.heap.size ds) :: (holds base T keep ++ σ))
      (fun e fr' σ' => (e = .ret ∨ e = .normal) ∧ ∃ cs fr'' σ'', ResL E.P fr' σ' fn.results.toList cs ∧ Held σ' base T fr'' ∧ σ'.get sid = some (.sus E.g0.w.heap.size ds) ∧ StoLe σ' σ'' ∧ AWPL E ops rest ((k, retAV cs) :: fr'') σ'' K)) :
    AWPL E ops (⟨some k, .call ⟨.value fx, xs.toArray, ats⟩, ty, pos, af, gu⟩ :: rest) fr σ K :=
  ⟨fun g a hst => by
    simp only [Bool.and_eq_true] at hN
    have hk1 := Nat.le_of_ble_eq_true hN.1
    have hN2 := Nat.le_of_ble_eq_true hN.2
    have hw := hw.go g a hst
    simp only [wpListIn, hw, if_true]
    refine ⟨fun _ _ => trivial, ?_⟩
    have hfv := hst.ev fx
    rw [hf] at hfv
    generalize hev : a.eval fx = fv at hfv
    cases hfv with
    | @fn _ _ _ firstV capV l1 l2 r1 r2 =>
      rw [Oper.semAt_plain _ _ _ (fun c => by simp), run_call_op hok hev, Oper.uponIn_enter]
      refine ⟨fun h => by simp [fen] at h, ?_⟩
      have hargs : RelArgs g args (firstV ++ xs.toArray.map a.eval ++ capV) := by
        subst ha
        refine ⟨by simp [l1, l2], fun i c' hi => ?_⟩
        rw [Array.getD_eq_getD_getElem?]
        rcases Nat.lt_or_ge i (first.length + xs.length) with hlt | hge
        · rw [Array.getElem?_append_left (by simp [l1]; omega)]
          rw [List.getElem?_append_left (by simp; omega)] at hi
          rcases Nat.lt_or_ge i first.length with hlt2 | hge2
          · rw [Array.getElem?_append_left (by rw [l1]; exact hlt2), ← Array.getD_eq_getD_getElem?]
            rw [List.getElem?_append_left hlt2] at hi
            exact r1 i c' hi
          · rw [Array.getElem?_append_right (by rw [l1]; exact hge2), l1]
            rw [List.getElem?_append_right hge2] at hi
            simp only [List.getElem?_map, Option.map_eq_some_iff] at hi
            obtain ⟨x, hx, rfl⟩ := hi
            have := hst.ev x
            simpa [hx] using this
        · rw [Array.getElem?_append_right (by simp [l1]; omega)]
          rw [List.getElem?_append_right (by simp; omega)] at hi
          have e1 : i - (firstV ++ xs.toArray.map a.eval).size = i - (first ++ xs.map fr.ev).length := by simp [l1]
          rw [e1, ← Array.getD_eq_getD_getElem?]
          exact r2 _ c' hi
      obtain ⟨hsz, ha'⟩ := hargs
      refine callsIn_fen (callsIn_of_wp hok.f hok.b trivial ?_)
      have hst1 := (hst.addHolds base hk).addSus sid E.g0.w.heap.size hst.df.ok
      refine wpIn_mono ((h a.tmps a.defers hst.n).go g _ (hst1.frame (E' := ⟨E.P, none, E.g0, fn.ntmps, true, E.gl, E.S, E.sg⟩) rfl rfl (fun d => ?_) (by simp; simp at hsz; omega) ⟨Dok.nil _ _, fun _ => rfl⟩)) ?_
      · rw [frameFrom_get]
        simp only [Nat.zero_le, if_true, Nat.sub_zero]
        cases hc : args[d]? with
        | none => exact .any _
        | some c' =>
          have hlt : d < (firstV ++ xs.toArray.map a.eval ++ capV).size := by rw [hsz]; exact (List.getElem?_eq_some_iff.1 hc).1
          have := ha' d c' hc
          rw [Array.getD_eq_getD_getElem?, Array.getElem?_append_left hlt, ← Array.getD_eq_getD_getElem?]
          exact this
      · rintro e a2 w' ⟨g', fr', σ', rfl, hst', he, cs, fr'', σ'', hres, hheld, hsus, hle, hrest⟩
        obtain ⟨v, h1, h2⟩ := results_run (P := E.P) hres hst'.fr (fun k cs hk => hst'.so.obj k _ hk)
        have hd0 : a2.defers = [] := hst'.df.no rfl
        have hdok : Dok E.g0.w.heap.size g'.w a.defers := by
          cases hst'.so.obj sid _ hsus with
          | sus h3 => exact h3
        have hstc : St E g' a fr'' σ' := hst'.frame (E' := E) rfl rfl (held_frame hst'.so.obj hheld) hst.n ⟨hdok, hst.df.no⟩
        have hfin := hrest.go g' _ ((hstc.le frLe_refl hle).put hk1 h2)
        rcases he with rfl | rfl
        · exact ⟨hd0, v, h1, hfin⟩
        · exact ⟨hd0, v, h1, hfin⟩⟩

end Go.Proofs.YtpclhpncmlbccaaGreatDoor

/- The abstract calculus: ranges over functions, yield. No program is named. -/
namespace Go.Proofs.YtpclhpncmlbccaaGreatDoor
open Go.RowKit Go.Lib

variable {E : Env} {fr : Fr} {σ : Sto} {K : Post}

theorem St.addObj {g g' : G} {a : Act} (h : St E g a fr σ) (id : Nat) {ob : AO} (hf : fr.has id = false) (hs : σ.has id = false) (hold : Old (fun _ => False) g g') (hwf : Wf g') (hloc : ∀ k, k ≠ id → g'.loc k = g.loc k) (hob : RelO g' id ob)
    (hnew : ∀ b, ob.own (g'.loc id) b → g.w.heap.size ≤ b) : St E g' a fr ((id, ob) :: σ) := by
  have hget : ∀ o ob', Sto.get ((id, ob) :: σ) o = some ob' → (o = id ∧ ob' = ob) ∨ (o ≠ id ∧ σ.get o = some ob') := by
    intro o ob' hg
    rw [Sto.get_cons] at hg
    split at hg
    · rename_i hk; cases hg; exact .inl ⟨hk.symm, rfl⟩
    · rename_i hk; exact .inr ⟨Ne.symm hk, hg⟩
  refine ⟨fun d => (h.fr d).mono hold.ext fun k hk => hloc k ?_, h.n, h.df.mono hold.ext, ⟨?_, ?_, ?_, h.so.old.trans (hold.mono (by intro b _ hf; exact hf.elim)), hwf⟩⟩
  · rintro rfl; rw [Fr.has_get hk] at hf; cases hf
  · intro o ob' hg
    rcases hget o ob' hg with ⟨rfl, rfl⟩ | ⟨hne, hg1⟩
    · exact hob
    · refine (h.so.obj o ob' hg1).mono hold.ext (hloc o hne) (fun k hk => hloc k ?_) fun b hb => hold.block b ((h.so.obj o ob' hg1).block_lt hb) (by simp)
      rintro rfl; rw [Sto.has_get hg1 hk] at hs; cases hs
  · intro o o' ob1 ob2 b h1 h2 h3 h4
    rcases hget o ob1 h1 with ⟨rfl, rfl⟩ | ⟨hne, hg⟩ <;> rcases hget o' ob2 h2 with ⟨rfl, rfl⟩ | ⟨hne', hg'⟩
    · rfl
    · rw [hloc o' hne'] at h4
      have := (h.so.obj o' ob2 hg').block_lt h4
      have := hnew b h3
      omega
    · rw [hloc o hne] at h3
      have := (h.so.obj o ob1 hg).block_lt h3
      have := hnew b h4
      omega
    · rw [hloc o hne] at h3; rw [hloc o' hne'] at h4
      exact h.so.apart o o' ob1 ob2 b hg hg' h3 h4
  · intro o ob1 b h1 h2
    rcases hget o ob1 h1 with ⟨rfl, rfl⟩ | ⟨hne, hg⟩
    · exact .inl (Nat.le_trans h.so.old.ext.size (hnew b h2))
    · rw [hloc o hne] at h2; exact h.so.mine o ob1 b hg h2

end Go.Proofs.YtpclhpncmlbccaaGreatDoor

/- The abstract calculus: yield, the body of a range over a function run in a round. No program is named. -/
namespace Go.Proofs.YtpclhpncmlbccaaGreatDoor
open Go.RowKit Go.Lib

variable {E : Env} {fr : Fr} {σ : Sto} {K : Post}

end Go.Proofs.YtpclhpncmlbccaaGreatDoor

/- The abstract calculus: function values, min, max, literals of bytes, append onto nil in any order. No program is named. -/
namespace Go.Proofs.YtpclhpncmlbccaaGreatDoor
open Go.RowKit Go.Lib

section
variable {P : Program} {ρ : Operand → AV} {σ : Sto} {dst : Option Tmp} {ty : TypeId} {pos : String} {af : Array Edge} {gu : Option (Nat × Bool)}
theorem ev_makeFunc {f : Fn} {xs ys : List Operand} {c1 c2 : List AV} (h1 : xs.map ρ = c1) (h2 : ys.map ρ = c2) : EvQ P ⟨dst, .makeFunc f xs.toArray ys.toArray, ty, pos, af, gu⟩ ρ σ (.fn f c1 c2) :=
  ⟨fun c => by simp, fun g ρv h _ => by
    subst h1; subst h2
    refine ⟨.func f (xs.toArray.map ρv) (ys.toArray.map ρv), rfl, .fn (by simp) (by simp) (fun i c hi => ?_) (fun i c hi => ?_)⟩
    · simp only [List.getElem?_map, Option.map_eq_some_iff] at hi
      obtain ⟨x, hx, rfl⟩ := hi
      have := h x (by simp [Op.operands]; exact .inl (List.mem_of_getElem? hx))
      simpa [hx] using this
    · simp only [List.getElem?_map, Option.map_eq_some_iff] at hi
      obtain ⟨x, hx, rfl⟩ := hi
      have := h x (by simp [Op.operands]; exact .inr (List.mem_of_getElem? hx))
      simpa [hx] using this⟩
theorem ev_min {k : IntKind} {a b : Int} {x y : Operand} {ats : Array TypeId} (hx : ρ x = .pv (.b (.int k a))) (hy : ρ y = .pv (.b (.int k b))) : EvQ P ⟨dst, .call ⟨.builtin .min, #[x, y], ats⟩, ty, pos, af, gu⟩ ρ σ (.pv (.b (.int k (min a b)))) :=
  ⟨fun c => by simp, fun g ρv h _ => by
    have h1 := h x (by simp [Op.operands, Call.operands])
    have h2 := h y (by simp [Op.operands, Call.operands])
    rw [hx] at h1; rw [hy] at h2
    have e1 := rel_b h1
    have e2 := rel_b h2
    refine ⟨.int k (min a b), ?_, .pv (.b rfl)⟩
    have : (if b < a then b else a) = min a b := by omega
    simp [execOp, resolve, Deferred.ofValue, invoke, builtin, Builtin.min_, Builtin.min2, e1, e2, go_sem, this]⟩
theorem ev_max {k : IntKind} {a b : Int} {x y : Operand} {ats : Array TypeId} (hx : ρ x = .pv (.b (.int k a))) (hy : ρ y = .pv (.b (.int k b))) : EvQ P ⟨dst, .call ⟨.builtin .max, #[x, y], ats⟩, ty, pos, af, gu⟩ ρ σ (.pv (.b (.int k (max a b)))) :=
  ⟨fun c => by simp, fun g ρv h _ => by
    have h1 := h x (by simp [Op.operands, Call.operands])
    have h2 := h y (by simp [Op.operands, Call.operands])
    rw [hx] at h1; rw [hy] at h2
    have e1 := rel_b h1
    have e2 := rel_b h2
    refine ⟨.int k (max a b), ?_, .pv (.b rfl)⟩
    have : (if a < b then b else a) = max a b := by omega
    simp [execOp, resolve, Deferred.ofValue, invoke, builtin, Builtin.max_, Builtin.max2, e1, e2, go_sem, this]⟩
end

theorem freeze_facts (w : World) (B n : Nat) : ∃ w', w' = w.freeze ⟨B, n, none⟩ 1 ∧ w'.heap.size = w.heap.size ∧ w'.os = w.os ∧ w'.tape = w.tape ∧ w'.output = w.output ∧ (∀ k, k ≠ B → w'.heap[k]? = w.heap[k]?) ∧ (∀ k i, w'.cell? ⟨k, i, none⟩ = w.cell? ⟨k, i, none⟩) ∧ (∀ r : Nat, w.heap[r]? = some (Obj.deferred (some [])) → w'.heap[r]? = some (Obj.deferred (some []))) := by
  refine ⟨_, rfl, by simp [World.freeze], by simp [World.freeze], by simp [World.freeze], by simp [World.freeze], fun k hk => ?_, fun k i => ?_, fun r hr => ?_⟩
  · simp only [World.freeze, Nat.one_ne_zero, if_false, Array.getElem?_modify]
    rw [if_neg (Ne.symm hk)]
  · simp only [World.cell?, World.freeze, Nat.one_ne_zero, if_false, Array.getElem?_modify]
    by_cases hk : B = k
    · rw [if_pos hk]
      cases hh : w.heap[k]? with
      | none => rfl
      | some o => cases o <;> rfl
    · rw [if_neg hk]
  · simp only [World.freeze, Nat.one_ne_zero, if_false, Array.getElem?_modify, hr]
    split <;> rfl
theorem run_markStringish (P : Program) (w : World) (B : Nat) (o : Nat := 0) : ∃ w', (markStringish ⟨B, o, none⟩).run P w = .ok () w' ∧ w'.heap.size = w.heap.size ∧ w'.os = w.os ∧ w'.tape = w.tape ∧ w'.output = w.output ∧ (∀ k, k ≠ B → w'.heap[k]? = w.heap[k]?) ∧ (∀ k i, w'.cell? ⟨k, i, none⟩ = w.cell? ⟨k, i, none⟩) ∧ (∀ r : Nat, w.heap[r]? = some (Obj.deferred (some [])) → w'.heap[r]? = some (Obj.deferred (some []))) := by
  cases hsh : w.shape? B with
  | none =>
    refine ⟨w, ?_, rfl, rfl, rfl, rfl, fun _ _ => rfl, fun _ _ => rfl, fun _ h => h⟩
    simp [markStringish, shape, Sem.run, hsh]
  | some p =>
    obtain ⟨w', e, h⟩ := freeze_facts w B p.2
    refine ⟨w', ?_, h⟩
    rw [e]
    simp [markStringish, shape, freeze, Sem.run, hsh]

variable {E : Env} {fr : Fr} {σ : Sto} {K : Post}
/-- a literal of bytes, converted to its own type -/
theorem awpl_litconv {ops rest} {k1 k2 : Nat} {o1 : Oper} {t e : TypeId} {l : List UInt8} {ss sb s1 s2 : Nat} {sz z : Value} {ty : TypeId} {pos : String} {af : Array Edge} {gu : Option (Nat × Bool)} (hd : o1.dst = some k1) (h1 : OpGN E o1 fr σ (.l cU l)) (ht : TyOk E.P t ss sb sz (.slice e)) (he : TyOk E.P e s1 s2 z (.int .u8))
    (hw1 : Wanted E ops o1 fr σ) (hw2 : Wanted E ops ⟨some k2, .convert t t (.tmp k1), ty, pos, af, gu⟩ ((k1, .l cU l) :: fr) σ) (hN : (Nat.ble (k1 + 1) E.N && Nat.ble (k2 + 1) E.N) = true)
    (h : AWPL E ops rest ((k2, .l cU l) :: (k1, .l cU l) :: fr) σ K) : AWPL E ops (o1 :: ⟨some k2, .convert t t (.tmp k1), ty, pos, af, gu⟩ :: rest) fr σ K :=
  ⟨fun g a hst => by
    simp only [Bool.and_eq_true] at hN
    have hN1 := Nat.le_of_ble_eq_true hN.1
    have hN2 := Nat.le_of_ble_eq_true hN.2
    simp only [wpListIn, hw1.go g a hst, if_true]
    refine h1.go g a _ _ (fun x _ => hst.ev x) hst.so fun g' v hold hwf hloc hv hn => ?_
    obtain ⟨n, cp, rfl⟩ := hn
    have hst1 : St E g' (a.put o1.dst (.slice (some ⟨g.w.heap.size, 0, none⟩) n cp)) ((k1, .l cU l) :: fr) σ := by rw [hd]; exact (hst.grow hold hwf (fun k _ => by rw [hloc])).put hN1 hv
    rw [hw2.go g' _ hst1]
    simp only [if_true]
    refine ⟨fun _ _ => trivial, ?_⟩
    have hev : (a.put o1.dst (.slice (some ⟨g.w.heap.size, 0, none⟩) n cp)).eval (.tmp k1) = .slice (some ⟨g.w.heap.size, 0, none⟩) n cp := by
      rw [hd]
      simp only [Act.put, Act.eval]
      rw [getD_set_eq, if_pos ⟨rfl, by rw [hst.n]; exact hN1⟩]
    obtain ⟨w2, hrun, hsz, hos, htp, hout, hblk, hcell, hdf⟩ := run_markStringish E.P g'.w g.w.heap.size
    have hrun2 : (execOp (a.put o1.dst (.slice (some ⟨g.w.heap.size, 0, none⟩) n cp)).eval ⟨some k2, .convert t t (.tmp k1), ty, pos, af, gu⟩).run E.P g'.w = .ok (.value (.slice (some ⟨g.w.heap.size, 0, none⟩) n cp)) w2 := by
      show Sem.run E.P (do let v ← convert t t _; pure (Next.value v)) g'.w = _
      rw [hev]
      simp only [convert, underlying, program, Sem.run_bind, Sem.run, ht.u, he.u, Result.andThen_ok, Sem.run_pure, beq_self_eq_true, hrun]
    rw [Oper.semAt_plain _ _ _ (fun c => by simp), hrun2, Oper.uponIn_value]
    have hx : Ext g'.w g'.u w2 g'.u := ⟨Nat.le_of_eq hsz.symm, fun _ _ => Nat.le_refl _, fun k i _ _ => hcell k i, hdf⟩
    have hold2 : Old (fun _ => False) g ⟨w2, g'.u, g'.loc⟩ := by
      refine ⟨hos.trans hold.os, htp.trans hold.tape, hout.trans hold.output, hold.ext.trans hx, fun k hk hs => ?_⟩
      obtain ⟨b1, b2⟩ := hold.block k hk hs
      exact ⟨(hblk k (by omega)).trans b1, b2⟩
    have hwf2 : Wf ⟨w2, g'.u, g'.loc⟩ := fun k hk => hwf k (by rw [← hsz]; exact hk)
    have hv2 : Rel ⟨w2, g'.u, g'.loc⟩ (.l cU l) (.slice (some ⟨g.w.heap.size, 0, none⟩) n cp) := hv.mono hx (fun _ _ => rfl)
    have hst2 : St E ⟨w2, g'.u, g'.loc⟩ (a.put o1.dst (.slice (some ⟨g.w.heap.size, 0, none⟩) n cp)) ((k1, .l cU l) :: fr) σ := by rw [hd]; exact (hst.grow hold2 hwf2 (fun k _ => by show g'.loc k = _; rw [hloc])).put hN1 hv2
    exact h.go _ _ (hst2.put hN2 hv2)⟩

section
variable {dst : Option Tmp} {ty t tx e : TypeId} {pos : String} {af : Array Edge} {gu : Option (Nat × Bool)} {α : Type} {F : α → List PV} {xs r' : List α} {x y : Operand} {nl : Option Bool} {ss sb size bytes lim : Nat} {sz zero : Value} {d : TypeDesc}
end

end Go.Proofs.YtpclhpncmlbccaaGreatDoor

/- The abstract calculus: calls in place, ranges over functions, yield: the forms that the generator uses. No program is named. -/
namespace Go.Proofs.YtpclhpncmlbccaaGreatDoor
open Go.RowKit Go.Lib

variable {E : Env} {fr : Fr} {σ : Sto} {K : Post}

/-- the end of a call in place -/
def InlK (E : Env) (ops : Array Oper) (rest : List Oper) (k : Nat) (fn : Func) (base sid : Nat) (T : Array Value) (ds : List Deferred) (K : Post) : Post := fun e fr' σ' => (e = .ret ∨ e = .normal) ∧ ∃ fr2 σ2 cs fr'' σ'', FrLe fr' fr2 ∧ StoLe σ' σ2 ∧ ResL E.P fr2 σ2 fn.results.toList cs ∧ Held σ2 base T fr'' ∧ σ2.get sid = some (.sus E.g0.w.heap.size ds) ∧ StoLe σ2 σ'' ∧ AWPL E ops rest ((k, retAV cs) :: fr'') σ'' K
theorem inlK {ops : Array Oper} {rest : List Oper} {k : Nat} {fn : Func} {base sid : Nat} {T : Array Value} {ds : List Deferred} {e : Exit} {fr' fr2 fr'' : Fr} {σ' σ2 σ'' : Sto} {cs : List AV} (he : e = .ret ∨ e = .normal) (hf : FrLe fr' fr2) (hs : StoLe σ' σ2) (hr : ResL E.P fr2 σ2 fn.results.toList cs) (hh : Held σ2 base T fr'') (hsu : σ2.get sid = some (.sus E.g0.w.heap.size ds)) (hle : StoLe σ2 σ'')
    (h : AWPL E ops rest ((k, retAV cs) :: fr'') σ'' K) : InlK E ops rest k fn base sid T ds K e fr' σ' := ⟨he, fr2, σ2, cs, fr'', σ'', hf, hs, hr, hh, hsu, hle, h⟩
theorem ResL.le {P : Program} {fr fr' : Fr} {σ σ' : Sto} {rvs : List ResultVar} {cs : List AV} (hf : FrLe fr fr') (hs : StoLe σ σ') (h : ResL P fr' σ' rvs cs) : ResL P fr σ rvs cs := by
  induction h with
  | nil => exact .nil
  | cons h _ ih => exact .cons (res1_le hf hs h) ih
theorem Held.le {base : Nat} {T : Array Value} {l : Fr} {σ' : Sto} (hs : StoLe σ σ') (h : Held σ' base T l) : Held σ base T l := by
  induction h with
  | nil => exact .nil
  | cons h _ ih =>
    refine .cons ?_ ih
    rcases hs _ _ h with h1 | ⟨cs, _, h1⟩
    · exact h1
    · cases h1
theorem stoLe_sus {σ' : Sto} {o B : Nat} {ds : List Deferred} (hs : StoLe σ σ') (h : σ'.get o = some (.sus B ds)) : σ.get o = some (.sus B ds) := by
  rcases hs _ _ h with h1 | ⟨cs, _, h1⟩
  · exact h1
  · cases h1
theorem awpl_inl {gu : Option (Nat × Bool)} {ops rest} {k f : Nat} {fn : Func} {c : Code} {fx : Operand} {xs : List Operand} {ats : Array TypeId} {ty : TypeId} {pos : String} {af : Array Edge} {first cap args : List AV} (base sid : Nat) (keep : Fr) (hw : Wanted E ops ⟨some k, .call ⟨.value fx, xs.toArray, ats⟩, ty, pos, af, gu⟩ fr σ) (hf : fr.ev fx = .fn (.func f) first cap) (hok : FnOk E.P f fn c)
    (hN : (Nat.ble (k + 1) E.N && Nat.ble args.length fn.ntmps) = true) (ha : first ++ xs.map fr.ev ++ cap = args) (hk : Keep fr keep)
    (h : ∀ (T : Array Value) (ds : List Deferred), T.size = E.N → AWP ⟨E.P, none, E.g0, fn.ntmps, true, E.gl, E.S, E.sg⟩ c (frameFrom 0 args) ((sid, .sus E.g0.w.heap.size ds) :: (holds base T keep ++ σ)) (InlK E ops rest k fn base sid T ds K)) :
    AWPL E ops (⟨some k, .call ⟨.value fx, xs.toArray, ats⟩, ty, pos, af, gu⟩ :: rest) fr σ K :=
  awpl_inline base sid keep hw hf hok hN ha hk fun T ds hT => awp_mono (h T ds hT) fun e fr' σ' ⟨he, fr2, σ2, cs, fr'', σ'', hf, hs, hr, hh, hsu, hle, h⟩ =>
    ⟨he, cs, fr'', σ'', hr.le hf hs, hh.le hs, stoLe_sus hs hsu, stoLe_trans hs hle, h⟩

theorem Held.upd {base lid b : Nat} {T : Array Value} {l : Fr} {L L' : Loop} (hl : σ.get lid = some (.lp b L)) (h : Held σ base T l) : Held (σ.upd lid (.lp b L')) base T l := by
  induction h with
  | nil => exact .nil
  | cons h _ ih =>
    refine .cons ?_ ih
    rw [Sto.get_upd hl]
    split
    · rename_i he; rw [he, hl] at h; cases h
    · exact h

end Go.Proofs.YtpclhpncmlbccaaGreatDoor

/- The abstract calculus: regions that draw their order, explored: one state for each set of operations that may have come up. No program is named. -/
namespace Go.Proofs.YtpclhpncmlbccaaGreatDoor
open Go.RowKit Go.Lib

variable {E : Env} {fr : Fr} {σ : Sto} {K : Post}

abbrev Node := List Bool × Fr × Sto
/-- may it come up now? -/
def readyB (l : List Oper) (D : List Bool) (i : Nat) : Bool := match l[i]? with
  | some o => !(D.getD i false) && o.after.toList.all fun e => !Region.binds .any e || D.getD e.on false
  | none => false
def readyL (l : List Oper) (D : List Bool) : List Nat := (List.range l.length).filter (readyB l D)

inductive StepOk (E : Env) (l : List Oper) (all : List Node) (D : List Bool) (fr : Fr) (σ : Sto) (i : Nat) : Prop
  | yes {o : Oper} {fr' fr2 : Fr} {σ' σ2 : Sto} (j : Nat) (ho : l[i]? = some o) (hw : Wanted E l.toArray o fr σ) (hop : OpTo E o fr σ fr' σ') (hn : all[j]? = some (D.set i true, fr2, σ2)) (hf : FrLe fr' fr2) (hs : StoLe σ' σ2)
  | no {o : Oper} {fr2 : Fr} {σ2 : Sto} (j : Nat) (ho : l[i]? = some o) (hg : GuardNo l.toArray fr o) (hn : all[j]? = some (D.set i true, fr2, σ2)) (hf : FrLe ((o.dst.map fun d => (d, AV.tup [])).toList ++ fr) fr2) (hs : StoLe σ σ2)
inductive StepsOk (E : Env) (l : List Oper) (all : List Node) (D : List Bool) (fr : Fr) (σ : Sto) : List Nat → Prop
  | nil : StepsOk E l all D fr σ []
  | cons {i : Nat} {is : List Nat} (h : StepOk E l all D fr σ i) (r : StepsOk E l all D fr σ is) : StepsOk E l all D fr σ (i :: is)
inductive NodeOk (E : Env) (l : List Oper) (K : Post) (all : List Node) : Node → Prop
  | full {D : List Bool} {fr : Fr} {σ : Sto} (hD : readyL l D = []) (h : K .normal fr σ) : NodeOk E l K all (D, fr, σ)
  | step {D : List Bool} {fr : Fr} {σ : Sto} (is : List Nat) (hD : readyL l D = is) (hn : D.all id = false) (h : StepsOk E l all D fr σ is) : NodeOk E l K all (D, fr, σ)
inductive NodesOk (E : Env) (l : List Oper) (K : Post) (all : List Node) : List Node → Prop
  | nil : NodesOk E l K all []
  | cons {nd : Node} {r : List Node} (h : NodeOk E l K all nd) (hr : NodesOk E l K all r) : NodesOk E l K all (nd :: r)

theorem StepsOk.get {l : List Oper} {all : List Node} {D : List Bool} {is : List Nat} (h : StepsOk E l all D fr σ is) {i : Nat} (hi : i ∈ is) : StepOk E l all D fr σ i := by
  induction h with
  | nil => cases hi
  | cons h _ ih =>
    rcases List.mem_cons.1 hi with rfl | hi
    · exact h
    · exact ih hi
theorem NodesOk.get {l : List Oper} {all r : List Node} (h : NodesOk E l K all r) {nd : Node} (hi : nd ∈ r) : NodeOk E l K all nd := by
  induction h with
  | nil => cases hi
  | cons h _ ih =>
    rcases List.mem_cons.1 hi with rfl | hi
    · exact h
    · exact ih hi
theorem wanted_no {ops : Array Oper} {o : Oper} {g : G} {a : Act} (hs : St E g a fr σ) (h : GuardNo ops fr o) : Region.wanted o (yielded ops a.tmps) = false := by
  cases h with
  | @no j d want t hg hj hv ht =>
    have hy := yielded_of hs hj hv
    cases want <;> simp_all [Region.wanted]
  | @none j d want hg hj hv =>
    have hy : yielded ops a.tmps j = Option.none := by
      have h1 := hs.fr d
      rw [hv] at h1
      unfold yielded
      rw [hj]
      simp only [Option.bind_some]
      cases hx : a.tmps[d]? with
      | none => rfl
      | some x =>
        rw [Array.getD_eq_getD_getElem?, hx] at h1
        simp only [Option.getD_some] at h1
        cases h1
        rfl
    simp [Region.wanted, hg, hy]

theorem awp_explore {id : Nat} {l : List Oper} (all : List Node) {D0 : List Bool} {fr0 : Fr} {σ0 : Sto} (hmix : E.P.follows .mixedOrders = true) (hback : leadsBack .any l.toArray = true) (h0 : all[0]? = some (D0, fr0, σ0)) (hD0 : D0 = List.replicate l.length false) (hf : FrLe fr fr0) (hs : StoLe σ σ0) (h : NodesOk E l K all all) :
    AWP E (.region id l.toArray true) fr σ K :=
  ⟨fun g a hst => by
    refine wpIn_region_inv hmix hback (fun D a w => ∃ nd ∈ all, nd.1.length = l.length ∧ (∀ i, i < l.length → D i = nd.1.getD i false) ∧ ∃ g, g.w = w ∧ St E g a nd.2.1 nd.2.2) ?_ ?_ ?_
    · refine ⟨_, List.mem_of_getElem? h0, by subst hD0; simp, fun i hi => by subst hD0; simp [List.getD_eq_getElem?_getD, hi], ⟨g.w.drew, g.u, g.loc⟩, rfl, (hst.le hf hs).drew⟩
    · rintro D a w ⟨⟨D', fr', σ'⟩, hm, hl, hD, g, rfl, hst'⟩ hall
      cases h.get hm with
      | full _ hk => exact ⟨g, fr', σ', rfl, hst', hk⟩
      | step is _ hn _ =>
        exfalso
        have : D'.all _root_.id = true := by
          rw [List.all_eq_true]
          intro x hx
          obtain ⟨i, hi, rfl⟩ := List.mem_iff_getElem.1 hx
          have h1 := hD i (by rw [← hl]; exact hi)
          rw [hall i (by simp; rw [← hl]; exact hi)] at h1
          simp only [List.getD_eq_getElem?_getD, List.getElem?_eq_getElem hi, Option.getD_some] at h1
          simp [← h1]
        rw [this] at hn; cases hn
    · rintro D a w i o ⟨⟨D', fr', σ'⟩, hm, hl, hD, g, rfl, hst'⟩ ho hDi hae
      have ho' : l[i]? = some o := by simpa using ho
      have hil : i < l.length := (List.getElem?_eq_some_iff.1 ho').1
      have hready : i ∈ readyL l D' := by
        simp only [readyL, List.mem_filter, List.mem_range]
        refine ⟨hil, ?_⟩
        unfold readyB
        rw [ho']
        simp only [Bool.and_eq_true, Bool.not_eq_true', List.all_eq_true, Bool.or_eq_true]
        refine ⟨by rw [← hD i hil]; exact hDi, fun e he => ?_⟩
        cases hb : Region.binds .any e with
        | false => exact .inl rfl
        | true =>
          refine .inr ?_
          have h1 := hae e (by simpa using he) hb
          have hlt := leadsBack_spec hback ho e (by simpa using he) hb
          rw [← hD e.on (by omega)]
          exact h1
      have hstep : StepOk E l all D' fr' σ' i := by
        cases h.get hm with
        | full hD hk => rw [hD] at hready; cases hready
        | step is hD _ hs => rw [hD] at hready; exact hs.get hready
      have hnext : ∀ k, k < l.length → upd D i k = (D'.set i true).getD k false := by
        intro k hk
        unfold upd
        simp only [List.getD_eq_getElem?_getD, List.getElem?_set]
        by_cases hki : k = i
        · subst hki; simp [hl, hk]
        · rw [if_neg hki, if_neg (Ne.symm hki), ← List.getD_eq_getElem?_getD]; exact hD k hk
      cases hstep with
      | @yes o' fr2' fr2 σ2' σ2 j ho2 hw hop hn hf2 hs2 =>
        rw [ho'] at ho2; cases ho2
        unfold wpOpIn
        rw [ho]
        simp only [hw.go g a hst', if_true]
        exact hop.go g a _ _ hst' fun g' a' hst2 => ⟨_, List.mem_of_getElem? hn, by simp [hl], hnext, g', rfl, hst2.le hf2 hs2⟩
      | @no o' fr2 σ2 j ho2 hg hn hf2 hs2 =>
        rw [ho'] at ho2; cases ho2
        unfold wpOpIn
        rw [ho]
        simp only [wanted_no hst' hg]
        exact ⟨fun _ _ => trivial, _, List.mem_of_getElem? hn, by simp [hl], hnext, g, rfl, hst'.putUndef.le hf2 hs2⟩⟩

end Go.Proofs.YtpclhpncmlbccaaGreatDoor

/- The abstract calculus: literals as owned rows, their conversion to their own type. No program is named. -/
namespace Go.Proofs.YtpclhpncmlbccaaGreatDoor
open Go.RowKit Go.Lib

variable {E : Env} {fr : Fr} {σ : Sto} {K : Post}
section
variable {ty : TypeId} {pos : String} {af : Array Edge} {gu : Option (Nat × Bool)}
variable {α : Type} {F : α → List PV} {l : List α} {size bytes sb ss k n : Nat} {e t : TypeId} {zero sz : Value} {d : TypeDesc}
end

def Sto.del (r : Nat) : Sto → Sto
  | [] => []
  | (k, a) :: s => bif Nat.beq k r then Sto.del r s else (k, a) :: Sto.del r s
theorem Sto.get_del (r : Nat) (σ : Sto) (o : Nat) : (Sto.del r σ).get o = if o = r then none else σ.get o := by
  induction σ with
  | nil => simp [Sto.del, Sto.get]
  | cons x s ih =>
    obtain ⟨k, a⟩ := x
    unfold Sto.del
    cases hb : Nat.beq k r with
    | true =>
      have := Nat.eq_of_beq_eq_true hb
      subst this
      simp only [cond_true, ih, Sto.get_cons]
      by_cases ho : o = k
      · simp [ho]
      · rw [if_neg ho, if_neg ho, if_neg (Ne.symm ho)]
    | false =>
      have hne : k ≠ r := by rintro rfl; simp at hb
      simp only [cond_false, Sto.get_cons, ih]
      by_cases ho : k = o
      · subst ho; simp [hne]
      · rw [if_neg ho, if_neg ho]
end Go.Proofs.YtpclhpncmlbccaaGreatDoor

/- The abstract calculus: parts and elements of owned rows: rules. No program is named. -/
namespace Go.Proofs.YtpclhpncmlbccaaGreatDoor
open Go.RowKit Go.Lib

variable {E : Env} {fr : Fr} {σ : Sto} {K : Post} {P : Program} {ρ : Operand → AV}
variable {dst : Option Tmp} {ty : TypeId} {pos : String} {af : Array Edge} {gu : Option (Nat × Bool)}

/-- an object of the store turns, where it lies -/
theorem St.objset {g g' : G} {a : Act} (h : St E g a fr σ) {r : Nat} {ob0 ob : AO} (hr : σ.get r = some ob0) (hx : Ext g.w g.u g'.w g'.u) (hl : g'.loc = g.loc)
    (hos : g'.w.os = g.w.os) (htape : g'.w.tape = g.w.tape) (hout : g'.w.output = g.w.output)
    (hb : ∀ b, b < g.w.heap.size → ¬ ob0.own (g.loc r) b → g'.w.heap[b]? = g.w.heap[b]? ∧ g'.u b = g.u b) (hwf : Wf g') (hob : RelO g' r ob)
    (hk : ∀ l, ob0.own l = ob.own l) : St E g' a fr (σ.upd r ob) := by
  have hget := Sto.get_upd (ob := ob) hr
  have hsome : ∀ k ob1, (σ.upd r ob).get k = some ob1 → ∃ ob', σ.get k = some ob' ∧ ∀ l, ob'.own l = ob1.own l := by
    intro k ob1 hk1
    rw [hget] at hk1
    split at hk1
    · rename_i hkr; cases hk1; exact ⟨ob0, hkr ▸ hr, hk⟩
    · exact ⟨_, hk1, fun _ => rfl⟩
  refine ⟨fun d => (h.fr d).mono hx (fun k _ => by rw [hl]), h.n, h.df.mono hx, ⟨?_, ?_, ?_, ?_, hwf⟩⟩
  · intro k ob1 hk1
    rw [hget] at hk1
    split at hk1
    · rename_i hkr; subst hkr; cases hk1; exact hob
    · rename_i hkr
      refine (h.so.obj k ob1 hk1).mono hx (by rw [hl]) (fun _ _ => by rw [hl]) fun b' hb' => hb b' ((h.so.obj k ob1 hk1).block_lt hb') fun hc => ?_
      exact hkr (h.so.apart k r ob1 _ b' hk1 hr hb' hc)
  · intro k k' ob1 ob2 b' h1 h2 h3 h4
    obtain ⟨_, e1, q1⟩ := hsome k ob1 h1
    obtain ⟨_, e2, q2⟩ := hsome k' ob2 h2
    rw [← q1, hl] at h3
    rw [← q2, hl] at h4
    exact h.so.apart k k' _ _ b' e1 e2 h3 h4
  · intro k ob1 b' h1 h2
    obtain ⟨_, e1, q1⟩ := hsome k ob1 h1
    rw [← q1, hl] at h2
    exact h.so.mine k _ b' e1 h2
  · refine h.so.old.trans ⟨hos, htape, hout, hx, fun k hk1 hs => hb k hk1 fun hc => ?_⟩
    rcases h.so.mine r _ k hr hc with h1 | h1
    · exact hs (.inr h1)
    · exact hs (.inl h1)

section
variable {α : Type} {F : α → List PV} {l : List α} {r size bytes sb ss k : Nat} {e t : TypeId} {mu : Bool} {zero sz : Value} {d : TypeDesc} {x y : Operand}

/-- row[lo:hi] of an owned row becomes the row -/
theorem opTo_hcut_ {lo hi : Option Operand} {p q : Int} {v : List α} (hN : Nat.ble (k + 1) E.N = true) (hx : fr.ev x = .hs r 0) (hr : σ.get r = some (.row e mu size (l.map F)))
    (hlo : lo = none ∧ p = 0 ∨ ∃ o k, lo = some o ∧ fr.ev o = .pv (.b (.int k p))) (hhi : hi = none ∧ q = l.length ∨ mu = true ∧ ∃ o k, hi = some o ∧ fr.ev o = .pv (.b (.int k q)))
    (ht : TyOk E.P t ss sb sz (.slice e)) (he : TyOk E.P e size bytes zero d) (hv : cut l p q = some v) :
    OpTo E ⟨some k, .slice t x lo hi none, ty, pos, af, gu⟩ fr σ ((k, .hs r 0) :: fr.clr r) ((σ.clr r).upd r (.row e mu size (v.map F))) :=
  ⟨fun g a K Q hst hK => by
    obtain ⟨h0, h01, h02, rfl⟩ := cut_spec hv
    refine ⟨fun _ _ => trivial, ?_⟩
    rw [Oper.semAt_plain _ _ _ (fun c => by simp)]
    have h1 := hst.ev x
    rw [hx] at h1
    have hob := hst.so.obj r _ hr
    have hlo' : lo.map a.eval = none ∧ p = 0 ∨ ∃ k, lo.map a.eval = some (.int k p) := by
      rcases hlo with ⟨rfl, rfl⟩ | ⟨o, k, rfl, ho⟩
      · exact .inl ⟨rfl, rfl⟩
      · have h2 := hst.ev o
        rw [ho] at h2
        exact .inr ⟨k, by simp [rel_b h2]⟩
    have hhi' : hi.map a.eval = none ∧ q = l.length ∨ ∃ k, hi.map a.eval = some (.int k q) := by
      rcases hhi with ⟨rfl, rfl⟩ | ⟨_, o, k, rfl, ho⟩
      · exact .inl ⟨rfl, rfl⟩
      · have h2 := hst.ev o
        rw [ho] at h2
        exact .inr ⟨k, by simp [rel_b h2]⟩
    have hrun : ∀ ad cap, a.eval x = .slice ad l.length cap → l.length ≤ cap → (execOp a.eval ⟨some k, .slice t x lo hi none, ty, pos, af, gu⟩).run E.P g.w =
        .ok (.value (.slice (if cap = p.toNat then ad else ad.map (·.add (p.toNat * size))) (q.toNat - p.toNat) (cap - p.toNat))) g.w := by
      intro ad cap ev hcap
      show Sem.run E.P (do let v ← Instr.sliceAt t (a.eval x) (lo.map a.eval) (hi.map a.eval) none; pure (Next.value v)) g.w = _
      have hb := run_sliceBounds (P := E.P) (w := g.w) (len := l.length) (cap := cap) (lo := lo.map a.eval) (hi := hi.map a.eval) (a := p) (b := q) hcap hlo' hhi' h0 h01 h02
      rw [ev]
      simp only [Instr.sliceAt, underlying, program, Sem.run_bind, Sem.run, ht.u, Result.andThen_ok, Sem.run_pure, Instr.slice, hb, he.sizeOf]
    have e1 : (q - p).toNat = q.toNat - p.toNat := by omega
    rw [e1] at hK
    generalize hls : l.map F = ls at hob
    cases hob with
    | nil hl =>
      obtain rfl : l = [] := by simpa using hls
      have hp : p.toNat = 0 := by simp at h02; omega
      have hq : q.toNat = 0 := by simp at h02; omega
      generalize h1v : a.eval x = vx at h1
      cases h1 with
      | hs h2 => rw [hl] at h2; cases h2
      | hsNil ax =>
        rw [hrun ax 0 h1v (by simp), Oper.uponIn_value]
        have := hst.row_upd (ob := .row e mu size ((List.take (q.toNat - p.toNat) (List.drop p.toNat ([] : List α))).map F)) hr (Ext.refl _ _) (fun _ _ => rfl) rfl rfl rfl (fun _ _ _ => ⟨rfl, rfl⟩) hst.so.wf (by simp; exact .nil hl) (fun b hb => .inl hb)
        refine hK g _ (this.put (Nat.le_of_ble_eq_true hN) ?_)
        simp only [hp, hq, if_true, Nat.sub_zero]
        exact .hsNil _ hl
    | @row _ _ _ _ b off cap vs hl hb hn hm hle hz hu hmu hrel =>
      subst hls
      simp only [List.length_map] at hl hle hu
      have hlen : ((l.drop p.toNat).take (q.toNat - p.toNat)).length = q.toNat - p.toNat := by simp; omega
      generalize hev : a.eval x = vx at h1
      cases h1 with
      | hsNil ax h2 => rw [hl] at h2; cases h2
      | @hs _ _ _ _ _ _ ad h2 ha =>
        rw [hl] at h2
        cases h2
        rw [hrun (some ad) cap hev hle, Oper.uponIn_value]
        have hst' := hst.row_upd (g' := ⟨g.w, g.u, fun k => if k = r then .row b (off + p.toNat) (cap - p.toNat) size (q.toNat - p.toNat) else g.loc k⟩) (ob := .row e mu size (((l.drop p.toNat).take (q.toNat - p.toNat)).map F)) hr (Ext.refl _ _) (fun k hk => if_neg hk) rfl rfl rfl (fun _ _ _ => ⟨rfl, rfl⟩) hst.so.wf
          (.row (off := off + p.toNat) (cap := cap - p.toNat) (by simp only [if_true]; rw [List.length_map, hlen]) hb (by rw [hn]; congr 1; omega) (by omega) (by rw [List.length_map, hlen]; omega)
            (fun z hz' => by obtain ⟨w, hw, rfl⟩ := List.mem_map.1 hz'; exact hz _ (List.mem_map_of_mem (List.mem_of_mem_drop (List.mem_of_mem_take hw))))
            (by
              show g.u b ≤ _
              rw [List.length_map, hlen]
              rcases hhi with ⟨_, rfl⟩ | ⟨hmu', _⟩
              · have : off + p.toNat + ((l.length : Int).toNat - p.toNat) = off + l.length := by omega
                rw [this]; exact hu
              · rw [hmu hmu']; omega) hmu (fun i j z c hi hj => by
              simp only [List.getElem?_map, Option.map_eq_some_iff] at hi
              obtain ⟨w, hw, rfl⟩ := hi
              have hpl : i < q.toNat - p.toNat := by have := (List.getElem?_eq_some_iff.1 hw).1; omega
              rw [List.getElem?_take_of_lt hpl, List.getElem?_drop] at hw
              have := hrel (p.toNat + i) j (F w) c (by simp [hw]) hj
              rw [← Nat.add_assoc] at this
              exact this)) (fun b' hb' => .inl (by simp only [if_true] at hb'; rw [hl]; exact hb'))
        refine hK ⟨g.w, g.u, fun k => if k = r then .row b (off + p.toNat) (cap - p.toNat) size (q.toNat - p.toNat) else g.loc k⟩ _ (hst'.put (Nat.le_of_ble_eq_true hN) ?_)
        split
        · exact .hs (if_pos rfl) (fun hc => by omega)
        · refine .hs (if_pos rfl) (fun hc => ?_)
          rw [ha (by omega)]; show Addr.add _ _ = _; rw [addr_add, Nat.add_mul]⟩
theorem opTo_hcutH {q : Int} {k1 : IntKind} {v : List α} (hN : Nat.ble (k + 1) E.N = true) (hx : fr.ev x = .hs r 0) (hr : σ.get r = some (.row e true size (l.map F))) (hy : fr.ev y = .pv (.b (.int k1 q)))
    (ht : TyOk E.P t ss sb sz (.slice e)) (he : TyOk E.P e size bytes zero d) (hv : cut l 0 q = some v) :
    OpTo E ⟨some k, .slice t x none (some y) none, ty, pos, af, gu⟩ fr σ ((k, .hs r 0) :: fr.clr r) ((σ.clr r).upd r (.row e true size (v.map F))) := opTo_hcut_ hN hx hr (.inl ⟨rfl, rfl⟩) (.inr ⟨rfl, y, k1, rfl, hy⟩) ht he hv
/-- a row whose elements are written from now on no more -/
theorem St.unmu {g : G} {a : Act} {els : List (List PV)} (h : St E g a fr σ) (hr : σ.get r = some (.row e true size els)) : St E g a fr (σ.upd r (.row e false size els)) := by
  refine h.objset hr (Ext.refl _ _) rfl rfl rfl rfl (fun _ _ _ => ⟨rfl, rfl⟩) h.so.wf ?_ (fun _ => rfl)
  cases h.so.obj r _ hr with
  | nil h1 => exact .nil h1
  | row h1 h2 h3 h4 h5 h6 h7 h8 h9 => exact .row h1 h2 h3 h4 h5 h6 h7 (fun hc => by cases hc) h9
theorem awp_unmu {c : Code} {els : List (List PV)} (r : Nat) (hr : σ.get r = some (.row e true size els)) (h : AWP E c fr (σ.upd r (.row e false size els)) K) : AWP E c fr σ K :=
  ⟨fun g a hst => h.go g a (hst.unmu hr)⟩

/-- the address of an element -/
theorem ev_hidx {n : Int} {kk : IntKind} {v : α} (hx : ρ x = .hs r 0) (hy : ρ y = .pv (.b (.int kk n))) (hr : σ.get r = some (.row e mu size (l.map F))) (ht : TyOk P t ss sb sz (.slice e)) (he : TyOk P e size bytes zero d) (hv : idx l n = some v) :
    EvQ P ⟨dst, .indexAddr t x y, ty, pos, af, gu⟩ ρ σ (.hp r n.toNat 0) :=
  ⟨fun c => by simp, fun g ρv h hs => by
    obtain ⟨h1, h2⟩ := ops2 (o := ⟨dst, .indexAddr t x y, ty, pos, af, gu⟩) (x := x) (y := y) rfl h
    rw [hx] at h1
    rw [hy] at h2
    have e2 := rel_b h2
    obtain ⟨hn0, hv⟩ := idx_spec hv
    have hlt : n.toNat < l.length := (List.getElem?_eq_some_iff.1 hv).1
    have hn2 : n < l.length := by omega
    obtain ⟨i, hi, hsz, hby, hzero⟩ := he.info
    obtain ⟨old, ho1, ev, ho3⟩ := (hs r _ hr).old h1
    obtain ⟨a0, old⟩ := old
    cases old with
    | none => rw [ho3.2] at hlt; simp at hlt
    | some o =>
      obtain ⟨b, off, cap, cur⟩ := o
      obtain ⟨ad, rfl, ha⟩ := ho1.2.2.2.2
      have ha := ha (by have := ho1.2.2.1; omega)
      subst ha
      refine ⟨.pointer (some ⟨b, (off + n.toNat) * size + 0, none⟩), ?_, .hp ho3.1 hlt⟩
      simp [execOp, Instr.indexAt, e2, ev, oldV, go_sem, asIntOf, underlying, ht.u, sizeOf, typeInfo, hi, hsz, hn0, hn2, addr_add, Nat.add_mul]⟩
theorem ev_fieldAddr_hp {i j f : Nat} {fs : Array Field} {fl : Field} {fsize fbytes : Nat} {fzero : Value} {fd : TypeDesc} (hx : ρ x = .hp r i j) (ht : P.underlying t = some (.struct fs)) (hf : fs[f]? = some fl) (hft : TyOk P fl.type fsize fbytes fzero fd) (hz : Nat.beq fsize 0 = false) :
    EvQ P ⟨dst, .fieldAddr t x f, ty, pos, af, gu⟩ ρ σ (.hp r i (j + fl.offset)) :=
  ⟨fun c => by simp, fun g ρv h _ => by
    have h1 := h x (by simp [Op.operands])
    rw [hx] at h1
    generalize hv : ρv x = v at h1
    cases h1 with
    | @hp _ _ _ b off cap size n hl hi =>
      have hz' : fsize ≠ 0 := by rintro rfl; simp at hz
      refine ⟨_, ?_, .hp (j := j + fl.offset) hl hi⟩
      simp [execOp, Instr.fieldAt, Instr.sureAddr, hv, go_sem, underlying, ht, hf, fieldPlace, hft.sizeOf, hz', addr_add, Nat.add_assoc]⟩
/-- where an element lies -/
theorem hp_cells {g : G} {i j : Nat} {v : α} {vp : Value} (hob : RelO g r (.row e mu size (l.map F))) (hv : l[i]? = some v) (hp : Rel g (.hp r i j) vp) :
    ∃ b off cap vs, vp = .pointer (some ⟨b, (off + i) * size + j, none⟩) ∧ g.loc r = .row b off cap size l.length ∧ g.w.heap[b]? = some (.cells vs e (0, 0)) ∧ vs.size = (off + cap) * size ∧ cap ≤ maxLen ∧ l.length ≤ cap ∧ (F v).length = size ∧ (mu = true → g.u b = 0) ∧
      g.u b ≤ (off + l.length) * size ∧ (∀ x ∈ l, (F x).length = size) ∧ ∀ i j x c, l[i]? = some x → (F x)[j]? = some c → RelP g.w g.u c (vs.getD ((off + i) * size + j) undef) := by
  generalize hls : l.map F = ls at hob
  have hlt : i < l.length := (List.getElem?_eq_some_iff.1 hv).1
  cases hob with
  | nil hl =>
    obtain rfl : l = [] := by simpa using hls
    simp at hlt
  | @row _ _ _ _ b off cap vs h1 h2 h3 h3' h4 h5 h6 h7 h9 =>
    subst hls
    simp only [List.length_map] at h1 h4 h6
    cases hp with
    | @hp _ _ _ b' off' cap' size' n' hl hi =>
      rw [h1] at hl
      cases hl
      exact ⟨b, off, cap, vs, rfl, h1, h2, h3, h3', h4, h5 _ (List.mem_map_of_mem (List.mem_of_getElem? hv)), h7, h6, fun x hx => h5 _ (List.mem_map_of_mem hx), fun i j x c hi hj => h9 i j (F x) c (by simp [hi]) hj⟩
theorem hp_lt {off i cap n size j s : Nat} (h1 : i < n) (h2 : n ≤ cap) (h3 : j + s ≤ size) : (off + i) * size + j + s ≤ (off + cap) * size := by
  have : (off + i + 1) * size ≤ (off + cap) * size := Nat.mul_le_mul_right _ (by omega)
  rw [Nat.add_mul (off + i)] at this; omega
section
variable {t' : TypeId} {size' bytes' : Nat} {zero' : Value} {d' : TypeDesc} {n : Int} {j : Nat} {v v' : α} {c : PV}
theorem ev_hload (hx : ρ x = .hp r n.toNat j) (hr : σ.get r = some (.row e mu size (l.map F))) (ht : TyOk P t' size' bytes' zero' d') (hd : dAgg d' = false) (hv : idx l n = some v) (hc : (F v)[j]? = some c) : EvQ P ⟨dst, .load t' x, ty, pos, af, gu⟩ ρ σ (.pv c) :=
  ⟨fun c => by simp, fun g ρv h hs => by
    have h1 := h x (by simp [Op.operands])
    rw [hx] at h1
    obtain ⟨hn0, hv⟩ := idx_spec hv
    obtain ⟨b, off, cap, vs, e1, e2, e3, e4, e5, e6, e7, e8, e9, e10, e11⟩ := hp_cells (hs r _ hr) hv h1
    have hj : j < size := by rw [← e7]; exact (List.getElem?_eq_some_iff.1 hc).1
    have hlt := (List.getElem?_eq_some_iff.1 hv).1
    refine ⟨_, run_load_op e1 (run_loadVar1 ht hd (cell_of_heap e3 ?_)), .pv (e11 _ _ _ _ hv hc)⟩
    rw [e4]
    exact hp_lt (s := 1) hlt e6 hj⟩
/-- an element, or a part of it, is written -/
theorem opTo_hstore {pcs : List PV} (hx : fr.ev x = .hp r n.toNat j) (hr : σ.get r = some (.row e true size (l.map F))) (hy : (fr.ev y).weak.cells = some (pcs.map .pv)) (ht : TyOk E.P t' size' bytes' zero' d') (hz : Nat.beq pcs.length size' = true)
    (hv : idx l n = some v) (hle : Nat.ble (j + pcs.length) (F v).length = true) (hF' : F v' = (F v).take j ++ pcs ++ (F v).drop (j + pcs.length)) :
    OpTo E ⟨none, .store t' x y, ty, pos, af, gu⟩ fr σ fr (σ.upd r (.row e true size ((l.set n.toNat v').map F))) :=
  ⟨fun g a K Q hst hK => by
    have hle := Nat.le_of_ble_eq_true hle
    have hz := Nat.eq_of_beq_eq_true hz
    refine ⟨fun _ _ => trivial, ?_⟩
    rw [Oper.semAt_plain _ _ _ (fun c => by simp)]
    have h1 := hst.ev x
    rw [hx] at h1
    obtain ⟨hn0, hv⟩ := idx_spec hv
    obtain ⟨b, off, cap, cur, e1, e2, e3, e4, e5, e6, e7, e8, e9, e10, e11⟩ := hp_cells (hst.so.obj r _ hr) hv h1
    obtain ⟨v1, v2, v3⟩ := rel_cells (rel_weak (hst.ev y)) hy
    have hlt := (List.getElem?_eq_some_iff.1 hv).1
    rw [List.length_map] at v1
    have hfit := hp_lt (off := off) (s := pcs.length) (j := j) (size := size) hlt e6 (by omega)
    have hu0 := e8 rfl
    have hone : ∀ u ∈ (a.eval y).cells.toList, u.oneCell' = true := by
      intro u hu
      obtain ⟨i, hi, rfl⟩ := List.getElem_of_mem hu
      have h0 := v2 i (by simpa using hi)
      rw [show (a.eval y).cells.getD i undef = (a.eval y).cells.toList[i] by simp [Array.getD, show i < (a.eval y).cells.size by simpa using hi]] at h0
      cases hcase : (a.eval y).cells.toList[i] <;> rw [hcase] at h0 <;> first | rfl | simp [cellV] at h0
    generalize hP : (off + n.toNat) * size + j = p at e1 hfit
    have hs := run_storeCells_at (P := E.P) b p e (a.eval y).cells.toList 0 cur g.w e3 (by simp; omega) hone
    simp only [Nat.add_zero] at hs
    generalize hcs : (cur.toList.take p ++ (a.eval y).cells.toList ++ cur.toList.drop (p + (a.eval y).cells.toList.length)) = cells at hs
    have hrun : (execOp a.eval ⟨none, .store t' x y, ty, pos, af, gu⟩).run E.P g.w = .ok .skip (g.w.setRow b cells.toArray) := by
      show Sem.run E.P (do Instr.storeAt t' (a.eval x) (a.eval y); pure Next.skip) g.w = _
      rw [e1]
      simp only [Instr.storeAt, Instr.sureAddr, storeVar, Sem.run_bind, Sem.run_pure, Result.andThen_ok, ht.sizeOf]
      rw [if_neg (by rw [v1, hz]; simp)]
      simp only [Sem.run_bind, Sem.run_pure, Result.andThen_ok, hs]
    rw [hrun, Oper.uponIn_skip]
    have hyl : (a.eval y).cells.toList.length = pcs.length := by simpa using v1
    have hclen : cells.length = cur.size := by rw [← hcs]; simp; omega
    have hget : ∀ q, q < cur.size → cells[q]? = if p ≤ q ∧ q < p + pcs.length then (a.eval y).cells.toList[q - p]? else cur.toList[q]? := by
      intro q hq
      rw [← hcs, List.append_assoc]
      rcases Nat.lt_or_ge q p with h2 | h2
      · rw [if_neg (by omega), List.getElem?_append_left (by simp; omega), List.getElem?_take_of_lt h2]
      · rw [List.getElem?_append_right (by simp; omega)]
        simp only [List.length_take, Array.length_toList, show min p cur.size = p by omega]
        rcases Nat.lt_or_ge q (p + pcs.length) with h3 | h3
        · rw [if_pos ⟨h2, h3⟩, List.getElem?_append_left (by omega)]
        · rw [if_neg (by omega), List.getElem?_append_right (by omega), List.getElem?_drop]
          congr 1
          omega
    have hheap : ∀ k, k ≠ b → (g.w.setRow b cells.toArray).heap[k]? = g.w.heap[k]? := fun k hk => by
      simp only [World.setRow, Array.getElem?_modify]; rw [if_neg (Ne.symm hk)]
    have hnewb := setRow_heap g.w b cur cells.toArray e _ e3
    have hsz : (g.w.setRow b cells.toArray).heap.size = g.w.heap.size := by simp [World.setRow]
    have hxx : Ext g.w g.u (g.w.setRow b cells.toArray) g.u := ⟨Nat.le_of_eq hsz.symm, fun _ _ => Nat.le_refl _, fun k i hk hi => by
      by_cases hkb : k = b
      · subst hkb; omega
      · simp only [World.cell?]; rw [hheap k hkb], fun r' hr' => (hheap r' (by rintro rfl; rw [e3] at hr'; cases hr')).trans hr'⟩
    refine hK ⟨g.w.setRow b cells.toArray, g.u, g.loc⟩ _ (St.put_none (hst.objset hr hxx rfl rfl rfl rfl (fun k hk hne => ⟨hheap k (by rintro rfl; exact hne (by rw [e2]; rfl)), rfl⟩) (wf_same hst.so.wf (Nat.le_of_eq hsz.symm) _) ?_ (fun _ => rfl)))
    have hFv' : (F v').length = size := by rw [hF']; simp; omega
    refine .row (off := off) (by rw [List.length_map, List.length_set]; exact e2) hnewb (by simp [hclen, e4]) e5 (by simpa using e6) (fun z hz' => ?_) (by show g.u b ≤ _; rw [hu0]; exact Nat.zero_le _) (fun _ => hu0) (fun i' j' z c hi' hj' => ?_)
    · obtain ⟨w, hw, rfl⟩ := List.mem_map.1 hz'
      rcases List.mem_or_eq_of_mem_set hw with h2 | rfl
      · exact e10 w h2
      · exact hFv'
    · simp only [List.getElem?_map, Option.map_eq_some_iff] at hi'
      obtain ⟨w, hw, rfl⟩ := hi'
      have hil : i' < l.length := by have := (List.getElem?_eq_some_iff.1 hw).1; simpa using this
      have hwF : (F w).length = size := by
        rcases List.mem_or_eq_of_mem_set (List.mem_of_getElem? hw) with h2 | rfl
        · exact e10 w h2
        · exact hFv'
      have hjs : j' < size := by rw [← hwF]; exact (List.getElem?_eq_some_iff.1 hj').1
      have hpos : (off + i') * size + j' < cur.size := by rw [e4]; exact hp_lt (s := 1) hil e6 hjs
      have old : (F w)[j']? = some c → l[i']? = some w → ¬ (p ≤ (off + i') * size + j' ∧ (off + i') * size + j' < p + pcs.length) → RelP (g.w.setRow b cells.toArray) g.u c (cells.toArray.getD ((off + i') * size + j') undef) := by
        intro h2 h3 h4
        have h5 := (e11 i' j' w c h3 h2).mono hxx
        rw [Array.getD_eq_getD_getElem?, List.getElem?_toArray, hget _ hpos, if_neg h4]
        rw [Array.getD_eq_getD_getElem?] at h5
        simpa using h5
      by_cases hin : i' = n.toNat
      · subst hin
        rw [List.getElem?_set_self hlt] at hw
        cases hw
        have hold : ∀ c, (F v)[j']? = some c → ¬ (p ≤ (off + n.toNat) * size + j' ∧ (off + n.toNat) * size + j' < p + pcs.length) → RelP (g.w.setRow b cells.toArray) g.u c (cells.toArray.getD ((off + n.toNat) * size + j') undef) := by
          intro c h2 h4
          have h5 := (e11 n.toNat j' v c hv h2).mono hxx
          rw [Array.getD_eq_getD_getElem?, List.getElem?_toArray, hget _ hpos, if_neg h4]
          rw [Array.getD_eq_getD_getElem?] at h5
          simpa using h5
        rw [hF', List.append_assoc] at hj'
        have hjl : ((F v).take j).length = j := by simp; omega
        rcases Nat.lt_or_ge j' j with h2 | h2
        · rw [List.getElem?_append_left (by omega), List.getElem?_take_of_lt h2] at hj'
          exact hold c hj' (by omega)
        · rw [List.getElem?_append_right (by omega), hjl] at hj'
          rcases Nat.lt_or_ge (j' - j) pcs.length with h3 | h3
          · rw [List.getElem?_append_left h3] at hj'
            have h5 := v3 (j' - j) (.pv c) (by simp [hj'])
            cases h5 with
            | pv h5 =>
              rw [Array.getD_eq_getD_getElem?, List.getElem?_toArray, hget _ hpos, if_pos (by omega), show (off + n.toNat) * size + j' - p = j' - j by omega]
              rw [Array.getD_eq_getD_getElem?] at h5
              have h6 := h5.mono hxx
              simpa using h6
          · rw [List.getElem?_append_right h3, List.getElem?_drop, show j + pcs.length + (j' - j - pcs.length) = j' by omega] at hj'
            exact hold c hj' (by omega)
      · rw [List.getElem?_set_ne (by omega)] at hw
        refine old hj' hw ?_
        rcases Nat.lt_or_ge i' n.toNat with h2 | h2
        · have : (off + i' + 1) * size ≤ (off + n.toNat) * size := Nat.mul_le_mul_right _ (by omega)
          rw [Nat.add_mul (off + i')] at this; omega
        · have : (off + n.toNat + 1) * size ≤ (off + i') * size := Nat.mul_le_mul_right _ (by omega)
          rw [Nat.add_mul (off + n.toNat)] at this; omega⟩
end
end
end Go.Proofs.YtpclhpncmlbccaaGreatDoor

/- The abstract calculus: maps, nil slices: rules. No program is named. -/
namespace Go.Proofs.YtpclhpncmlbccaaGreatDoor
open Go.RowKit Go.Lib

/-! ### maps as lists of pairs, in the order in which keys came up -/
section
variable {K V : Type} [BEq K]
def mget : List (K × V) → K → Option V
  | [], _ => none
  | (k, v) :: r, x => if k == x then some v else mget r x
def mput : List (K × V) → K → V → List (K × V)
  | [], x, y => [(x, y)]
  | (k, v) :: r, x, y => if k == x then (x, y) :: r else (k, v) :: mput r x y
end

/-- where a key stands -/
def posK {K : Type} [BEq K] : List K → K → Option Nat
  | [], _ => none
  | k :: r, x => if k == x then some 0 else (posK r x).map (· + 1)
/-- kinds of keys -/
structure KeyK (K : Type) [BEq K] [LawfulBEq K] where
  kf : K → Value
  ok : Program → TypeId → Prop
  find : ∀ {P : Program} {kt : TypeId}, ok P kt → ∀ (w : World) (x : K) (ks : List K) (ents : List MapEntry), ents.map (·.key) = ks.map kf → (Instr.findKey kt (kf x) ents).run P w = .ok ((posK ks x).bind fun j => (ents[j]?).map fun e => (j, e.val)) w
  check : ∀ {P : Program} {kt : TypeId}, ok P kt → ∀ (w : World) (x : K) (b : Bool), (Instr.checkKey b 10000 kt (kf x)).run P w = .ok () w
  stay : ∀ {P : Program} (w : World) (x : K), (Instr.keyThatStays (kf x) (kf x)).run P w = .ok (kf x) w
def constPV : Value → PV
  | .slice none 0 0 => .sl none []
  | v => .b v
theorem relP_constPV (w : World) (u : Nat → Nat) (v : Value) (h : cellV v = true) : RelP w u (constPV v) v := by
  unfold constPV
  split
  · exact relP_weak (relP_nil w u)
  · exact .b h
section
variable {K V : Type} [BEq K] [LawfulBEq K] {KK : KeyK K} {F : V → List PV} {ag : Bool}
variable {E : Env} {fr : Fr} {σ : Sto} {P : Program} {ρ : Operand → AV} {t kt e : TypeId} {m x y : Operand} {o size bytes ss sb k' : Nat} {zero sz : Value} {d : TypeDesc} {es : List (K × V)} {k : K} {z v : V}
variable {dst : Option Tmp} {ty : TypeId} {pos : String} {af : Array Edge} {gu : Option (Nat × Bool)}
end

/-! ### is a slice nil? -/
section
variable {P : Program} {ρ : Operand → AV} {σ : Sto} {t t' e : TypeId} {x : Operand} {α : Type} {F : α → List PV} {l : List α} {dst : Option Tmp} {ty : TypeId} {pos : String} {af : Array Edge} {gu : Option (Nat × Bool)} {ss sb : Nat} {sz : Value}
theorem run_nilcmp {ρv : Operand → Value} {w : World} {a : Option Addr} {n c : Nat} (ne : Bool) (hx : ρv x = .slice a n c) (hy : ρv (.const (.slice none 0 0)) = .slice none 0 0) (ht : TyOk P t ss sb sz (.slice e)) :
    (execOp ρv ⟨dst, .binOp (if ne then .neq else .eql) t x (.const (.slice none 0 0)) t', ty, pos, af, gu⟩).run P w = .ok (.value (.bool (if ne then !a.isNone else a.isNone))) w := by
  cases ne <;> simp [execOp, hx, hy, go_sem, eqGuard, binOp, run_equal_slice_nil w t e a n c ht.u]
end

section
variable {K V : Type} [BEq K] [LawfulBEq K] {KK : KeyK K} {F : V → List PV} {ag : Bool} {P : Program} {ρ : Operand → AV} {σ : Sto} {t kt e : TypeId} {m x : Operand} {o size bytes : Nat} {zero : Value} {d : TypeDesc} {es : List (K × V)} {k : K} {z v : V}
variable {dst : Option Tmp} {ty : TypeId} {pos : String} {af : Array Edge} {gu : Option (Nat × Bool)}
end
end Go.Proofs.YtpclhpncmlbccaaGreatDoor

/- The abstract calculus: parts of owned rows that are only looked at, clear, copies: rules. No program is named. -/
namespace Go.Proofs.YtpclhpncmlbccaaGreatDoor
open Go.RowKit Go.Lib

variable {E : Env} {fr : Fr} {σ : Sto} {K : Post} {P : Program} {ρ : Operand → AV}
variable {dst : Option Tmp} {ty : TypeId} {pos : String} {af : Array Edge} {gu : Option (Nat × Bool)}
section
variable {α : Type} {F : α → List PV} {l xs r' : List α} {r size bytes sb ss k lim : Nat} {e t : TypeId} {mu : Bool} {zero sz : Value} {d : TypeDesc} {x y : Operand} {nl : Option Bool}

theorem zeroCells_get {z : Array Value} {n q : Nat} (h : q < n * z.size) : (Builtin.zeroCells z n).toList[q]? = z.toList[q % z.size]? := by
  have hz : 0 < z.size := by
    rcases Nat.eq_zero_or_pos z.size with h0 | h0
    · rw [h0] at h; simp at h
    · exact h0
  have hm : q % z.size < z.size := Nat.mod_lt _ hz
  simp [Builtin.zeroCells, h, hm]
/-- append onto a slice without room: a new row -/
theorem opTo_appendz (r : Nat) (hN : Nat.ble (k + 1) E.N = true) (hx : fr.ev x = .z0) (hy : fr.ev y = .pv (.sl nl (xs.map F))) (ht : TyOk E.P t ss sb sz (.slice e)) (he : TyOk E.P e size bytes zero d)
    (hzz : Nat.beq zero.cells.size size = true) (hs : Nat.ble 1 size = true) (hF : ∀ x, (F x).length = size) (hlim : (Nat.ble (lim * bytes) 140737488355328 && Nat.ble lim 9223372036854775807) = true) (hf : fr.has r = false) (hso : σ.has r = false) (h : app lim [] xs = some r') :
    OpTo E ⟨some k, .call ⟨.builtin .append, #[x, y], #[t, t]⟩, ty, pos, af, gu⟩ fr σ ((k, .hs r 0) :: fr.clr r) ((Sto.clr r ((r, .row e true size []) :: σ)).upd r (.row e true size (r'.map F))) :=
  ⟨fun g a K Q hst hK => by
    obtain ⟨hle, hr'⟩ := app_spec h
    simp only [Bool.and_eq_true] at hlim
    have hl1 := Nat.le_of_ble_eq_true hlim.1
    have hl2 := Nat.le_of_ble_eq_true hlim.2
    have hzz := Nat.eq_of_beq_eq_true hzz
    have hs := Nat.le_of_ble_eq_true hs
    refine ⟨fun _ _ => trivial, ?_⟩
    rw [Oper.semAt_plain _ _ _ (fun c => by simp)]
    have h1 := hst.ev x
    rw [hx] at h1
    have hst0 := hst.adopt r e true size hf hso
    have h2 := hst0.ev y
    rw [hy] at h2
    have hlb : (0 + xs.length) * bytes ≤ 140737488355328 := by
      simp only [List.length_nil] at hle
      exact Nat.le_trans (Nat.mul_le_mul_right _ hle) hl1
    have hgr : Sto.get ((r, AO.row e true size []) :: σ) r = some (.row e true size (([] : List α).map F)) := by rw [Sto.get_cons, if_pos rfl]; rfl
    generalize hev : a.eval x = vx at h1
    cases h1 with
    | z0 ax =>
      have ho3 : OldRel ⟨g.w, g.u, fun k => if k = r then .nilRow else g.loc k⟩ r true size F ([] : List α) (ax, none) := ⟨if_pos rfl, rfl⟩
      cases h2 with
      | pv h2 =>
        rcases news_of hF h2 with ⟨e2, rfl⟩ | ⟨a0, c, news, e2, hnews, hcells⟩
        · obtain ⟨v', w', hrun, hres⟩ := app_res_none (P := E.P) (w := g.w) (ty := ty) (old := (ax, none)) (n := 0) ht he rfl
          rw [run_append_op (x := x) (y := y) (w := g.w) (by rw [hev, e2]; exact hrun), Oper.uponIn_value]
          obtain ⟨g', rfl, hst', hv⟩ := hst0.appended (F := F) (l := []) (xs := []) (old := (ax, none)) hgr rfl ho3 (news := []) ⟨by simp, by simp, fun i j x c hi => by simp at hi⟩ hres
          exact hK g' _ (by rw [hr']; exact hst'.put (Nat.le_of_ble_eq_true hN) hv)
        · obtain ⟨v', w', hrun, hres⟩ := app_res_slice (P := E.P) (w := g.w) (ty := ty) (c := c) (old := (ax, none)) (n := 0) ht he hzz (by omega) rfl hnews.len hcells hnews.one hlb (by unfold maxLen; simp only [List.length_nil] at hle; omega)
          rw [run_append_op (x := x) (y := y) (w := g.w) (by rw [hev, e2]; exact hrun), Oper.uponIn_value]
          obtain ⟨g', rfl, hst', hv⟩ := hst0.appended (F := F) (l := []) (old := (ax, none)) hgr rfl ho3 hnews hres
          exact hK g' _ (by rw [hr']; exact hst'.put (Nat.le_of_ble_eq_true hN) hv)⟩
end
/-! ### more on integers -/
section
variable {t t' : TypeId} {x y : Operand} {a b : Int}
def iOr (a b : Int) : Int := w64 ((BitVec.ofInt 64 a ||| BitVec.ofInt 64 b).toNat : Int)
def iQuo (a b : Int) : Int := w64 (a.tdiv b)
def iRem (a b : Int) : Int := a.tmod b
theorem ev_idiv {op : BinOp} {r : Int} (hx : ρ x = .i a) (hy : ρ y = .i b) (hb : (b == 0) = false) (hr : (op = .quo ∧ r = iQuo a b) ∨ (op = .rem ∧ r = iRem a b)) : EvQ P ⟨dst, .binOp op t x y t', ty, pos, af, gu⟩ ρ σ (.i r) :=
  ⟨fun c => by simp, fun g ρv h _ => by
    obtain ⟨h1, h2⟩ := ops2 (o := ⟨dst, .binOp op t x y t', ty, pos, af, gu⟩) (x := x) (y := y) rfl h
    rw [hx] at h1
    rw [hy] at h2
    have e1 := rel_b h1
    have e2 := rel_b h2
    have hb : b ≠ 0 := by simpa using hb
    refine ⟨.int .i64 r, ?_, .pv (.b rfl)⟩
    rcases hr with ⟨rfl, rfl⟩ | ⟨rfl, rfl⟩ <;> simp [execOp, e1, e2, go_sem, eqGuard, binOp, Op.intDiv, hb, iQuo, iRem]⟩
theorem ev_iquo (hx : ρ x = .i a) (hy : ρ y = .i b) (hb : (b == 0) = false) : EvQ P ⟨dst, .binOp .quo t x y t', ty, pos, af, gu⟩ ρ σ (.i (iQuo a b)) := ev_idiv hx hy hb (.inl ⟨rfl, rfl⟩)
theorem ev_irem (hx : ρ x = .i a) (hy : ρ y = .i b) (hb : (b == 0) = false) : EvQ P ⟨dst, .binOp .rem t x y t', ty, pos, af, gu⟩ ρ σ (.i (iRem a b)) := ev_idiv hx hy hb (.inr ⟨rfl, rfl⟩)
theorem ev_ineg (hx : ρ x = .i a) : EvQ P ⟨dst, .unOp .neg t x, ty, pos, af, gu⟩ ρ σ (.i (w64 (0 - a))) :=
  ⟨fun c => by simp, fun g ρv h _ => by
    have h1 := h x (by simp [Op.operands])
    rw [hx] at h1
    have e1 := rel_b h1
    refine ⟨.int .i64 (w64 (0 - a)), ?_, .pv (.b rfl)⟩
    simp [execOp, e1, go_sem, Op.unary, Op.intArith]⟩
/-- arithmetic of bytes -/
theorem ev_u8arith {op : BinOp} {r : UInt8} {a b : UInt8} (hx : ρ x = .u8 a) (hy : ρ y = .u8 b) (hr : (op = .add ∧ r = a + b) ∨ (op = .sub ∧ r = a - b)) : EvQ P ⟨dst, .binOp op t x y t', ty, pos, af, gu⟩ ρ σ (.u8 r) := by
  have hl1 := a.toNat_lt
  have hl2 := b.toNat_lt
  rcases hr with ⟨rfl, rfl⟩ | ⟨rfl, rfl⟩
  · have := ev_add (P := P) (σ := σ) (dst := dst) (ty := ty) (pos := pos) (af := af) (gu := gu) (t := t) (t' := t') hx hy
    rw [show IntKind.u8.wrap ((a.toNat : Int) + (b.toNat : Int)) = ((a + b).toNat : Int) by
      rw [wrap_u8, UInt8.toNat_add]; unfold toU8; rw [UInt8.toNat_ofNat']; omega] at this
    exact this
  · have := ev_sub (P := P) (σ := σ) (dst := dst) (ty := ty) (pos := pos) (af := af) (gu := gu) (t := t) (t' := t') hx hy
    rw [show IntKind.u8.wrap ((a.toNat : Int) - (b.toNat : Int)) = ((a - b).toNat : Int) by
      rw [wrap_u8, UInt8.toNat_sub]; unfold toU8; rw [UInt8.toNat_ofNat']; omega] at this
    exact this
theorem ev_u8add {a b : UInt8} (hx : ρ x = .u8 a) (hy : ρ y = .u8 b) : EvQ P ⟨dst, .binOp .add t x y t', ty, pos, af, gu⟩ ρ σ (.u8 (a + b)) := ev_u8arith hx hy (.inl ⟨rfl, rfl⟩)
theorem ev_u8sub {a b : UInt8} (hx : ρ x = .u8 a) (hy : ρ y = .u8 b) : EvQ P ⟨dst, .binOp .sub t x y t', ty, pos, af, gu⟩ ρ σ (.u8 (a - b)) := ev_u8arith hx hy (.inr ⟨rfl, rfl⟩)
end
end Go.Proofs.YtpclhpncmlbccaaGreatDoor

/- The abstract calculus: slices that may be nil or not, make, cap: rules. No program is named. -/
namespace Go.Proofs.YtpclhpncmlbccaaGreatDoor
open Go.RowKit Go.Lib

variable {E : Env} {fr : Fr} {σ : Sto} {K : Post} {P : Program} {ρ : Operand → AV}
variable {dst : Option Tmp} {ty : TypeId} {pos : String} {af : Array Edge} {gu : Option (Nat × Bool)}
open Classical in
/-- what comes out if a slice is nil (which it can be if it is empty), and if it is not: the same -/
noncomputable def nilE {R : Type} (e : Bool) (A B : Option R) : Option R := if e then (if A = B then B else none) else B
theorem nilE_nil {R : Type} {e : Bool} {A B : Option R} {r : R} (he : e = true) (h : nilE e A B = some r) : A = some r := by
  unfold nilE at h
  rw [if_pos he] at h
  split at h
  · rename_i hab; rw [hab]; exact h
  · cases h
theorem nilE_not {R : Type} {e : Bool} {A B : Option R} {r : R} (h : nilE e A B = some r) : B = some r := by
  unfold nilE at h
  split at h
  · split at h
    · exact h
    · cases h
  · exact h
theorem nilE_same {R : Type} (e : Bool) (A B : Option R) (h : e = true → A = B) : nilE e A B = B := by
  unfold nilE
  split
  · rename_i he; rw [if_pos (h he)]
  · rfl
section
variable {α : Type} {F : α → List PV} {l : List α} {t t' e : TypeId} {ss sb d k : Nat} {sz : Value}
theorem rel_nilcase {g : G} {v : Value} (h : Rel g (.l F l) v) : (l = [] ∧ v = .slice none 0 0) ∨ ∃ a n c, v = .slice (some a) n c := by
  cases h with
  | pv h =>
    obtain ⟨a', cap', size', b, off, val, hv, h0, _⟩ := relP_sl_inv h
    cases a' with
    | none =>
      obtain ⟨rfl, he⟩ := h0 rfl
      left
      have : l = [] := by simpa using he
      subst this
      exact ⟨rfl, hv⟩
    | some a => exact .inr ⟨a, _, _, hv⟩
theorem awpl_nilcmp (ne : Bool) {ops : Array Oper} {rest : List Oper} (hg : gu = none) (hN : Nat.ble (k + 1) E.N = true) (hd : fr.get d = .l F l) (ht : TyOk E.P t ss sb sz (.slice e))
    (h1 : l.isEmpty = true → AWPL E ops rest ((k, .bo (!ne)) :: (d, .pv (.sl (some true) [])) :: fr) σ K) (h2 : AWPL E ops rest ((k, .bo ne) :: fr) σ K) :
    AWPL E ops (⟨some k, .binOp (if ne then .neq else .eql) t (.tmp d) (.const (.slice none 0 0)) t', ty, pos, af, gu⟩ :: rest) fr σ K :=
  ⟨fun g a hst => by
    subst hg
    have hv := hst.fr d
    rw [hd] at hv
    have hc : a.eval (.const (.slice none 0 0)) = .slice none 0 0 := rfl
    have hx : a.eval (.tmp d) = a.tmps.getD d undef := rfl
    simp only [wpListIn, Region.wanted, if_true]
    refine ⟨fun _ _ => trivial, ?_⟩
    rw [Oper.semAt_plain _ _ _ (fun c => by simp)]
    rcases rel_nilcase hv with ⟨hl, ev⟩ | ⟨ad, n, c, ev⟩
    · rw [run_nilcmp ne (hx.trans ev) hc ht, Oper.uponIn_value]
      have hst2 := hst.reslot (d := d) (c := .pv (.sl (some true) [])) (by rw [ev]; exact .pv (relP_nil _ _))
      have := (h1 (by rw [hl]; rfl)).go g _ (hst2.put (Nat.le_of_ble_eq_true hN) (c := .bo (!ne)) (v := .bool (!ne)) (.pv (.b rfl)))
      cases ne <;> exact this
    · rw [run_nilcmp ne (hx.trans ev) hc ht, Oper.uponIn_value]
      have := h2.go g _ (hst.put (Nat.le_of_ble_eq_true hN) (c := .bo ne) (v := .bool ne) (.pv (.b rfl)))
      cases ne <;> exact this⟩
theorem awpl_isnil {ops : Array Oper} {rest : List Oper} (hg : gu = none) (hN : Nat.ble (k + 1) E.N = true) (hd : fr.get d = .l F l) (ht : TyOk E.P t ss sb sz (.slice e))
    (h1 : l.isEmpty = true → AWPL E ops rest ((k, .bo true) :: (d, .pv (.sl (some true) [])) :: fr) σ K) (h2 : AWPL E ops rest ((k, .bo false) :: fr) σ K) :
    AWPL E ops (⟨some k, .binOp .eql t (.tmp d) (.const (.slice none 0 0)) t', ty, pos, af, gu⟩ :: rest) fr σ K := awpl_nilcmp false hg hN hd ht h1 h2
end
section
variable {t e : TypeId} {ss sb size bytes k : Nat} {sz zero : Value} {d : TypeDesc}
/-- S{}: a slice without elements and without room -/
theorem opTo_litz (hN : Nat.ble (k + 1) E.N = true) (ht : TyOk E.P t ss sb sz (.slice e)) (he : TyOk E.P e size bytes zero d) :
    OpTo E ⟨some k, .buildSlice t 0 #[], ty, pos, af, gu⟩ fr σ ((k, .z0) :: fr) σ :=
  ⟨fun g a K Q hst hK => by
    refine ⟨fun _ _ => trivial, ?_⟩
    rw [Oper.semAt_plain _ _ _ (fun c => by simp)]
    have hrun : (execOp a.eval ⟨some k, .buildSlice t 0 #[], ty, pos, af, gu⟩).run E.P g.w = .ok (.value (.slice (some ⟨g.w.heap.size, 0, none⟩) 0 0)) (g.w.alloc (.cells #[] e)) := by
      show Sem.run E.P (do let v ← Instr.buildSlice t 0 (Array.map (fun (x : Nat × Operand) => (x.1, a.eval x.2)) #[]); pure (Next.value v)) g.w = _
      simp only [Instr.buildSlice, underlying, program, Sem.run_bind, Sem.run, ht.u, he.sizeOf, Result.andThen_ok, Sem.run_pure, Nat.zero_mul, if_true]
      rw [if_neg (by simp)]
      have e1 : (Array.map (fun (x : Nat × Operand) => (x.1, a.eval x.2)) #[]).toList = [] := by simp
      have harr : ∀ z : Array Value, Array.map (fun x => z[x % z.size]!) (Array.range 0) = #[] := by intro z; simp
      simp only [Sem.run_bind, Sem.run_pure, Result.andThen_ok, e1, Instr.fill, harr]
      rfl
    rw [hrun, Oper.uponIn_value]
    have hold := old_alloc g #[] e 0 0 (g.loc 0)
    have hwf := wf_alloc hst.so.wf #[] e 0 0 (g.loc 0)
    have hst' := hst.grow hold hwf (fun q _ => by show (if q = 0 then g.loc 0 else g.loc q) = g.loc q; split <;> simp_all)
    exact hK _ _ (hst'.put (Nat.le_of_ble_eq_true hN) (.z0 _))⟩
end
/-- not zero -/
def nz (b : Int) : Option Bool := if b == 0 then none else some true
theorem nz_spec {b : Int} {r : Bool} (h : nz b = some r) : (b == 0) = false := by
  unfold nz at h
  cases hb : b == 0 with
  | true => rw [hb] at h; cases h
  | false => rfl
end Go.Proofs.YtpclhpncmlbccaaGreatDoor

/- The whole of the calculus. -/
namespace Go.Proofs.YtpclhpncmlbccaaGreatDoor
theorem bool_split {C : Prop} (b : Bool) (h1 : b = true → C) (h2 : b = false → C) : C := by
  cases b
  · exact h2 rfl
  · exact h1 rfl
/-- less is known, among operations -/
theorem awpl_le {E : Env} {fr fr' : Fr} {σ σ' : Sto} {K : Post} {ops : Array Oper} {ol : List Oper} (hf : FrLe fr fr') (hs : StoLe σ σ') (h : AWPL E ops ol fr' σ' K) : AWPL E ops ol fr σ K := ⟨fun g a hst => h.go g a (hst.le hf hs)⟩
section
variable {E : Env} {fr : Fr} {σ : Sto} {K : Post} {ops : Array Oper}
end
end Go.Proofs.YtpclhpncmlbccaaGreatDoor

/- The abstract calculus: regions that draw their order, with new variables among the first operations. No program is named. -/
namespace Go.Proofs.YtpclhpncmlbccaaGreatDoor
open Go.RowKit Go.Lib

variable {E : Env} {fr : Fr} {σ : Sto} {K : Post}
abbrev Objs := List (Option (Nat × List AV))
def distB : List Nat → Bool
  | [] => true
  | x :: r => !(r.any fun y => Nat.beq x y) && distB r
theorem Sok.le {S : Nat → Prop} {g0 g : G} {σ' : Sto} (h : Sok S g0 g σ) (hs : ∀ o ob, σ'.get o = some ob → σ.get o = some ob) : Sok S g0 g σ' :=
  ⟨fun o ob ho => h.obj o ob (hs o ob ho), fun o o' ob ob' b h1 h2 => h.apart o o' ob ob' b (hs _ _ h1) (hs _ _ h2), fun o ob b h1 => h.mine o ob b (hs _ _ h1), h.old, h.wf⟩
/-- a new variable -/
structure OpNew (E : Env) (o : Oper) (id : Nat) (cs : List AV) : Prop where
  go : ∃ (vs : Array Value) (t : TypeId), vs.size = cs.length ∧ (∀ i, i < vs.size → cellV (vs.getD i undef) = true) ∧ (∀ (g : G) i c, cs[i]? = some c → Rel g c (vs.getD i undef)) ∧ ∀ (g : G) a (K : Act → World → Prop) (Q : Exit → Act → World → Prop), K (a.put o.dst (.pointer (some ⟨g.w.heap.size, 0, none⟩))) (g.alloc vs t 0 id (.blk g.w.heap.size)).w → o.wpIn (fen E.rd) 0 E.P a g.w K Q
inductive PresA (E : Env) (ops : Array Oper) (fr : Fr) (σ : Sto) : List Oper → List AV → Objs → Prop
  | nil : PresA E ops fr σ [] [] []
  | run {o : Oper} {l : List Oper} {c : AV} {cs : List AV} {az : Objs} (hg : GuardYes ops fr o) (h : OpG E o fr σ c) (hr : PresA E ops fr σ l cs az) : PresA E ops fr σ (o :: l) (c :: cs) (none :: az)
  | skip {o : Oper} {l : List Oper} {cs : List AV} {az : Objs} (hg : GuardNo ops fr o) (hr : PresA E ops fr σ l cs az) : PresA E ops fr σ (o :: l) (.tup [] :: cs) (none :: az)
  | new {o : Oper} {l : List Oper} {cs : List AV} {az : Objs} (id : Nat) {ds : List AV} (hg : GuardYes ops fr o) (h : OpNew E o id ds) (hr : PresA E ops fr σ l cs az) : PresA E ops fr σ (o :: l) (.ptr id 0 :: cs) (some (id, ds) :: az)
theorem PresA.len {ops : Array Oper} {l : List Oper} {cs : List AV} {az : Objs} (h : PresA E ops fr σ l cs az) : cs.length = l.length ∧ az.length = l.length := by
  induction h with
  | nil => exact ⟨rfl, rfl⟩
  | run _ _ _ ih => simp [ih.1, ih.2]
  | skip _ _ ih => simp [ih.1, ih.2]
  | new _ _ _ _ ih => simp [ih.1, ih.2]
theorem PresA.get {ops : Array Oper} {l : List Oper} {cs : List AV} {az : Objs} (h : PresA E ops fr σ l cs az) : ∀ {i : Nat} {o : Oper} {c : AV}, l[i]? = some o → cs[i]? = some c → (GuardYes ops fr o ∧ OpG E o fr σ c ∧ az[i]? = some none) ∨ (GuardNo ops fr o ∧ c = .tup [] ∧ az[i]? = some none) ∨ (GuardYes ops fr o ∧ ∃ id ds, c = .ptr id 0 ∧ OpNew E o id ds ∧ az[i]? = some (some (id, ds))) := by
  induction h with
  | nil => intro i o c h1; simp at h1
  | run hg h _ ih =>
    intro i o c h1 h2
    cases i with
    | zero => simp at h1 h2; subst h1; subst h2; exact .inl ⟨hg, h, rfl⟩
    | succ i => exact ih (by simpa using h1) (by simpa using h2)
  | skip hg _ ih =>
    intro i o c h1 h2
    cases i with
    | zero => simp at h1 h2; subst h1; subst h2; exact .inr (.inl ⟨hg, rfl, rfl⟩)
    | succ i => exact ih (by simpa using h1) (by simpa using h2)
  | new id hg h _ ih =>
    intro i o c h1 h2
    cases i with
    | zero => simp at h1 h2; subst h1; subst h2; exact .inr (.inr ⟨hg, id, _, rfl, h, rfl⟩)
    | succ i => exact ih (by simpa using h1) (by simpa using h2)
end Go.Proofs.YtpclhpncmlbccaaGreatDoor

/- The calculus: ranges over strings, scopes without jumps, runes. No program is named. -/
namespace Go.Proofs.YtpclhpncmlbccaaGreatDoor
open Go.RowKit

section
variable {F : Fence} {n : Nat} {P : Program} {Q : Exit → Act → World → Prop} {a : Act} {w : World}
def noGoto (Q : Exit → Act → World → Prop) : Exit → Act → World → Prop
  | .goto _, _, _ => False
  | e, a, w => Q e a w
theorem stepR_scope {b : Frame} {k : List Item} {cs : List Frame} {c : Code} : step P (lone (b.atR a (.code (.scope c) :: k)) cs w) = .next (lone (b.atR a (.code c :: .inScope c :: k)) cs w) :=
  step_lone_go (by simp [stepG, stepG.exec, Frame.atR])
theorem stepR_inScope {b : Frame} {k : List Item} {cs : List Frame} {c : Code} : step P (lone (b.atR a (.inScope c :: k)) cs w) = .next (lone (b.atR a k) cs w) :=
  step_lone_go (by simp [stepG, stepG.exec, Frame.atR])
theorem wpIn_scope {c : Code} (h : c.wpIn F n P (noGoto Q) a w) : (Code.scope c).wpIn F n P Q a w := by
  intro b k cs hro hb hr
  have h0 : (lone (b.atR a (.code (.scope c) :: k)) cs w).fenced P F := fenced_calm hb hr rfl
  obtain ⟨e, a₁, w₁, hq, harr⟩ := h b (.inScope c :: k) cs hro hb hr
  cases e with
  | normal => exact ⟨.normal, a₁, w₁, hq, .head h0 stepR_scope (StepsIn.trans harr (.one (fenced_calm hb hr rfl) stepR_inScope))⟩
  | exit id =>
    have hx : exitTo id (.inScope c :: k) = exitTo id k := by simp [exitTo]
    exact ⟨.exit id, a₁, w₁, hq, fun k' hk => .head h0 stepR_scope (harr.1 k' (by rw [hx]; exact hk)),
      fun hr' hk => let ⟨k₁, h1, h2⟩ := harr.2 hr' (by rw [hx]; exact hk); ⟨k₁, h1, .head h0 stepR_scope h2⟩⟩
  | goto l => exact hq.elim
  | ret => exact ⟨_, a₁, w₁, hq, .of_steps (.one h0 stepR_scope) harr⟩
  | panic ch => exact ⟨_, a₁, w₁, hq, .of_steps (.one h0 stepR_scope) harr⟩
  | outgrown => exact ⟨_, a₁, w₁, hq, .of_steps (.one h0 stepR_scope) harr⟩
end
section
variable {E : Env} {fr : Fr} {σ : Sto} {K : Post}
def kscope (K : Post) : Post
  | .goto _, _, _ => False
  | e, fr, σ => K e fr σ
theorem awp_scope {c : Code} (h : AWP E c fr σ (kscope K)) : AWP E (.scope c) fr σ K :=
  ⟨fun g a hs => wpIn_scope (wpIn_mono (h.go g a hs) fun e a' w' ⟨g', fr', σ', h1, h2, h3⟩ => by
    cases e <;> first | exact ⟨g', fr', σ', h1, h2, h3⟩ | exact h3.elim)⟩
theorem awp_label {l : Nat} (h : K .normal fr σ) : AWP E (.label l) fr σ K := ⟨fun g a hs => wpIn_label ⟨g, fr, σ, rfl, hs, h⟩⟩

/-- an iterator is set -/
theorem St.itset {g : G} {a : Act} {o pos' : Nat} {s : ByteArray} {pos : Nat} (h : St E g a fr σ) (ho : σ.get o = some (.it s pos)) : ∃ b, g.loc o = .blk b ∧ g.w.heap[b]? = some (.stringIter s pos) ∧ St E ⟨{ g.w with heap := g.w.heap.setIfInBounds b (.stringIter s pos') }, g.u, g.loc⟩ a fr (σ.upd o (.it s pos')) := by
  cases h.so.obj o _ ho with
  | @it _ _ b hl hb hu =>
    refine ⟨b, hl, hb, ?_⟩
    have hbl := blk_lt hb
    generalize hw : ({ g.w with heap := g.w.heap.setIfInBounds b (.stringIter s pos') } : World) = w'
    have hheap : ∀ k, k ≠ b → w'.heap[k]? = g.w.heap[k]? := fun k hk => by subst hw; exact Array.getElem?_setIfInBounds_ne (Ne.symm hk)
    have hnew : w'.heap[b]? = some (.stringIter s pos') := by subst hw; exact Array.getElem?_setIfInBounds_self_of_lt hbl
    have hsz : w'.heap.size = g.w.heap.size := by subst hw; simp
    have hx : Ext g.w g.u w' g.u := ⟨Nat.le_of_eq hsz.symm, fun _ _ => Nat.le_refl _, fun k i hk hi => by
      by_cases hkb : k = b
      · subst hkb; simp [World.cell?, hb, hnew]
      · simp only [World.cell?]; rw [hheap k hkb], fun r hr => (hheap r (by rintro rfl; rw [hb] at hr; cases hr)).trans hr⟩
    have hget := Sto.get_upd (ob := .it s pos') ho
    have hsome : ∀ k ob, (σ.upd o (.it s pos')).get k = some ob → ∃ ob', σ.get k = some ob' ∧ ∀ l, ob'.own l = ob.own l := by
      intro k ob hk
      rw [hget] at hk
      split at hk
      · rename_i hko; cases hk; exact ⟨.it s pos, hko ▸ ho, fun _ => rfl⟩
      · exact ⟨_, hk, fun _ => rfl⟩
    refine ⟨fun d => (h.fr d).mono (g' := ⟨w', g.u, g.loc⟩) hx (fun _ _ => rfl), h.n, h.df.mono hx, ⟨?_, fun k k' ob ob' b' h1 h2 => ?_, fun k ob b' h1 => ?_, ?_, ?_⟩⟩
    · intro k ob hk
      rw [hget] at hk
      split at hk
      · rename_i hko; subst hko; cases hk; exact .it hl hnew hu
      · rename_i hko
        refine (h.so.obj k ob hk).mono (g' := ⟨w', g.u, g.loc⟩) hx rfl (fun _ _ => rfl) fun b' hb' => ⟨hheap b' ?_, rfl⟩
        rintro rfl
        exact hko (h.so.apart k o ob _ b' hk ho hb' (by rw [hl]; rfl))
    · obtain ⟨_, e1, q1⟩ := hsome k _ h1
      obtain ⟨_, e2, q2⟩ := hsome k' _ h2
      rw [← q1, ← q2]
      exact h.so.apart k k' _ _ b' e1 e2
    · obtain ⟨_, e1, q1⟩ := hsome k _ h1
      rw [← q1]
      exact h.so.mine k _ b' e1
    · refine h.so.old.trans ⟨by subst hw; rfl, by subst hw; rfl, by subst hw; rfl, hx, fun k hk hs => ⟨hheap k ?_, rfl⟩⟩
      rintro rfl
      rcases h.so.mine o _ k ho (by rw [hl]; rfl) with h1 | h1
      · exact hs (.inr h1)
      · exact hs (.inl h1)
    · intro k hk
      exact h.so.wf k (by rw [← hsz]; exact hk)
variable {ty : TypeId} {pos : String} {af : Array Edge} {gu : Option (Nat × Bool)} {x : Operand} {t t' : TypeId} {ss sb ss' sb' : Nat} {sz sz' : Value}
/-- range over a string: an iterator -/
theorem opTo_range {k : Nat} (id : Nat) {s : Str} (hN : Nat.ble (k + 1) E.N = true) (hx : fr.ev x = .s s) (ht : TyOk E.P t ss sb sz .string) (hf : fr.has id = false) (hs : σ.has id = false) :
    OpTo E ⟨some k, .range t x, ty, pos, af, gu⟩ fr σ ((k, .ptr id 0) :: fr) ((id, .it (strB s) 0) :: σ) :=
  ⟨fun g a K Q hst hK => by
    refine ⟨fun _ _ => trivial, ?_⟩
    rw [Oper.semAt_plain _ _ _ (fun c => by simp)]
    have h1 := hst.ev x
    rw [hx] at h1
    have e1 := rel_b h1
    have hr : (execOp a.eval ⟨some k, .range t x, ty, pos, af, gu⟩).run E.P g.w = .ok (.value (.pointer (some ⟨g.w.heap.size, 0, none⟩))) (g.w.alloc (.stringIter (strB s) 0)) := by
      show Sem.run E.P (do let v ← Instr.range t (a.eval x); pure (Next.value v)) g.w = _
      rw [e1]
      simp only [Instr.range, underlying, program, Sem.run_bind, Sem.run, ht.u, Result.andThen_ok]
      rfl
    rw [hr, Oper.uponIn_value]
    have hnew : (g.w.alloc (.stringIter (strB s) 0)).heap[g.w.heap.size]? = some (.stringIter (strB s) 0) := by show (g.w.heap.push _)[g.w.heap.size]? = _; simp
    have hold : Old (fun _ => False) g ⟨g.w.alloc (.stringIter (strB s) 0), fun q => if q = g.w.heap.size then 0 else g.u q, fun q => if q = id then .blk g.w.heap.size else g.loc q⟩ := by
      refine ⟨rfl, rfl, rfl, ⟨by show g.w.heap.size ≤ (g.w.alloc _).heap.size; simp, fun q hq => by dsimp only; split <;> omega, fun q i hq hi => ?_, fun r hr => (Below.heap_alloc _ _ _ (blk_lt hr)).trans hr⟩, fun q hq _ => ⟨Below.heap_alloc _ _ _ hq, by dsimp only; split <;> omega⟩⟩
      simp only [World.cell?]; rw [show (g.w.alloc (.stringIter (strB s) 0)).heap[q]? = g.w.heap[q]? from Below.heap_alloc _ _ _ hq]
    have hwf : Wf ⟨g.w.alloc (.stringIter (strB s) 0), fun q => if q = g.w.heap.size then 0 else g.u q, fun q => if q = id then .blk g.w.heap.size else g.loc q⟩ := by
      intro q hq
      have hq : g.w.heap.size + 1 ≤ q := by simpa using hq
      show (if q = g.w.heap.size then 0 else g.u q) = 0
      rw [if_neg (by omega)]
      exact hst.so.wf q (by omega)
    have hst' := hst.addObj id (ob := .it (strB s) 0) hf hs hold hwf (fun q hq => if_neg hq) (.it (if_pos rfl) hnew (if_pos rfl)) (fun b hb => by
      simp only [AO.own, if_true, Loc.block] at hb
      cases hb; omega)
    exact hK _ _ (hst'.put (Nat.le_of_ble_eq_true hN) (.ptr (if_pos rfl)))⟩
/-- the rune at a place of a text, and how many bytes it takes -/
def runeAt (s : Str) (i : Nat) : Int := ((Utf8.decode (strB s) i).1 : Nat)
def wideAt (s : Str) (i : Nat) : Nat := (Utf8.decode (strB s) i).2
theorem run_next_any2 {P : Program} (w : World) (s : ByteArray) (r pos : Nat) (ty : TypeId) (hb : w.heap[r]? = some (.stringIter s pos)) (h : pos < s.size) :
    (Instr.next (.pointer (some ⟨r, 0, none⟩)) true ty).run P w = .ok (.tuple #[.bool true, .int .i64 pos, .int .i32 (Utf8.decode s pos).1]) { w with heap := w.heap.setIfInBounds r (.stringIter s (pos + (Utf8.decode s pos).2)) } := by
  simp only [Instr.next, getObj, setObj, Sem.run_bind, Sem.run, hb, Result.andThen, h, if_true]
  simp [goInt]
theorem run_next_end2 {P : Program} (w : World) (s : ByteArray) (r pos : Nat) (ty : TypeId) (hb : w.heap[r]? = some (.stringIter s pos)) (h : ¬ pos < s.size) :
    (Instr.next (.pointer (some ⟨r, 0, none⟩)) true ty).run P w = .ok (.tuple #[.bool false]) w := by
  simp [Instr.next, getObj, Sem.run, hb, h]
theorem awpl_next {ops : Array Oper} {rest : List Oper} {k o i : Nat} {s : Str} (hg : gu = none) (hN : Nat.ble (k + 1) E.N = true) (hx : fr.ev x = .ptr o 0) (ho : σ.get o = some (.it (strB s) i))
    (h1 : decide (i < s.length) = true → AWPL E ops rest ((k, .tup [.bo true, .i i, .pv (.b (.int .i32 (runeAt s i)))]) :: fr) (σ.upd o (.it (strB s) (i + wideAt s i))) K)
    (h2 : decide (i < s.length) = false → AWPL E ops rest ((k, .tup [.bo false]) :: fr) σ K) :
    AWPL E ops (⟨some k, .next x true, ty, pos, af, gu⟩ :: rest) fr σ K :=
  ⟨fun g a hst => by
    subst hg
    have hv := hst.ev x
    rw [hx] at hv
    simp only [wpListIn, Region.wanted, if_true]
    refine ⟨fun _ _ => trivial, ?_⟩
    rw [Oper.semAt_plain _ _ _ (fun c => by simp)]
    obtain ⟨b, hl, hb, hst2⟩ := hst.itset (pos' := i + wideAt s i) ho
    have ev : a.eval x = .pointer (some ⟨b, 0, none⟩) := by
      generalize a.eval x = v at hv
      cases hv with
      | ptr hl2 => rw [hl] at hl2; cases hl2; rfl
    by_cases hlt : i < s.length
    · have hr : (execOp a.eval ⟨some k, .next x true, ty, pos, af, none⟩).run E.P g.w = .ok (.value (.tuple #[.bool true, .int .i64 i, .int .i32 (runeAt s i)])) { g.w with heap := g.w.heap.setIfInBounds b (.stringIter (strB s) (i + wideAt s i)) } := by
        show Sem.run E.P (do let v ← Instr.next (a.eval x) true ty; pure (Next.value v)) g.w = _
        rw [ev, Sem.run_bind, run_next_any2 g.w (strB s) b i ty hb (by rw [strB_size]; exact hlt)]
        rfl
      rw [hr, Oper.uponIn_value]
      exact (h1 (decide_eq_true hlt)).go ⟨_, _, _⟩ _ (hst2.put (Nat.le_of_ble_eq_true hN) (.tup rfl (fun j c hj => by
        match j, hj with
        | 0, hj => simp at hj; subst hj; exact .pv (.b rfl)
        | 1, hj => simp at hj; subst hj; exact .pv (.b rfl)
        | 2, hj => simp at hj; subst hj; exact .pv (.b rfl)
        | j + 3, hj => simp at hj)))
    · have hr : (execOp a.eval ⟨some k, .next x true, ty, pos, af, none⟩).run E.P g.w = .ok (.value (.tuple #[.bool false])) g.w := by
        show Sem.run E.P (do let v ← Instr.next (a.eval x) true ty; pure (Next.value v)) g.w = _
        rw [ev, Sem.run_bind, run_next_end2 g.w (strB s) b i ty hb (by rw [strB_size]; exact hlt)]
        rfl
      rw [hr, Oper.uponIn_value]
      exact (h2 (decide_eq_false hlt)).go g _ (hst.put (Nat.le_of_ble_eq_true hN) (.tup rfl (fun j c hj => by
        match j, hj with
        | 0, hj => simp at hj; subst hj; exact .pv (.b rfl)
        | j + 1, hj => simp at hj)))⟩
end
section
variable {P : Program} {ρ : Operand → AV} {σ : Sto} {dst : Option Tmp} {ty : TypeId} {pos : String} {af : Array Edge} {gu : Option (Nat × Bool)} {x : Operand} {t t' : TypeId} {ss sb ss' sb' : Nat} {sz sz' : Value}
theorem ev_u8i32 {c : UInt8} (hx : ρ x = .u8 c) (ha : TyOk P t ss sb sz (.int .u8)) (hb : TyOk P t' ss' sb' sz' (.int .i32)) : EvQ P ⟨dst, .convert t t' x, ty, pos, af, gu⟩ ρ σ (.pv (.b (.int .i32 (c.toNat : Int)))) :=
  ⟨fun c => by simp, fun g ρv h _ => by
    have h1 := h x (by simp [Op.operands])
    rw [hx] at h1
    have e1 := rel_b h1
    have hlt := c.toNat_lt
    have hw : IntKind.i32.wrap (c.toNat : Int) = c.toNat := by simp only [IntKind.wrap, IntKind.bits, IntKind.signed]; simp; omega
    refine ⟨.int .i32 c.toNat, ?_, .pv (.b rfl)⟩
    simp [execOp, convert, e1, go_sem, underlying, ha.u, hb.u, Conv.intToInt, hw]⟩
theorem ev_i32u8 {n : Int} (hx : ρ x = .pv (.b (.int .i32 n))) (ha : TyOk P t ss sb sz (.int .i32)) (hb : TyOk P t' ss' sb' sz' (.int .u8)) : EvQ P ⟨dst, .convert t t' x, ty, pos, af, gu⟩ ρ σ (.u8 (toU8 n)) :=
  ⟨fun c => by simp, fun g ρv h _ => by
    have h1 := h x (by simp [Op.operands])
    rw [hx] at h1
    have e1 := rel_b h1
    refine ⟨.int .u8 (toU8 n).toNat, ?_, .pv (.b rfl)⟩
    simp [execOp, convert, e1, go_sem, underlying, ha.u, hb.u, Conv.intToInt, wrap_u8]⟩
/-- a rune as text -/
def runeS (n : Int) : Str := (Utf8.encode n).data.toList
theorem ev_i32s {n : Int} (hx : ρ x = .pv (.b (.int .i32 n))) (ha : TyOk P t ss sb sz (.int .i32)) (hb : TyOk P t' ss' sb' sz' .string) : EvQ P ⟨dst, .convert t t' x, ty, pos, af, gu⟩ ρ σ (.s (runeS n)) :=
  ⟨fun c => by simp, fun g ρv h _ => by
    have h1 := h x (by simp [Op.operands])
    rw [hx] at h1
    have e1 := rel_b h1
    refine ⟨.string (Utf8.encode n), ?_, .pv (.b rfl)⟩
    simp [execOp, convert, e1, go_sem, underlying, ha.u, hb.u, Conv.intToString]⟩
end
end Go.Proofs.YtpclhpncmlbccaaGreatDoor

/- The calculus as a reckoning: the steps of a walk that need no choice are done by a function. No program is named. -/
namespace Go.Proofs.YtpclhpncmlbccaaGreatDoor
open Go.RowKit

/-- rows of the table of types -/
structure TyRow where
  size : Nat
  bytes : Nat
  zero : Value
  desc : TypeDesc
  pl : Option (Array (Nat × Nat))
abbrev Tab := List (Nat × TyRow)
def Tab.get : Tab → Nat → Option TyRow
  | [], _ => none
  | (k, a) :: r, t => bif Nat.beq k t then some a else Tab.get r t
structure RowOk (P : Program) (t : TypeId) (r : TyRow) : Prop where
  ty : TyOk P t r.size r.bytes r.zero r.desc
  pl : ∀ fs p, r.desc = .struct fs → r.pl = some p → ∀ w, Sem.run P (fs.mapM fun f => do pure (f.offset, ← sizeOf f.type)) w = .ok p w
def TabOk (P : Program) (T : Tab) : Prop := ∀ t r, T.get t = some r → RowOk P t r
theorem tab_nil {P : Program} : TabOk P [] := fun t r h => by simp [Tab.get] at h
theorem Tab.get_cons (k : Nat) (a : TyRow) (T : Tab) (t : Nat) : Tab.get ((k, a) :: T) t = if k = t then some a else Tab.get T t := by
  by_cases h : k = t
  · subst h; simp [Tab.get]
  · have : Nat.beq k t = false := by cases hb : Nat.beq k t with
      | false => rfl
      | true => exact absurd (Nat.eq_of_beq_eq_true hb) h
    simp [Tab.get, this, h]
theorem tab_row {P : Program} {T : Tab} {k : Nat} {r : TyRow} (h : RowOk P k r) (hT : TabOk P T) : TabOk P ((k, r) :: T) := fun t r' h' => by
  rw [Tab.get_cons] at h'
  split at h'
  · rename_i hk; subst hk; cases h'; exact h
  · exact hT t r' h'
theorem tab_cons {P : Program} {T : Tab} {k size bytes : Nat} {zero : Value} {d : TypeDesc} (h : TyOk P k size bytes zero d) (hT : TabOk P T) : TabOk P ((k, ⟨size, bytes, zero, d, none⟩) :: T) :=
  tab_row ⟨h, fun fs p _ h => by cases h⟩ hT
theorem tab_consP {P : Program} {T : Tab} {k size bytes : Nat} {zero : Value} {fs : Array Field} {p : Array (Nat × Nat)} (h : TyOk P k size bytes zero (.struct fs)) (hp : ∀ w, Sem.run P (fs.mapM fun f => do pure (f.offset, ← sizeOf f.type)) w = .ok p w) (hT : TabOk P T) : TabOk P ((k, ⟨size, bytes, zero, .struct fs, some p⟩) :: T) :=
  tab_row ⟨h, fun fs' p' h1 h2 => by cases h1; cases h2; exact hp⟩ hT

/-- the same, seen to be made of a constructor -/
def AV.force : AV → Option AV
  | .any => some .any
  | .pv p => some (.pv p)
  | .agg cs => some (.agg cs)
  | .tup vs => some (.tup vs)
  | .ptr o f => some (.ptr o f)
  | .ep c => some (.ep c)
  | .hs r o => some (.hs r o)
  | .hp r i o => some (.hp r i o)
  | .fn f a c => some (.fn f a c)
  | .mp o => some (.mp o)
  | .hsub r l => some (.hsub r l)
  | .z0 => some .z0
  | .hpre r h => some (.hpre r h)
  | .ifc b => some (.ifc b)
  | .ns r => some (.ns r)
  | .np r i o => some (.np r i o)
  | .hn r i => some (.hn r i)
  | .hnp r i k o => some (.hnp r i k o)
  | .nn b => some (.nn b)
  | .ls o => some (.ls o)
  | .mr o => some (.mr o)
theorem AV.force_eq {c d : AV} (h : c.force = some d) : c = d := by cases c <;> simpa [AV.force] using h
def forceL : List AV → Option (List AV)
  | [] => some []
  | c :: cs => match c.force with
    | some c' => (match forceL cs with | some cs' => some (c' :: cs') | none => none)
    | none => none
theorem forceL_eq : ∀ {cs ds : List AV}, forceL cs = some ds → cs = ds
  | [], _, h => by simpa [forceL] using h
  | c :: cs, _, h => by
    unfold forceL at h
    split at h
    · rename_i c' hc
      split at h
      · rename_i cs' hcs
        cases h
        rw [AV.force_eq hc, forceL_eq hcs]
      · cases h
    · cases h
def forceP : List PV → Option (List PV)
  | [] => some []
  | c :: cs => match forceP cs with | some cs' => some (c :: cs') | none => none
theorem forceP_eq : ∀ {cs ds : List PV}, forceP cs = some ds → cs = ds
  | [], _, h => by simpa [forceP] using h
  | c :: cs, _, h => by
    unfold forceP at h
    split at h
    · rename_i cs' hcs
      cases h
      rw [forceP_eq hcs]
    · cases h
def AV.str? : AV → Option Str
  | .pv (.b (.string s)) => some s.data.toList
  | _ => none
theorem AV.str?_eq {c : AV} {s : Str} (h : c.str? = some s) : c = .s s := by
  unfold AV.str? at h
  split at h
  · cases h; rfl
  · cases h
/-- the address of an operand's object is in a slot of its own -/
def Sto.updF : Sto → Nat → AO → Option Sto
  | [], _, _ => some []
  | (k, a) :: r, o, ob => match Nat.beq k o with
    | true => some ((k, ob) :: r)
    | false => (match Sto.updF r o ob with
      | some r' => some ((k, a) :: r')
      | none => none)

section
variable {P : Program} {T : Tab} {ρ : Operand → AV} {σ : Sto} {dst : Option Tmp} {ty : TypeId} {pos : String} {af : Array Edge} {gu : Option (Nat × Bool)} {c : AV}
def qStr (op : BinOp) (x y : Str) : Option AV := match op with
  | .eql => some (.bo (x == y))
  | .neq => some (.bo (x != y))
  | .lss => some (.bo (Op.bytesLess x y))
  | _ => none
def qCmp (op : BinOp) (x y : Int) : Option AV := match op with
  | .eql => some (.bo (x == y))
  | .neq => some (.bo (x != y))
  | .lss => some (.bo (decide (x < y)))
  | .leq => some (.bo (decide (x ≤ y)))
  | .gtr => some (.bo (decide (y < x)))
  | .geq => some (.bo (decide (y ≤ x)))
  | _ => none
def qI64 (op : BinOp) (x y : Int) : Option AV := match op with
  | .add => some (.i (IntKind.wrap .i64 (x + y)))
  | .sub => some (.i (IntKind.wrap .i64 (x - y)))
  | .mul => some (.i (IntKind.wrap .i64 (x * y)))
  | op => qCmp op x y
def qBool (T : Tab) (op : BinOp) (t : TypeId) (x y : Bool) : Option AV := match T.get t with
  | some ⟨_, _, _, .bool, _⟩ => (match op with | .eql => some (.bo (x == y)) | .neq => some (.bo (x != y)) | _ => none)
  | _ => none
def qBin (T : Tab) (op : BinOp) (t : TypeId) (a b : AV) : Option AV := match a with
  | .pv (.b (.int .i64 x)) => (match b with | .pv (.b (.int .i64 y)) => qI64 op x y | _ => none)
  | .pv (.b (.int .u8 x)) => (match b with | .pv (.b (.int .u8 y)) => qCmp op x y | _ => none)
  | .pv (.b (.int .i32 x)) => (match b with | .pv (.b (.int .i32 y)) => qCmp op x y | _ => none)
  | .pv (.b (.int .u64 x)) => (match b with | .pv (.b (.int .u64 y)) => qCmp op x y | _ => none)
  | .pv (.b (.string x)) => (match b with | .pv (.b (.string y)) => qStr op x.data.toList y.data.toList | _ => none)
  | .pv (.b (.bool x)) => (match b with | .pv (.b (.bool y)) => qBool T op t x y | _ => none)
  | _ => none
theorem qCmp_ok {op : BinOp} {t t' : TypeId} {x y : Operand} {k : IntKind} {a b : Int} (hx : ρ x = .pv (.b (.int k a))) (hy : ρ y = .pv (.b (.int k b))) (h : qCmp op a b = some c) : EvQ P ⟨dst, .binOp op t x y t', ty, pos, af, gu⟩ ρ σ c := by
  unfold qCmp at h
  split at h <;> first | (cases h; done) | skip
  all_goals cases h
  · exact ev_eql hx hy
  · exact ev_neq hx hy
  · exact ev_lss hx hy
  · exact ev_leq hx hy
  · exact ev_gtr hx hy
  · exact ev_geq hx hy
theorem qI64_ok {op : BinOp} {t t' : TypeId} {x y : Operand} {a b : Int} (hx : ρ x = .pv (.b (.int .i64 a))) (hy : ρ y = .pv (.b (.int .i64 b))) (h : qI64 op a b = some c) : EvQ P ⟨dst, .binOp op t x y t', ty, pos, af, gu⟩ ρ σ c := by
  unfold qI64 at h
  split at h
  · cases h; exact ev_add hx hy
  · cases h; exact ev_sub hx hy
  · cases h; exact ev_mul hx hy
  · exact qCmp_ok hx hy h
theorem qStr_ok {op : BinOp} {t t' : TypeId} {x y : Operand} {a b : Str} (hx : ρ x = .s a) (hy : ρ y = .s b) (h : qStr op a b = some c) : EvQ P ⟨dst, .binOp op t x y t', ty, pos, af, gu⟩ ρ σ c := by
  unfold qStr at h
  split at h <;> first | (cases h; done) | skip
  all_goals cases h
  · exact ev_seql hx hy
  · exact ev_sneq hx hy
  · exact ev_slss hx hy
theorem qBool_ok (hT : TabOk P T) {op : BinOp} {t t' : TypeId} {x y : Operand} {a b : Bool} (hx : ρ x = .bo a) (hy : ρ y = .bo b) (h : qBool T op t a b = some c) : EvQ P ⟨dst, .binOp op t x y t', ty, pos, af, gu⟩ ρ σ c := by
  unfold qBool at h
  split at h
  · rename_i hr
    have := (hT _ _ hr).ty
    split at h
    · cases h; exact ev_beql hx hy this
    · cases h; exact ev_bneq hx hy this
    · cases h
  · cases h
theorem qBin_ok (hT : TabOk P T) {op : BinOp} {t t' : TypeId} {x y : Operand} (h : qBin T op t (ρ x) (ρ y) = some c) : EvQ P ⟨dst, .binOp op t x y t', ty, pos, af, gu⟩ ρ σ c := by
  unfold qBin at h
  split at h
  · rename_i hx; split at h
    · rename_i hy; exact qI64_ok hx hy h
    · cases h
  · rename_i hx; split at h
    · rename_i hy; exact qCmp_ok hx hy h
    · cases h
  · rename_i hx; split at h
    · rename_i hy; exact qCmp_ok hx hy h
    · cases h
  · rename_i hx; split at h
    · rename_i hy; exact qCmp_ok hx hy h
    · cases h
  · rename_i hx; split at h
    · rename_i hy; exact qStr_ok hx hy h
    · cases h
  · rename_i hx; split at h
    · rename_i hy; exact qBool_ok hT hx hy h
    · cases h
  · cases h
def qLoad (T : Tab) (σ : Sto) (t : TypeId) (v : AV) : Option AV := match T.get t with
  | none => none
  | some row => match v with
    | .ptr o off => (match σ.get o with
      | some (.cells cs) => bif dAgg row.desc then (bif Nat.ble (off + row.size) cs.length then (match forceL ((cs.drop off).take row.size) with | some l => some (.agg l) | none => none) else none)
          else (match cs[off]? with | some c => c.force | none => none)
      | _ => none)
    | .ep el => bif dAgg row.desc then (bif Nat.beq el.length row.size then (match forceL (el.map .pv) with | some l => some (.agg l) | none => none) else none)
        else (match el with | c :: _ => some (.pv c) | [] => none)
    | _ => none
theorem qLoad_ok (hT : TabOk P T) {t : TypeId} {x : Operand} (h : qLoad T σ t (ρ x) = some c) : EvQ P ⟨dst, .load t x, ty, pos, af, gu⟩ ρ σ c := by
  unfold qLoad at h
  split at h
  · cases h
  · rename_i row hr
    have ht := (hT _ _ hr).ty
    split at h
    · rename_i o off hx
      split at h
      · rename_i cs ho
        cases hd : dAgg row.desc with
        | true =>
          rw [hd] at h
          simp only [cond_true] at h
          cases hn : Nat.ble (off + row.size) cs.length with
          | false => rw [hn] at h; cases h
          | true =>
            rw [hn] at h
            simp only [cond_true] at h
            split at h
            · rename_i l hl
              cases h
              rw [← forceL_eq hl]
              exact ev_loadN hx ho ht hd hn
            · cases h
        | false =>
          rw [hd] at h
          simp only [cond_false] at h
          split at h
          · rename_i c' hc
            rw [← AV.force_eq h]
            exact ev_load hx ho ht hd hc
          · cases h
      · cases h
    · rename_i el hx
      cases hd : dAgg row.desc with
      | true =>
        rw [hd] at h
        simp only [cond_true] at h
        cases hn : Nat.beq el.length row.size with
        | false => rw [hn] at h; cases h
        | true =>
          rw [hn] at h
          simp only [cond_true] at h
          split at h
          · rename_i l hl
            cases h
            rw [← forceL_eq hl]
            exact ev_load_epN hx ht hd (Nat.eq_of_beq_eq_true hn)
          · cases h
      | false =>
        rw [hd] at h
        simp only [cond_false] at h
        split at h
        · cases h
          exact ev_load_ep hx ht hd (by simp)
        · cases h
    · cases h
def qFA (T : Tab) (t : TypeId) (f : Nat) (v : AV) : Option AV := match T.get t with
  | some ⟨_, _, _, .struct fs, _⟩ => (match fs[f]? with
    | some fl => (match T.get fl.type with
      | some r2 => bif Nat.beq r2.size 0 then none else (match v with
        | .ptr o off => some (.ptr o (off + fl.offset))
        | .ep el => bif Nat.ble fl.offset el.length then (match forceP (el.drop fl.offset) with | some l => some (.ep l) | none => none) else none
        | .hp r i j => some (.hp r i (j + fl.offset))
        | _ => none)
      | none => none)
    | none => none)
  | _ => none
theorem qFA_ok (hT : TabOk P T) {t : TypeId} {f : Nat} {x : Operand} (h : qFA T t f (ρ x) = some c) : EvQ P ⟨dst, .fieldAddr t x f, ty, pos, af, gu⟩ ρ σ c := by
  unfold qFA at h
  split at h
  · rename_i fs _ hr
    have ht := (hT _ _ hr).ty.u
    split at h
    · rename_i fl hf
      split at h
      · rename_i r2 hr2
        have ht2 := (hT _ _ hr2).ty
        cases hz : Nat.beq r2.size 0 with
        | true => rw [hz] at h; cases h
        | false =>
          rw [hz] at h
          simp only [cond_false] at h
          split at h
          · rename_i hx; cases h; exact ev_fieldAddr hx ht hf ht2 hz
          · rename_i el hx
            cases hle : Nat.ble fl.offset el.length with
            | false => rw [hle] at h; cases h
            | true =>
              rw [hle] at h
              simp only [cond_true] at h
              split at h
              · rename_i l hl
                cases h
                rw [← forceP_eq hl]
                exact ev_fieldAddr_ep hx ht hf ht2 hz hle
              · cases h
          · rename_i hx; cases h; exact ev_fieldAddr_hp hx ht hf ht2 hz
          · cases h
      · cases h
    · cases h
  · cases h
def qField (T : Tab) (t : TypeId) (f : Nat) (v : AV) : Option AV := match T.get t with
  | some ⟨_, _, _, .struct fs, _⟩ => (match fs[f]? with
    | some fl => (match T.get fl.type with
      | some r2 => (match v with
        | .agg cs => bif dAgg r2.desc then none else (match cs[fl.offset]? with | some c => c.force | none => none)
        | _ => none)
      | none => none)
    | none => none)
  | _ => none
theorem qField_ok (hT : TabOk P T) {t : TypeId} {f : Nat} {x : Operand} (h : qField T t f (ρ x) = some c) : EvQ P ⟨dst, .field t x f, ty, pos, af, gu⟩ ρ σ c := by
  unfold qField at h
  split at h
  · rename_i fs _ hr
    have ht := (hT _ _ hr).ty.u
    split at h
    · rename_i fl hf
      split at h
      · rename_i r2 hr2
        have ht2 := (hT _ _ hr2).ty
        split at h
        · rename_i cs hx
          cases hd : dAgg r2.desc with
          | true => rw [hd] at h; cases h
          | false =>
            rw [hd] at h
            simp only [cond_false] at h
            split at h
            · rename_i c' hc
              rw [← AV.force_eq h]
              exact ev_field hx ht hf ht2 hd hc
            · cases h
        · cases h
      · cases h
    · cases h
  · cases h
def qLen (T : Tab) (t : TypeId) (v : AV) : Option AV := match v with
  | .pv (.b (.string s)) => (match T.get t with | some ⟨_, _, _, .string, _⟩ => some (.i s.data.toList.length) | _ => none)
  | _ => none
theorem qLen_ok (hT : TabOk P T) {t : TypeId} {x : Operand} (h : qLen T t (ρ x) = some c) : EvQ P ⟨dst, .call ⟨.builtin .len, #[x], #[t]⟩, ty, pos, af, gu⟩ ρ σ c := by
  unfold qLen at h
  split at h
  · rename_i hx
    split at h
    · rename_i hr
      cases h
      exact ev_slen hx (hT _ _ hr).ty.u
    · cases h
  · cases h
def qBuild (T : Tab) (t : TypeId) (ps : List (Nat × AV)) : Option AV := match T.get t with
  | some ⟨_, _, z, .struct _, some pl⟩ => bif z.cells.toList.all cellV then (match forceL (z.cells.toList.map constAV) with
    | some zs => (match fillA (pl[·]?) zs ps with
      | some cs => (match forceL cs with | some cs' => some (.agg cs') | none => none)
      | none => none)
    | none => none) else none
  | _ => none
theorem qBuild_ok (hT : TabOk P T) {t : TypeId} {ps : List (Nat × Operand)} (h : qBuild T t (ps.map fun p => (p.1, ρ p.2)) = some c) : EvQ P ⟨dst, .build t ps.toArray, ty, pos, af, gu⟩ ρ σ c := by
  unfold qBuild at h
  split at h
  · rename_i z fs pl hr
    have hk := hT _ _ hr
    cases hz : z.cells.toList.all cellV with
    | false => rw [hz] at h; cases h
    | true =>
      rw [hz] at h
      simp only [cond_true] at h
      split at h
      · rename_i zs hzs
        split at h
        · rename_i cs hc
          split at h
          · rename_i cs' hcs
            cases h
            rw [← forceL_eq hcs]
            rw [← forceL_eq hzs] at hc
            exact ev_build hk.ty (hk.pl fs pl rfl rfl) (.inr ⟨rfl, hz⟩) hc
          · cases h
        · cases h
      · cases h
  · cases h
def qConv (T : Tab) (t t' : TypeId) (v : AV) : Option AV := match T.get t, T.get t' with
  | some ⟨_, _, _, .string, _⟩, some ⟨_, _, _, .string, _⟩ => (match v with | .pv (.b (.string s)) => some (.s s.data.toList) | _ => none)
  | some ⟨_, _, _, .int .i32, _⟩, some ⟨_, _, _, .int .u8, _⟩ => (match v with | .pv (.b (.int .i32 n)) => some (.u8 (toU8 n)) | _ => none)
  | some ⟨_, _, _, .int .i32, _⟩, some ⟨_, _, _, .string, _⟩ => (match v with | .pv (.b (.int .i32 n)) => some (.s (runeS n)) | _ => none)
  | _, _ => none
theorem qConv_ok (hT : TabOk P T) {t t' : TypeId} {x : Operand} (h : qConv T t t' (ρ x) = some c) : EvQ P ⟨dst, .convert t t' x, ty, pos, af, gu⟩ ρ σ c := by
  unfold qConv at h
  split at h
  · rename_i h1 h2
    split at h
    · rename_i hx
      cases h
      exact ev_s2s hx (hT _ _ h1).ty (hT _ _ h2).ty
    · cases h
  · rename_i h1 h2
    split at h
    · rename_i hx
      cases h
      exact ev_i32u8 hx (hT _ _ h1).ty (hT _ _ h2).ty
    · cases h
  · rename_i h1 h2
    split at h
    · rename_i hx
      cases h
      exact ev_i32s hx (hT _ _ h1).ty (hT _ _ h2).ty
    · cases h
  · cases h
/-- operations that leave the world alone -/
theorem ev_nilCheck {x : Operand} {o off : Nat} (hx : ρ x = .ptr o off) : EvQ P ⟨dst, .nilCheck x, ty, pos, af, gu⟩ ρ σ (.ptr o off) :=
  ⟨fun c => by simp, fun g ρv h _ => by
    have h1 := h x (by simp [Op.operands])
    rw [hx] at h1
    generalize hv : ρv x = v at h1
    cases h1 with
    | @ptr _ _ b hl =>
      refine ⟨_, ?_, .ptr hl⟩
      simp [execOp, hv]⟩
def qval (T : Tab) (ρ : Operand → AV) (σ : Sto) : Op → Option AV
  | .move x => (ρ x).force
  | .assign x => (ρ x).force
  | .extract x i => (match ρ x with | .tup cs => (match cs[i]? with | some c => c.force | none => none) | _ => none)
  | .binOp op t x y _ => qBin T op t (ρ x) (ρ y)
  | .unOp .not _ x => (match ρ x with | .pv (.b (.bool b)) => some (.bo (!b)) | _ => none)
  | .pick c x y => (match ρ c with | .pv (.b (.bool b)) => (match b with | true => (ρ x).force | false => (ρ y).force) | _ => none)
  | .load t x => qLoad T σ t (ρ x)
  | .fieldAddr t x f => qFA T t f (ρ x)
  | .field t x f => qField T t f (ρ x)
  | .call ⟨.builtin .len, ⟨[x]⟩, ⟨[t]⟩⟩ => qLen T t (ρ x)
  | .build t ps => qBuild T t (ps.toList.map fun p => (p.1, ρ p.2))
  | .convert t t' x => qConv T t t' (ρ x)
  | .makeFunc f xs ys => (match forceL (xs.toList.map ρ), forceL (ys.toList.map ρ) with | some a, some b => some (.fn f a b) | _, _ => none)
  | .nilCheck x => (match ρ x with | .ptr o off => some (.ptr o off) | _ => none)
  | _ => none
theorem qval_ok (hT : TabOk P T) {op : Op} (h : qval T ρ σ op = some c) : EvQ P ⟨dst, op, ty, pos, af, gu⟩ ρ σ c := by
  unfold qval at h
  split at h
  · rw [← AV.force_eq h]; exact ev_move
  · rw [← AV.force_eq h]; exact ev_assign
  · split at h
    · rename_i hx
      split at h
      · rename_i hc; rw [← AV.force_eq h]; exact ev_extract hx hc
      · cases h
    · cases h
  · exact qBin_ok hT h
  · split at h
    · rename_i hx; cases h; exact ev_not hx
    · cases h
  · split at h
    · rename_i b hc
      cases b with
      | true => rw [← AV.force_eq h]; exact ev_pick_t hc rfl
      | false => rw [← AV.force_eq h]; exact ev_pick_f hc rfl
    · cases h
  · exact qLoad_ok hT h
  · exact qFA_ok hT h
  · exact qField_ok hT h
  · exact qLen_ok hT h
  · rename_i ps
    obtain ⟨ps⟩ := ps
    exact qBuild_ok hT h
  · exact qConv_ok hT h
  · rename_i f xs ys
    obtain ⟨xs⟩ := xs
    obtain ⟨ys⟩ := ys
    split at h
    · rename_i h1 h2
      cases h
      exact ev_makeFunc (forceL_eq h1) (forceL_eq h2)
    · cases h
  · split at h
    · rename_i hx; cases h; exact ev_nilCheck hx
    · cases h
  · cases h
end

section
variable {E : Env} {fr : Fr} {σ : Sto} {K : Post}
/-- one operation, its guard left aside -/
def opDo (T : Tab) (N : Nat) (o : Oper) (fr : Fr) (σ : Sto) : Option (Fr × Sto) := match o.dst with
  | some d => bif Nat.ble (d + 1) N then (match o.op with
    | .alloc t => (match T.get t with
      | some row => (match forceL (row.zero.cells.toList.map constAV) with
        | some cs => bif (row.zero.cells.toList.all cellV && !fr.has d && !σ.has d && !AV.hasL d cs) then some ((d, .ptr d 0) :: fr, (d, .cells cs) :: σ) else none
        | none => none)
      | none => none)
    | .box _ x => (match (fr.ev x).cells with
      | some cs0 => (match forceL cs0 with
        | some cs => bif (!fr.has d && !σ.has d && !AV.hasL d cs) then some ((d, .ptr d 0) :: fr, (d, .cells cs) :: σ) else none
        | none => none)
      | none => none)
    | op => (match qval T fr.ev σ op with
      | some c => some ((d, c) :: fr, σ)
      | none => none)) else none
  | none => (match o.op with
    | .store t x y => (match T.get t with
      | some row => (match fr.ev x with
        | .ptr b off => (match σ.get b with
          | some (.cells cs) => (match (fr.ev y).cells with
            | some vs => bif (Nat.beq vs.length row.size && Nat.ble (off + vs.length) cs.length) then (match forceL (splice cs off vs) with
              | some cs' => (match Sto.updF σ b (.cells cs') with
                | some σ' => some (fr, σ')
                | none => none)
              | none => none) else none
            | none => none)
          | _ => none)
        | _ => none)
      | none => none)
    | _ => none)
theorem updF_eq : ∀ {σ σ' : Sto} {o : Nat} {ob : AO}, Sto.updF σ o ob = some σ' → σ.upd o ob = σ'
  | [], _, _, _, h => by simp [Sto.updF] at h; subst h; rfl
  | (k, a) :: r, σ', o, ob, h => by
    unfold Sto.updF at h
    unfold Sto.upd
    cases hb : Nat.beq k o with
    | true => rw [hb] at h; cases h; rfl
    | false =>
      rw [hb] at h
      dsimp only at h
      split at h
      · rename_i r' hr
        cases h
        rw [updF_eq hr]; rfl
      · cases h
theorem opDo_ok {T : Tab} (hT : TabOk E.P T) {o : Oper} {fr' : Fr} {σ' : Sto} (h : opDo T E.N o fr σ = some (fr', σ')) : OpTo E o fr σ fr' σ' := by
  obtain ⟨dst, op, ty, pos, af, gu⟩ := o
  unfold opDo at h
  split at h
  · rename_i d hd
    dsimp only at hd
    subst hd
    cases hN : Nat.ble (d + 1) E.N with
    | false => rw [hN] at h; cases h
    | true =>
      rw [hN] at h
      simp only [cond_true] at h
      split at h
      · rename_i t
        split at h
        · rename_i row hr
          split at h
          · rename_i cs hcs
            cases hb : (row.zero.cells.toList.all cellV && !fr.has d && !σ.has d && !AV.hasL d cs) with
            | false => rw [hb] at h; cases h
            | true =>
              rw [hb] at h
              simp only [cond_true] at h
              cases h
              simp only [Bool.and_eq_true, Bool.not_eq_true'] at hb
              obtain ⟨⟨⟨h1, h2⟩, h3⟩, h4⟩ := hb
              exact opTo_alloc d hN (hT _ _ hr).ty (.inr ⟨forceL_eq hcs, h1⟩) h2 h3 h4
          · cases h
        · cases h
      · split at h
        · rename_i cs0 hc0
          split at h
          · rename_i cs hcs
            cases hb : (!fr.has d && !σ.has d && !AV.hasL d cs) with
            | false => rw [hb] at h; cases h
            | true =>
              rw [hb] at h
              simp only [cond_true] at h
              cases h
              simp only [Bool.and_eq_true, Bool.not_eq_true'] at hb
              obtain ⟨⟨h2, h3⟩, h4⟩ := hb
              rw [forceL_eq hcs] at hc0
              exact opTo_box d hN hc0 h2 h3 h4
          · cases h
        · cases h
      · split at h
        · rename_i c hc
          cases h
          exact opTo_q rfl hN (qval_ok hT hc)
        · cases h
  · rename_i hd
    dsimp only at hd
    subst hd
    split at h
    · subst_vars
      split at h
      · rename_i row hr
        split at h
        · rename_i b off hx
          split at h
          · rename_i cs ho
            split at h
            · rename_i vs hy
              cases hb : (Nat.beq vs.length row.size && Nat.ble (off + vs.length) cs.length) with
              | false => rw [hb] at h; cases h
              | true =>
                rw [hb] at h
                simp only [cond_true] at h
                simp only [Bool.and_eq_true] at hb
                split at h
                · rename_i cs' hcs
                  split at h
                  · rename_i s' hs'
                    cases h
                    have e1 := updF_eq hs'
                    rw [← forceL_eq hcs] at e1
                    rw [← e1]
                    exact opTo_store hx ho hy (hT _ _ hr).ty hb.1 hb.2
                  · cases h
                · cases h
            · cases h
          · cases h
        · cases h
      · cases h
    · cases h

/-- what is known less of is taken where more is known -/
def Mono (K : Post) : Prop := ∀ e fr σ fr' σ', FrLe fr fr' → StoLe σ σ' → K e fr' σ' → K e fr σ
theorem mono_kthen {y : Code} (h : Mono K) : Mono (kthen E y K) := fun e fr σ fr' σ' hf hs hk => by
  cases e <;> first | exact awp_le hf hs hk | exact h _ _ _ _ _ hf hs hk
theorem mono_kblock {id : Nat} (h : Mono K) : Mono (kblock id K) := fun e fr σ fr' σ' hf hs hk => by
  cases e
  case exit i =>
    simp only [kblock] at hk ⊢
    split
    · rename_i hi; rw [if_pos hi] at hk; exact h _ _ _ _ _ hf hs hk
    · rename_i hi; rw [if_neg hi] at hk; exact h _ _ _ _ _ hf hs hk
  all_goals exact h _ _ _ _ _ hf hs hk
theorem mono_join {J : Type} {frs : J → Fr} {stos : J → Sto} {M : J → Prop} (h : Mono K) : Mono (JoinK K frs stos M) := fun e fr σ fr' σ' hf hs hk => by
  cases e
  case normal =>
    obtain ⟨j, hm, h1, h2⟩ := hk
    exact ⟨j, hm, frLe_trans hf h1, stoLe_trans hs h2⟩
  all_goals exact h _ _ _ _ _ hf hs hk
theorem mono_scope (h : Mono K) : Mono (kscope K) := fun e fr σ fr' σ' hf hs hk => by
  cases e <;> first | exact h _ _ _ _ _ hf hs hk | exact hk.elim
theorem mono_at {e0 : Exit} {fr0 : Fr} {σ0 : Sto} : Mono (At e0 fr0 σ0) := fun e fr σ fr' σ' hf hs ⟨h1, h2, h3⟩ => ⟨h1, frLe_trans hf h2, stoLe_trans hs h3⟩
theorem mono_round {A R : Type} {frs : A → Fr} {stos : A → Sto} {e0 : R → Exit} {fr0 : R → Fr} {σ0 : R → Sto} {x : Step A R} : Mono (RoundK frs stos (fun b => At (e0 b) (fr0 b) (σ0 b)) x) := fun e fr σ fr' σ' hf hs hk => by
  cases x with
  | cont s => exact mono_at e fr σ fr' σ' hf hs hk
  | out r => exact ⟨hk.1, mono_at e fr σ fr' σ' hf hs hk.2⟩
theorem mono_kret {P : Program} {fn : Func} {r : AV} : Mono (Kret P fn r) := fun e fr σ fr' σ' hf hs ⟨h1, cs, h2, h3⟩ => ⟨h1, cs, h2.le hf hs, h3⟩

/-- what is to be done afterwards -/
inductive KS where
  | base (K : Post) (h : Mono K)
  | th (y : Code) (k : KS)
  | bl (id : Nat) (k : KS)
  | sc (k : KS)
  | jo {J : Type} (frs : J → Fr) (stos : J → Sto) (M : J → Prop) (k : KS)
def KS.post (E : Env) : KS → Post
  | .base K _ => K
  | .th y k => kthen E y (k.post E)
  | .bl id k => kblock id (k.post E)
  | .sc k => kscope (k.post E)
  | .jo frs stos M k => JoinK (k.post E) frs stos M
theorem KS.mono (E : Env) : ∀ k : KS, Mono (k.post E)
  | .base _ h => h
  | .th _ k => mono_kthen (k.mono E)
  | .bl _ k => mono_kblock (k.mono E)
  | .sc k => mono_scope (k.mono E)
  | .jo _ _ _ k => mono_join (k.mono E)
/-- where a walk stands -/
inductive GS where
  | ops (ops : Array Oper) (l : List Oper) (fr : Fr) (σ : Sto) (k : KS)
  | code (c : Code) (fr : Fr) (σ : Sto) (k : KS)
  | at (e : Exit) (fr : Fr) (σ : Sto) (k : KS)
def GS.holds (E : Env) : GS → Prop
  | .ops o l fr σ k => AWPL E o l fr σ (k.post E)
  | .code c fr σ k => AWP E c fr σ (k.post E)
  | .at e fr σ k => k.post E e fr σ
/-- one step -/
def GS.step (T : Tab) (N : Nat) : GS → Option GS
  | .ops o l fr σ k => (match l with
    | [] => some (.at .normal fr σ k)
    | x :: rest => (match x.guard with
      | none => (match opDo T N x fr σ with | some (fr', σ') => some (.ops o rest fr' σ' k) | none => none)
      | some (j, want) => (match (o[j]?).bind (·.dst) with
        | none => none
        | some d => (match fr.get d with
          | .pv (.b (.bool t)) => (match (match t, want with | true, w => w | false, w => !w) with
            | true => (match opDo T N x fr σ with | some (fr', σ') => some (.ops o rest fr' σ' k) | none => none)
            | false => (match x.dst with | some d => some (.ops o rest ((d, .tup []) :: fr) σ k) | none => some (.ops o rest fr σ k)))
          | .tup [] => (match x.dst with | some d => some (.ops o rest ((d, .tup []) :: fr) σ k) | none => some (.ops o rest fr σ k))
          | _ => none))))
  | .code c fr σ k => (match c with
    | .seq x y => some (.code x fr σ (.th y k))
    | .region _ os draw => (match draw with | false => some (.ops os os.toList fr σ k) | true => none)
    | .block id x => some (.code x fr σ (.bl id k))
    | .scope x => some (.code x fr σ (.sc k))
    | .label _ => some (.at .normal fr σ k)
    | .skip => some (.at .normal fr σ k)
    | .ret => some (.at .ret fr σ k)
    | .exit i => some (.at (.exit i) fr σ k)
    | .cond v x y => (match fr.ev v with
      | .pv (.b (.bool t)) => (match t with | true => some (.code x fr σ k) | false => some (.code y fr σ k))
      | _ => none)
    | _ => none)
  | .at e fr σ k => (match k with
    | .base _ _ => none
    | .th y k => (match e with
      | .normal => some (.code y fr σ k)
      | .ret => some (.at .ret fr σ k)
      | .exit i => some (.at (.exit i) fr σ k)
      | _ => none)
    | .bl id k => (match e with
      | .normal => some (.at .normal fr σ k)
      | .ret => some (.at .ret fr σ k)
      | .exit i => (match Nat.beq i id with | true => some (.at .normal fr σ k) | false => some (.at (.exit i) fr σ k))
      | _ => none)
    | .sc k => (match e with
      | .normal => some (.at .normal fr σ k)
      | .ret => some (.at .ret fr σ k)
      | .exit i => some (.at (.exit i) fr σ k)
      | _ => none)
    | .jo _ _ _ k => (match e with
      | .ret => some (.at .ret fr σ k)
      | .exit i => some (.at (.exit i) fr σ k)
      | _ => none))
def GS.run (T : Tab) (N : Nat) : Nat → GS → Option GS
  | 0, g => some g
  | n + 1, g => match GS.step T N g with
    | some g' => GS.run T N n g'
    | none => none
theorem step_ok {T : Tab} (hT : TabOk E.P T) {g g' : GS} (h : GS.step T E.N g = some g') (hh : g'.holds E) : g.holds E := by
  unfold GS.step at h
  split at h
  · rename_i o l fr σ k
    split at h
    · cases h; exact awpl_nil hh
    · rename_i x rest
      split at h
      · rename_i hg
        split at h
        · rename_i fr' σ' ho; cases h; exact awpl_op hg (opDo_ok hT ho) hh
        · cases h
      · rename_i j want hg
        split at h
        · cases h
        · rename_i d hj
          split at h
          · rename_i t hv
            split at h
            · rename_i hw
              have ht : t = want := by cases t <;> cases want <;> simp_all
              split at h
              · rename_i fr' σ' ho; cases h; exact awpl_yes hg hj hv ht (opDo_ok hT ho) hh
              · cases h
            · rename_i hw
              have ht : t = !want := by cases t <;> cases want <;> simp_all
              split at h
              · rename_i d' hd; cases h; exact awpl_no hg hj hv ht (by rw [hd]; exact hh)
              · rename_i hd; cases h; exact awpl_no hg hj hv ht (by rw [hd]; exact hh)
          · rename_i hv
            split at h
            · rename_i d' hd; cases h; exact awpl_none hg hj hv (by rw [hd]; exact hh)
            · rename_i hd; cases h; exact awpl_none hg hj hv (by rw [hd]; exact hh)
          · cases h
  · rename_i c fr σ k
    split at h
    · cases h; exact awp_seq hh
    · rename_i id ops draw
      cases draw with
      | false => cases h; obtain ⟨ops⟩ := ops; exact awp_region hh
      | true => cases h
    · cases h; exact awp_block hh
    · cases h; exact awp_scope hh
    · cases h; exact awp_label hh
    · cases h; exact awp_skip hh
    · cases h; exact awp_ret hh
    · cases h; exact awp_exit hh
    · split at h
      · rename_i t hv
        cases t with
        | true => cases h; exact awp_cond hv (fun _ => hh) (fun h => nomatch h)
        | false => cases h; exact awp_cond hv (fun h => nomatch h) (fun _ => hh)
      · cases h
    · cases h
  · rename_i e fr σ k
    split at h
    · cases h
    · split at h <;> first | (cases h; done) | (cases h; exact hh)
    · split at h
      · cases h; exact hh
      · cases h; exact hh
      · rename_i id k _ i
        cases hb : Nat.beq i id with
        | true => rw [hb] at h; cases h; have := Nat.eq_of_beq_eq_true hb; subst this; exact kblock_exit hh
        | false => rw [hb] at h; cases h; exact kblock_other hb hh
      · cases h
    · split at h <;> first | (cases h; done) | (cases h; exact hh)
    · split at h <;> first | (cases h; done) | (cases h; exact hh)
theorem rn {T : Tab} (hT : TabOk E.P T) (n : Nat) {g g' : GS} (h : GS.run T E.N n g = some g') (hh : g'.holds E) : g.holds E := by
  induction n generalizing g with
  | zero => simp only [GS.run, Option.some.injEq] at h; subst h; exact hh
  | succ n ih =>
    unfold GS.run at h
    split at h
    · rename_i g1 h1; exact step_ok hT h1 (ih h)
    · cases h
end
end Go.Proofs.YtpclhpncmlbccaaGreatDoor

/- The abstract calculus: bytes of a text that are written where they lie. No program is named. -/
namespace Go.Proofs.YtpclhpncmlbccaaGreatDoor
open Go.RowKit Go.Lib

variable {E : Env} {fr : Fr} {σ : Sto} {K : Post} {P : Program} {ρ : Operand → AV}
variable {dst : Option Tmp} {ty : TypeId} {pos : String} {af : Array Edge} {gu : Option (Nat × Bool)} {x y : Operand} {r : Nat} {l : List UInt8} {t tx e : TypeId}
theorem RelO.bufs {g : G} {v : Value} (h : RelO g r (.buf l)) (hv : Rel g (.hs r 0) v) : ∃ a e b cap vs, v = .slice (some a) l.length cap ∧ (0 < cap → a = ⟨b, 0, none⟩) ∧ g.loc r = .row b 0 cap 1 l.length ∧ g.w.heap[b]? = some (.cells vs e (cap, cap + 1)) ∧ vs.size = cap ∧ l.length ≤ cap ∧ g.u b = 0 ∧ ∀ i c, l[i]? = some c → vs.getD i undef = .int .u8 (c.toNat : Int) := by
  cases h with
  | @buf _ e b cap vs h1 h2 h3 h4 h5 h6 =>
    cases hv with
    | hsNil a hl => rw [h1] at hl; cases hl
    | @hs _ b' off' cap' size' n' a hl ha =>
      rw [h1] at hl
      cases hl
      exact ⟨a, e, b, cap, vs, rfl, fun hc => by simpa using ha hc, h1, h2, h3, h4, h5, h6⟩
theorem ev_buflen (hx : ρ x = .hs r 0) (hr : σ.get r = some (.buf l)) (ht : P.underlying t = some (.slice tx)) : EvQ P ⟨dst, .call ⟨.builtin .len, #[x], #[t]⟩, ty, pos, af, gu⟩ ρ σ (.i l.length) :=
  ⟨fun c => by simp, fun g ρv h hs => by
    have h1 := h x (by simp [Op.operands, Call.operands])
    rw [hx] at h1
    obtain ⟨a, e, b, cap, vs, ev, _⟩ := (hs r _ hr).bufs h1
    refine ⟨.int .i64 l.length, ?_, .pv (.b rfl)⟩
    simp [execOp, resolve, invoke, builtin, Builtin.len_, ev, go_sem, underlying, ht, goInt]⟩
section
variable {n : Int} {kk : IntKind} {v v' : UInt8} {ss sb s1 s2 : Nat} {sz zero : Value}
theorem ev_bufidx (hx : ρ x = .hs r 0) (hy : ρ y = .pv (.b (.int kk n))) (hr : σ.get r = some (.buf l)) (ht : TyOk P t ss sb sz (.slice e)) (he : TyOk P e 1 s2 zero (.int .u8)) (hv : idx l n = some v) :
    EvQ P ⟨dst, .indexAddr t x y, ty, pos, af, gu⟩ ρ σ (.hp r n.toNat 0) :=
  ⟨fun c => by simp, fun g ρv h hs => by
    obtain ⟨h1, h2⟩ := ops2 (o := ⟨dst, .indexAddr t x y, ty, pos, af, gu⟩) (x := x) (y := y) rfl h
    rw [hx] at h1
    rw [hy] at h2
    have e2 := rel_b h2
    obtain ⟨hn0, hv⟩ := idx_spec hv
    have hlt : n.toNat < l.length := (List.getElem?_eq_some_iff.1 hv).1
    have hn2 : n < l.length := by omega
    obtain ⟨i, hi, hsz, hby, hzero⟩ := he.info
    obtain ⟨a, e', b, cap, vs, ev, ha, hl, _, _, hle, _, _⟩ := (hs r _ hr).bufs h1
    have ha := ha (by omega)
    subst ha
    refine ⟨.pointer (some ⟨b, (0 + n.toNat) * 1 + 0, none⟩), ?_, .hp hl hlt⟩
    simp [execOp, Instr.indexAt, e2, ev, go_sem, asIntOf, underlying, ht.u, sizeOf, typeInfo, hi, hsz, hn0, hn2, addr_add]⟩
theorem RelO.bufp {g : G} {i : Nat} {vp : Value} (h : RelO g r (.buf l)) (hp : Rel g (.hp r i 0) vp) : ∃ e b cap vs, vp = .pointer (some ⟨b, i, none⟩) ∧ g.loc r = .row b 0 cap 1 l.length ∧ g.w.heap[b]? = some (.cells vs e (cap, cap + 1)) ∧ vs.size = cap ∧ l.length ≤ cap ∧ g.u b = 0 ∧ ∀ i c, l[i]? = some c → vs.getD i undef = .int .u8 (c.toNat : Int) := by
  cases h with
  | @buf _ e b cap vs h1 h2 h3 h4 h5 h6 =>
    cases hp with
    | hp hl hi =>
      rw [h1] at hl
      cases hl
      exact ⟨e, b, cap, vs, by simp, h1, h2, h3, h4, h5, h6⟩
theorem ev_bufload (hx : ρ x = .hp r n.toNat 0) (hr : σ.get r = some (.buf l)) (ht : TyOk P t ss sb sz (.int .u8)) (hv : idx l n = some v) : EvQ P ⟨dst, .load t x, ty, pos, af, gu⟩ ρ σ (.pv (pU v)) :=
  ⟨fun c => by simp, fun g ρv h hs => by
    have h1 := h x (by simp [Op.operands])
    rw [hx] at h1
    obtain ⟨hn0, hv⟩ := idx_spec hv
    obtain ⟨e, b, cap, vs, e1, e2, e3, e4, e5, e6, e7⟩ := (hs r _ hr).bufp h1
    have hlt := (List.getElem?_eq_some_iff.1 hv).1
    refine ⟨_, run_load_op e1 (run_loadVar1 ht rfl (cell_of_heap e3 (by omega))), ?_⟩
    rw [e7 _ _ hv]
    exact .pv (.b rfl)⟩
theorem ev_buf2s (hx : ρ x = .hs r 0) (hr : σ.get r = some (.buf l)) (ht : TyOk P t ss sb sz (.slice e)) (he : TyOk P e s1 s2 zero (.int .u8)) {ss' sb' : Nat} {sz' : Value} (htx : TyOk P tx ss' sb' sz' .string) :
    EvQ P ⟨dst, .convert t tx x, ty, pos, af, gu⟩ ρ σ (.s l) :=
  ⟨fun c => by simp, fun g ρv hh hs => by
    have h1 := hh x (by simp [Op.operands])
    rw [hx] at h1
    obtain ⟨a, e', b, cap, vs, ev, ha, hl, hb, hcap, hle, _, hc⟩ := (hs r _ hr).bufs h1
    refine ⟨.string (strB l), ?_, .pv (.b rfl)⟩
    show Sem.run P (do let v ← convert t tx (ρv x); pure (Next.value v)) g.w = _
    suffices hs : Sem.run P (convert t tx (ρv x)) g.w = .ok (.string (strB l)) g.w by rw [Sem.run_bind, hs]; rfl
    rw [ev, run_convert_bytes_string g.w t tx e _ _ _ ht.u he.u htx.u]
    have hload := run_loadCells_list (P := P) g.w a (l.map fun c => Value.int .u8 (c.toNat : Int)) (fun i w hi => by
      simp only [List.getElem?_map, Option.map_eq_some_iff] at hi
      obtain ⟨c, hc1, rfl⟩ := hi
      have hlt := (List.getElem?_eq_some_iff.1 hc1).1
      rw [ha (by omega), addr_add, Nat.zero_add, cell_of_heap hb (by omega), hc i c hc1])
    rw [List.length_map] at hload
    have hr := run_bytesToString (P := P) g.w a l.length cap (l.map fun c => (c.toNat : Int)) (by rw [hload, List.map_map]; rfl)
    rw [hr, foldl_push_bytes]
    simp [strB, Function.comp_def]⟩
theorem opTo_bufstore (hx : fr.ev x = .hp r n.toNat 0) (hr : σ.get r = some (.buf l)) (hy : (fr.ev y).weak = .pv (pU v')) (ht : TyOk E.P t 1 s2 zero (.int .u8)) (hv : idx l n = some v) :
    OpTo E ⟨none, .store t x y, ty, pos, af, gu⟩ fr σ fr (σ.upd r (.buf (l.set n.toNat v'))) :=
  ⟨fun g a K Q hst hK => by
    refine ⟨fun _ _ => trivial, ?_⟩
    rw [Oper.semAt_plain _ _ _ (fun c => by simp)]
    have h1 := hst.ev x
    rw [hx] at h1
    obtain ⟨hn0, hv⟩ := idx_spec hv
    obtain ⟨e, b, cap, cur, e1, e2, e3, e4, e5, e6, e7⟩ := (hst.so.obj r _ hr).bufp h1
    have hlt := (List.getElem?_eq_some_iff.1 hv).1
    have hvy : a.eval y = .int .u8 (v'.toNat : Int) := by
      have h2 := rel_weak (hst.ev y)
      rw [hy] at h2
      exact rel_b h2
    have hcell : g.w.cell? ⟨b, n.toNat, none⟩ = some (cur.getD n.toNat undef) := cell_of_heap e3 (by omega)
    have hfro : g.w.frozen? ⟨b, n.toNat, none⟩ = false := by
      simp only [World.frozen?, e3, Bool.and_eq_false_iff, decide_eq_false_iff_not]
      left; omega
    have hst1 : (store ((⟨b, n.toNat, none⟩ : Addr).add 0) (.int .u8 (v'.toNat : Int))).run E.P g.w = .ok () (g.w.setRow b (cur.setIfInBounds n.toNat (.int .u8 (v'.toNat : Int)))) := by
      rw [addr_add, Nat.add_zero, run_store E.P g.w _ _ _ rfl, hcell]
      simp [hfro, setCell_eq_setRow g.w b n.toNat cur e (cap, cap + 1) _ e3]
    have hrun : (execOp a.eval ⟨none, .store t x y, ty, pos, af, gu⟩).run E.P g.w = .ok .skip (g.w.setRow b (cur.setIfInBounds n.toNat (.int .u8 (v'.toNat : Int)))) := by
      show Sem.run E.P (do Instr.storeAt t (a.eval x) (a.eval y); pure Next.skip) g.w = _
      rw [e1, hvy]
      simp only [Instr.storeAt, Instr.sureAddr, storeVar, Sem.run_bind, Sem.run_pure, Result.andThen_ok, ht.sizeOf]
      rw [if_neg (by simp [Value.cells])]
      simp only [Value.cells, Sem.run_bind, Sem.run_pure, Result.andThen_ok, storeCells, hst1]
    rw [hrun, Oper.uponIn_skip]
    generalize hnew : cur.setIfInBounds n.toNat (.int .u8 (v'.toNat : Int)) = new
    have hnsz : new.size = cur.size := by rw [← hnew]; simp
    have hheap : ∀ k, k ≠ b → (g.w.setRow b new).heap[k]? = g.w.heap[k]? := fun k hk => by
      simp only [World.setRow, Array.getElem?_modify]; rw [if_neg (Ne.symm hk)]
    have hnewb := setRow_heap g.w b cur new e _ e3
    have hsz : (g.w.setRow b new).heap.size = g.w.heap.size := by simp [World.setRow]
    have hxx : Ext g.w g.u (g.w.setRow b new) g.u := ⟨Nat.le_of_eq hsz.symm, fun _ _ => Nat.le_refl _, fun k i hk hi => by
      by_cases hkb : k = b
      · subst hkb; omega
      · simp only [World.cell?]; rw [hheap k hkb], fun r' hr' => (hheap r' (by rintro rfl; rw [e3] at hr'; cases hr')).trans hr'⟩
    refine hK ⟨g.w.setRow b new, g.u, g.loc⟩ _ (St.put_none (hst.objset hr hxx rfl rfl rfl rfl (fun k hk hne => ⟨hheap k (by rintro rfl; exact hne (by rw [e2]; rfl)), rfl⟩) (wf_same hst.so.wf (Nat.le_of_eq hsz.symm) _) ?_ (fun _ => rfl)))
    refine .buf (by rw [List.length_set]; exact e2) hnewb (by rw [hnsz, e4]) (by simpa using e5) e6 fun i c hi => ?_
    rw [← hnew, Array.getD_eq_getD_getElem?, Array.getElem?_setIfInBounds]
    by_cases hin : n.toNat = i
    · subst hin
      rw [List.getElem?_set_self hlt] at hi
      cases hi
      rw [if_pos rfl, if_pos (by omega)]; rfl
    · rw [if_neg hin]
      rw [List.getElem?_set_ne hin] at hi
      have := e7 i c hi
      rw [Array.getD_eq_getD_getElem?] at this
      exact this⟩
end
/-- []byte(s), to be written -/
theorem opTo_s2buf {k : Nat} {t t' e : TypeId} {x : Operand} {s : Str} {ss sb ss' sb' s1 s2 : Nat} {sz sz' z : Value} (r : Nat) (hN : Nat.ble (k + 1) E.N = true) (hfr : fr.has r = false) (hsr : σ.has r = false) (hx : fr.ev x = .s s) (ht : TyOk E.P t ss sb sz .string) (ht' : TyOk E.P t' ss' sb' sz' (.slice e)) (he : TyOk E.P e s1 s2 z (.int .u8)) :
    OpTo E ⟨some k, .convert t t' x, ty, pos, af, gu⟩ fr σ ((k, .hs r 0) :: fr) ((r, .buf s) :: σ) :=
  ⟨fun g a K Q hst hK => by
    refine ⟨fun _ _ => trivial, ?_⟩
    rw [Oper.semAt_plain _ _ _ (fun c => by simp)]
    have h1 := hst.ev x
    rw [hx] at h1
    have e1 := rel_b h1
    generalize hcap : (Question.appendCap s.length 0 e).cut (g.w.tape g.w.drawn (.appendCap s.length 0 e)) = cap
    have hge : s.length ≤ cap := by rw [← hcap]; simp [Question.cut]
    generalize hcells : ((strB s).data.map (fun b => Value.int .u8 (b.toNat : Int)) ++ Array.replicate (cap - s.length) (Value.int .u8 0)) = cells
    have hsz : cells.size = cap := by rw [← hcells]; simp [strB]; omega
    have hget : ∀ i c, s[i]? = some c → cells.getD i undef = .int .u8 (c.toNat : Int) := by
      intro i c hi
      have hlt := (List.getElem?_eq_some_iff.1 hi).1
      rw [← hcells, Array.getD_eq_getD_getElem?, Array.getElem?_append_left (by simpa [strB] using hlt)]
      simp [strB, hi]
    have hrun : (execOp a.eval ⟨some k, .convert t t' x, ty, pos, af, gu⟩).run E.P g.w = .ok (.value (.slice (some ⟨g.w.heap.size, 0, none⟩) s.length cap)) ((g.w.drew.alloc (.cells cells e)).freeze ⟨g.w.heap.size, cap, none⟩ 1) := by
      show Sem.run E.P (do let v ← convert t t' (a.eval x); pure (Next.value v)) g.w = _
      rw [e1]
      have hsh : (g.w.drew.alloc (.cells cells e)).shape? g.w.heap.size = some (e, cap) := by
        simp only [World.shape?]
        rw [show (g.w.drew.alloc (.cells cells e)).heap[g.w.heap.size]? = some (.cells cells e (0, 0)) from heap_alloc_new g.w.drew _]
        simp [hsz]
      simp only [convert, underlying, program, Sem.run_bind, Sem.run, ht.u, ht'.u, he.u, Result.andThen_ok, Sem.run_pure, Conv.stringToBytes, choose, Question.forced, Bool.false_eq_true, if_false, strB_size, hcap, hcells, newRow, newObj, markStringish, shape, freeze]
      show Result.andThen (Result.andThen (Sem.run E.P (match (g.w.drew.alloc (.cells cells e)).shape? g.w.heap.size with | some (_, n) => Sem.freeze ⟨g.w.heap.size, n, none⟩ 1 (Sem.pure ()) | _ => pure ()) (g.w.drew.alloc (.cells cells e))) fun _ w' => .ok (Value.slice (some ⟨g.w.heap.size, 0, none⟩) s.length cap) w') (fun v w' => .ok (Next.value v) w') = _
      rw [hsh]
      rfl
    rw [hrun, Oper.uponIn_value]
    generalize hw : (g.w.drew.alloc (.cells cells e)).freeze ⟨g.w.heap.size, cap, none⟩ 1 = w'
    have hblk : w'.heap[g.w.heap.size]? = some (.cells cells e (cap, cap + 1)) := by
      subst hw
      simp only [World.freeze, Nat.one_ne_zero, if_false, Array.getElem?_modify, if_true]
      rw [show (g.w.drew.alloc (.cells cells e)).heap[g.w.heap.size]? = some (.cells cells e (0, 0)) from heap_alloc_new g.w.drew _]
      rfl
    have hother : ∀ q, q < g.w.heap.size → w'.heap[q]? = g.w.heap[q]? := by
      intro q hq
      subst hw
      simp only [World.freeze, Nat.one_ne_zero, if_false, Array.getElem?_modify]
      rw [if_neg (by omega)]
      exact Below.heap_alloc g.w.drew _ _ hq
    have hws : w'.heap.size = g.w.heap.size + 1 := by subst hw; simp [World.freeze]
    have hold : Old (fun _ => False) g ⟨w', fun q => if q = g.w.heap.size then 0 else g.u q, fun q => if q = r then .row g.w.heap.size 0 cap 1 s.length else g.loc q⟩ := by
      refine ⟨by subst hw; first | (simp [World.freeze]; done) | (simp [World.freeze]; rfl), by subst hw; first | (simp [World.freeze]; done) | (simp [World.freeze]; rfl), by subst hw; first | (simp [World.freeze]; done) | (simp [World.freeze]; rfl), ⟨by show _ ≤ w'.heap.size; omega, fun q hq => ?_, fun q i hq hi => ?_, ?_⟩, fun q hq _ => ⟨hother q hq, if_neg (by omega)⟩⟩
      · show g.u q ≤ if q = g.w.heap.size then 0 else g.u q
        rw [if_neg (by omega)]; exact Nat.le_refl _
      · simp only [World.cell?]; rw [hother q hq]
      · intro r' hr'; exact (hother r' (blk_lt hr')).trans hr'
    have hwf : Wf ⟨w', fun q => if q = g.w.heap.size then 0 else g.u q, fun q => if q = r then .row g.w.heap.size 0 cap 1 s.length else g.loc q⟩ := by
      intro q hq
      have hq : g.w.heap.size + 1 ≤ q := by rw [← hws]; exact hq
      show (if q = g.w.heap.size then 0 else g.u q) = 0
      rw [if_neg (by omega)]
      exact hst.so.wf q (by omega)
    have hst' := hst.addObj r (ob := .buf s) hfr hsr hold hwf (fun q hq => if_neg hq) (.buf (if_pos rfl) hblk hsz hge (if_pos rfl) hget) (fun b hb => by
      simp only [AO.own, if_true, Loc.block] at hb
      cases hb; exact Nat.le_refl _)
    exact hK _ _ (hst'.put (Nat.le_of_ble_eq_true hN) (.hs (if_pos rfl) (fun _ => by simp)))⟩
end Go.Proofs.YtpclhpncmlbccaaGreatDoor

/- The abstract calculus: rows of zeros (append of a make). No program is named. -/
namespace Go.Proofs.YtpclhpncmlbccaaGreatDoor
open Go.RowKit Go.Lib

variable {E : Env} {fr : Fr} {σ : Sto} {K : Post} {P : Program} {ρ : Operand → AV}
variable {dst : Option Tmp} {ty : TypeId} {pos : String} {af : Array Edge} {gu : Option (Nat × Bool)}
/-- n zeros, at least one, within a bound -/
def zrep {α : Type} (lim : Nat) (n : Int) (z : α) : Option (List α) := if 0 < n ∧ n.toNat ≤ lim then some (List.replicate n.toNat z) else none
section
variable {α : Type} {F : α → List PV} {r' : List α} {r size bytes sb ss s1 b1 k lim : Nat} {e t tn : TypeId} {zero sz z1 : Value} {d d1 : TypeDesc} {x y : Operand} {n : Int} {kn : IntKind} {z : α}
theorem ev_capnil (hx : ρ x = .pv (.sl (some true) [])) (ht : P.underlying t = some (.slice e)) : EvQ P ⟨dst, .call ⟨.builtin .cap, #[x], #[t]⟩, ty, pos, af, gu⟩ ρ σ (.i 0) :=
  ⟨fun c => by simp, fun g ρv h hs => by
    have h1 := h x (by simp [Op.operands, Call.operands])
    rw [hx] at h1
    have e1 := rel_nil h1
    refine ⟨.int .i64 0, ?_, .pv (.b rfl)⟩
    simp [execOp, resolve, invoke, builtin, Builtin.cap_, e1, go_sem, underlying, ht, goInt]⟩
theorem ev_lennil (hx : ρ x = .pv (.sl (some true) [])) (ht : P.underlying t = some (.slice e)) : EvQ P ⟨dst, .call ⟨.builtin .len, #[x], #[t]⟩, ty, pos, af, gu⟩ ρ σ (.i 0) :=
  ⟨fun c => by simp, fun g ρv h hs => by
    have h1 := h x (by simp [Op.operands, Call.operands])
    rw [hx] at h1
    have e1 := rel_nil h1
    refine ⟨.int .i64 0, ?_, .pv (.b rfl)⟩
    simp [execOp, resolve, invoke, builtin, Builtin.len_, e1, go_sem, underlying, ht, goInt]⟩
theorem ev_slnil {k1 : IntKind} (hx : ρ x = .pv (.sl (some true) [])) (hy : ρ y = .pv (.b (.int k1 0))) (ht : TyOk P t ss sb sz (.slice e)) (he : TyOk P e size bytes zero d) : EvQ P ⟨dst, .slice t x none (some y) none, ty, pos, af, gu⟩ ρ σ (.pv (.sl (some true) [])) :=
  ⟨fun c => by simp, fun g ρv hh hs => by
    have h1 := hh x (by simp [Op.operands])
    have h2 := hh y (by simp [Op.operands])
    rw [hx] at h1
    rw [hy] at h2
    have e1 := rel_nil h1
    have e2 := rel_b h2
    refine ⟨.slice none 0 0, ?_, by rw [← e1]; exact h1⟩
    show Sem.run P (do let v ← Instr.sliceAt t (ρv x) (Option.map ρv none) ((some y).map ρv) none; pure (Next.value v)) g.w = _
    have hb := run_sliceBounds (P := P) (w := g.w) (len := 0) (cap := 0) (lo := Option.map ρv none) (hi := (some y).map ρv) (a := 0) (b := 0) (Nat.le_refl _) (.inl ⟨rfl, rfl⟩) (.inr ⟨k1, by simp [e2]⟩) (Int.le_refl _) (Int.le_refl _) (Int.le_refl _)
    rw [e1]
    simp only [Instr.sliceAt, underlying, program, Sem.run_bind, Sem.run, ht.u, Result.andThen_ok, Sem.run_pure, Instr.slice, hb, he.sizeOf]
    rfl⟩
theorem opTo_appendn (r : Nat) (hN : Nat.ble (k + 1) E.N = true) (hfr : fr.has r = false) (hsr : σ.has r = false) (hx : fr.ev x = .pv (.sl (some true) [])) (hy : fr.ev y = .i n) (ht : TyOk E.P t ss sb sz (.slice e)) (htn : TyOk E.P tn s1 b1 z1 (.int kn)) (he : TyOk E.P e size bytes zero d)
    (hzz : (Nat.beq zero.cells.size size && Nat.ble 1 size && zero.cells.toList.all cellV) = true) (hz : zero.cells.toList.map constPV = F z) (hlim : (Nat.ble (lim * bytes) 140737488355328 && Nat.ble lim 140737488355328) = true) (h : zrep lim n z = some r') :
    OpTo E ⟨some k, .call ⟨.builtin .append, #[x, y], #[t, tn]⟩, ty, pos, af, gu⟩ fr σ ((k, .hs r 0) :: fr) ((r, .row e true size (r'.map F)) :: σ) :=
  ⟨fun g a K Q hst hK => by
    simp only [Bool.and_eq_true] at hzz hlim
    have hz1 := Nat.eq_of_beq_eq_true hzz.1.1
    have hz2 := Nat.le_of_ble_eq_true hzz.1.2
    have hz3 := hzz.2
    rw [List.all_eq_true] at hz3
    have hl1 := Nat.le_of_ble_eq_true hlim.1
    have hl2 := Nat.le_of_ble_eq_true hlim.2
    unfold zrep at h
    split at h
    · rename_i hc
      obtain ⟨hn0, hnl⟩ := hc
      cases h
      refine ⟨fun _ _ => trivial, ?_⟩
      rw [Oper.semAt_plain _ _ _ (fun c => by simp)]
      have h1 := hst.ev x
      rw [hx] at h1
      have e1 := rel_nil h1
      have h2 := hst.ev y
      rw [hy] at h2
      have e2 := rel_b h2
      obtain ⟨m, rfl⟩ : ∃ m : Nat, n = (m : Int) := ⟨n.toNat, by omega⟩
      simp only [Int.toNat_natCast] at hnl ⊢
      have hm0 : 0 < m := by omega
      obtain ⟨i, hi, hsz, hby, hzero⟩ := he.info
      have hbytes : m * i.bytes ≤ 281474976710656 := by
        rw [hby]
        have : m * bytes ≤ lim * bytes := Nat.mul_le_mul_right _ hnl
        omega
      have hr := run_append_nil_zeros (P := E.P) g.w t tn ty e i zero .i64 kn ht.u htn.u hi hzero m hm0 (by omega) (by omega) hbytes
      rw [run_append_op (x := x) (y := y) (w := g.w) (by rw [e1, e2]; exact hr), Oper.uponIn_value]
      have hge := grownCap_ge g.w m 0 e
      have hmax := grownCap_le_maxLen g.w m 0 e (by unfold maxLen; omega)
      generalize hcap : grownCap g.w m 0 e = cap at hge hmax
      generalize hcells : Builtin.zeroCells zero.cells m ++ Builtin.zeroCells zero.cells (cap - m) = cells
      have hcsz : cells.size = cap * size := by
        rw [← hcells]
        simp only [Array.size_append, size_zeroCells, hz1, ← Nat.add_mul]
        congr 1; omega
      have hget : ∀ q, q < m * size → cells.toList[q]? = zero.cells.toList[q % size]? := by
        intro q hq
        rw [← hcells, Array.toList_append, List.getElem?_append_left (by rw [Array.length_toList, size_zeroCells, hz1]; exact hq), zeroCells_get (by rw [hz1]; exact hq), hz1]
      let gd : G := ⟨g.w.drew, g.u, g.loc⟩
      have hFz : (F z).length = size := by rw [← hz, List.length_map, Array.length_toList, hz1]
      have hold := old_alloc gd cells e 0 r (.row g.w.heap.size 0 cap size m)
      have hold' : Old (fun _ => False) g (gd.alloc cells e 0 r (.row g.w.heap.size 0 cap size m)) := ⟨hold.os, hold.tape, hold.output, ⟨hold.ext.1, hold.ext.2, hold.ext.3, hold.ext.4⟩, hold.block⟩
      have hwf := wf_alloc (g := gd) hst.so.wf cells e 0 r (.row g.w.heap.size 0 cap size m)
      have hblk : (gd.alloc cells e 0 r (.row g.w.heap.size 0 cap size m)).w.heap[g.w.heap.size]? = some (.cells cells e (0, 0)) := heap_alloc_new g.w.drew _
      have hloc : (gd.alloc cells e 0 r (.row g.w.heap.size 0 cap size m)).loc r = .row g.w.heap.size 0 cap size m := if_pos rfl
      have hst' := hst.addObj r (ob := .row e true size ((List.replicate m z).map F)) hfr hsr hold' hwf (fun q hq => if_neg hq) (.row (off := 0) (by rw [hloc]; simp) hblk (by rw [Nat.zero_add]; exact hcsz) hmax (by simpa using hge) (fun w hw => by
          obtain ⟨w', hw', rfl⟩ := List.mem_map.1 hw
          rw [List.mem_replicate] at hw'
          rw [hw'.2, hFz]) (by show (if g.w.heap.size = g.w.heap.size then 0 else _) ≤ _; simp) (fun _ => if_pos rfl) (fun i' j w c hi' hj => by
          simp only [List.getElem?_map, Option.map_eq_some_iff] at hi'
          obtain ⟨w', hw', rfl⟩ := hi'
          have him : i' < m := by have := (List.getElem?_eq_some_iff.1 hw').1; simpa using this
          have : w' = z := by have := List.mem_of_getElem? hw'; rw [List.mem_replicate] at this; exact this.2
          subst this
          have hjs : j < size := by rw [← hFz]; exact (List.getElem?_eq_some_iff.1 hj).1
          have hq : i' * size + j < m * size := by
            have : (i' + 1) * size ≤ m * size := Nat.mul_le_mul_right _ (by omega)
            rw [Nat.add_mul] at this; omega
          rw [← hz, List.getElem?_map, Option.map_eq_some_iff] at hj
          obtain ⟨u, hu, rfl⟩ := hj
          have h5 := hget (i' * size + j) hq
          rw [Nat.mul_comm i', Nat.mul_add_mod, Nat.mod_eq_of_lt hjs, hu, Nat.mul_comm size] at h5
          rw [Nat.zero_add, Array.getD_eq_getD_getElem?, ← Array.getElem?_toList, h5]
          exact relP_constPV _ _ u (hz3 u (List.mem_of_getElem? hu)))) (fun b hb => by
        simp only [AO.own, hloc, Loc.block] at hb
        cases hb; exact Nat.le_refl _)
      exact hK _ _ (hst'.put (Nat.le_of_ble_eq_true hN) (.hs hloc (fun _ => by simp)))
    · cases h⟩
end
end Go.Proofs.YtpclhpncmlbccaaGreatDoor

/- The abstract calculus: regions that draw their order, where one of the first operations may come behind the next one. No program is named. -/
namespace Go.Proofs.YtpclhpncmlbccaaGreatDoor
open Go.RowKit Go.Lib

variable {E : Env} {fr : Fr} {σ : Sto} {K : Post}
end Go.Proofs.YtpclhpncmlbccaaGreatDoor

/- The calculus: the steps of a walk that are chosen or told, in short forms. No program is named. -/
namespace Go.Proofs.YtpclhpncmlbccaaGreatDoor
open Go.RowKit

mutual
/-- does it say whether a slice is nil? -/
def AV.strong : AV → Bool
  | .pv (.sl (some _) _) => true
  | .agg cs => AV.strongL cs
  | .tup cs => AV.strongL cs
  | _ => false
def AV.strongL : List AV → Bool
  | [] => false
  | c :: cs => c.strong || AV.strongL cs
end
def Fr.sel (fr : Fr) (p : Nat × AV) : Nat × AV := (p.1, bif p.2.strong then fr.get p.1 else (fr.get p.1).weak)
theorem frw {fr : Fr} : ∀ {fr' : Fr}, fr'.map fr.sel = fr' → FrLe fr fr'
  | [], _ => frLe_nil
  | (k, a) :: r, h => by
    simp only [List.map_cons, List.cons.injEq] at h
    obtain ⟨h1, h2⟩ := h
    have h3 : (bif a.strong then fr.get k else (fr.get k).weak) = a := congrArg Prod.snd h1
    cases hs : a.strong with
    | true => rw [hs] at h3; exact frLe_cons h3 (frw h2)
    | false => rw [hs] at h3; exact frLe_weak h3 (frw h2)
def Sto.sel (σ : Sto) (p : Nat × AO) : Option AO := match p.2 with
  | .cells cs => bif AV.strongL cs then σ.get p.1 else (match σ.get p.1 with
    | some (.cells ds) => some (.cells (AV.weakL ds))
    | _ => none)
  | _ => σ.get p.1
theorem stw {σ : Sto} : ∀ {σ' : Sto}, σ'.map σ.sel = σ'.map (fun p => some p.2) → StoLe σ σ'
  | [], _ => stoLe_nil
  | (k, a) :: r, h => by
    simp only [List.map_cons, List.cons.injEq] at h
    obtain ⟨h1, h2⟩ := h
    unfold Sto.sel at h1
    split at h1
    · rename_i cs hc
      dsimp only at hc
      subst hc
      cases hs : AV.strongL cs with
      | true => rw [hs] at h1; exact stoLe_cons h1 (stw h2)
      | false =>
        rw [hs] at h1
        simp only [cond_false] at h1
        split at h1
        · rename_i ds hd
          simp only [Option.some.injEq, AO.cells.injEq] at h1
          exact stoLe_weak hd h1 (stw h2)
        · cases h1
    · exact stoLe_cons h1 (stw h2)
theorem kpw {fr : Fr} : ∀ {l : Fr}, l.map (fun p => fr.get p.1) = l.map (·.2) → Keep fr l
  | [], _ => .nil
  | (k, a) :: r, h => by
    simp only [List.map_cons, List.cons.injEq] at h
    exact .cons h.1 (kpw h.2)
theorem hdw {σ : Sto} {base : Nat} {T : Array Value} : ∀ {l : Fr}, l.map (fun p => σ.get (base + p.1)) = l.map (fun p => some (.hold p.2 (T.getD p.1 undef))) → Held σ base T l
  | [], _ => .nil
  | (k, a) :: r, h => by
    simp only [List.map_cons, List.cons.injEq] at h
    exact .cons h.1 (hdw h.2)

section
variable {E : Env} {fr : Fr} {σ : Sto} {k : KS} {ops : Array Oper} {l : List Oper} {R : Type} {r : R} {A B : Option R} {t : Bool}
theorem hO (h : (GS.ops ops l fr σ k).holds E) : AWPL E ops l fr σ (k.post E) := h
theorem hC {c : Code} (h : (GS.code c fr σ k).holds E) : AWP E c fr σ (k.post E) := h
theorem hB {K : Post} {c : Code} (hK : Mono K) (h : (GS.code c fr σ (.base K hK)).holds E) : AWP E c fr σ K := h
theorem hA {e : Exit} (h : (GS.at e fr σ k).holds E) : k.post E e fr σ := h
theorem St.relit {g : G} {a : Act} (h : St E g a fr σ) {d : Nat} (hd : fr.get d = .pv (.b (.bool t))) : St E g a ((d, .pv (.b (.bool t))) :: fr) σ := h.reslot (by rw [← hd]; exact h.fr d)
/-- a condition that is known -/
theorem kn (d : Nat) {b : Bool} (hc : t = b) (hd : fr.get d = .pv (.b (.bool t))) (h : (GS.ops ops l ((d, .pv (.b (.bool b))) :: fr) σ k).holds E) : (GS.ops ops l fr σ k).holds E := by
  subst hc
  exact ⟨fun g a hs => h.go g a (hs.relit hd)⟩
/-- both ways -/
theorem bs (d : Nat) (hr : (bif t then A else B) = some r) (hd : fr.get d = .pv (.b (.bool t))) (hT : t = true → A = some r → (GS.ops ops l ((d, .pv (.b (.bool true))) :: fr) σ k).holds E) (hF : t = false → B = some r → (GS.ops ops l ((d, .pv (.b (.bool false))) :: fr) σ k).holds E) : (GS.ops ops l fr σ k).holds E := by
  cases t with
  | true => exact kn d rfl hd (hT rfl hr)
  | false => exact kn d rfl hd (hF rfl hr)
theorem ac (d : Nat) {x y : Code} (hr : (bif t then A else B) = some r) (hd : fr.get d = .pv (.b (.bool t))) (hT : t = true → A = some r → (GS.code x ((d, .pv (.b (.bool true))) :: fr) σ k).holds E) (hF : t = false → B = some r → (GS.code y ((d, .pv (.b (.bool false))) :: fr) σ k).holds E) : (GS.code (.cond (.tmp d) x y) fr σ k).holds E :=
  awp_cond (t := t) hd (fun h => by subst h; exact ⟨fun g a hs => (hT rfl hr).go g a (hs.relit hd)⟩) (fun h => by subst h; exact ⟨fun g a hs => (hF rfl hr).go g a (hs.relit hd)⟩)
/-- several ways lead to the rest -/
theorem jb {J : Type} {X : Option J} {f : J → Option R} {x y : Code} (hr : X.bind f = some r) (frs : J → Fr) (stos : J → Sto) (hx : ∀ j, X = some j → (GS.code x fr σ (.jo frs stos (fun z => j = z) k)).holds E) (hy : ∀ j, f j = some r → (GS.code y (frs j) (stos j) k).holds E) : (GS.code (.seq x y) fr σ k).holds E := by
  obtain ⟨j, h1, h2⟩ := bind_some hr
  exact awp_join frs stos (fun z => j = z) (hx j h1) (fun _ hz => hz ▸ hy j h2)
theorem jk {J : Type} {x y : Code} (frs : J → Fr) (stos : J → Sto) (M : J → Prop) (hx : (GS.code x fr σ (.jo frs stos M k)).holds E) (hy : ∀ j, M j → (GS.code y (frs j) (stos j) k).holds E) : (GS.code (.seq x y) fr σ k).holds E :=
  awp_join frs stos M hx hy
theorem jn {J : Type} {frs : J → Fr} {stos : J → Sto} {M : J → Prop} (j : J) (hm : M j) (hf : (frs j).map fr.sel = frs j) (hs : (stos j).map σ.sel = (stos j).map (fun p => some p.2)) : (GS.at .normal fr σ (.jo frs stos M k)).holds E := ⟨j, hm, frw hf, stw hs⟩
theorem ct {J : Type} {X : Option J} {f : J → Option R} {o : Oper} (hr : X.bind f = some r) (frs : J → Fr) (stos : J → Sto)
    (hx : ∀ j, X = some j → (∀ fr' σ', (frs j).map fr'.sel = frs j → (stos j).map σ'.sel = (stos j).map (fun p => some p.2) → AWPL E ops l fr' σ' (k.post E)) → (GS.ops ops (o :: l) fr σ k).holds E) (hy : ∀ j, f j = some r → (GS.ops ops l (frs j) (stos j) k).holds E) : (GS.ops ops (o :: l) fr σ k).holds E := by
  obtain ⟨j, h1, h2⟩ := bind_some hr
  exact hx j h1 (fun fr' σ' hf hs => awpl_le (frw hf) (stw hs) (hy j h2))
/-- a loop -/
def isN : Exit → Bool
  | .normal => true
  | _ => false
theorem al {A B : Type} {c : Code} {body : A → Option (Step A B)} {s : A} {f : B → Option R} (hr : (iter body s).bind f = some r) (frs : A → Fr) (stos : A → Sto) (e0 : B → Exit) (fr0 : B → Fr) (σ0 : B → Sto) (hf : (frs s).map fr.sel = frs s) (hs : (stos s).map σ.sel = (stos s).map (fun p => some p.2))
    (h : ∀ s x, body s = some x → (GS.code c (frs s) (stos s) (.base (RoundK frs stos (fun b => At (e0 b) (fr0 b) (σ0 b)) x) mono_round)).holds E)
    (hK : ∀ b, f b = some r → (GS.at (e0 b) (fr0 b) (σ0 b) k).holds E) : (GS.code (.loop c) fr σ k).holds E := by
  obtain ⟨b, h1, h2⟩ := bind_some hr
  exact awp_loop body frs stos (fun b => At (e0 b) (fr0 b) (σ0 b)) (fun s x hx => h s x hx) s h1 (frw hf) (stw hs) (fun e fr σ ⟨he, hf, hs⟩ => by
    subst he
    exact k.mono E _ _ _ _ _ hf hs (hK b h2))
theorem al1 {A B : Type} {c : Code} {body : A → Option (Step A B)} {s : A} {f : B → Option R} (hr : (iter body s).bind f = some r) (frs : A → Fr) (stos : A → Sto) (e0 : Exit) (fr0 : B → Fr) (σ0 : B → Sto) (hf : (frs s).map fr.sel = frs s) (hs : (stos s).map σ.sel = (stos s).map (fun p => some p.2))
    (h : ∀ s x, body s = some x → (GS.code c (frs s) (stos s) (.base (RoundK frs stos (fun b => At ((fun _ => e0) b) (fr0 b) (σ0 b)) x) mono_round)).holds E)
    (hK : ∀ b, f b = some r → (GS.at e0 (fr0 b) (σ0 b) k).holds E) : (GS.code (.loop c) fr σ k).holds E := al hr frs stos (fun _ => e0) fr0 σ0 hf hs h hK
theorem al2 {A B C : Type} {c : Code} {body : A → Option (Step A (B ⊕ C))} {s : A} {f : B → Option R} {g : C → Option R} (hr : (iter body s).bind (Sum.elim f g) = some r) (frs : A → Fr) (stos : A → Sto) (e1 : Exit) (fr1 : B → Fr) (σ1 : B → Sto) (e2 : Exit) (fr2 : C → Fr) (σ2 : C → Sto) (hf : (frs s).map fr.sel = frs s) (hs : (stos s).map σ.sel = (stos s).map (fun p => some p.2))
    (h : ∀ s x, body s = some x → (GS.code c (frs s) (stos s) (.base (RoundK frs stos (fun b => At (Sum.elim (fun _ => e1) (fun _ => e2) b) (Sum.elim fr1 fr2 b) (Sum.elim σ1 σ2 b)) x) mono_round)).holds E)
    (hK1 : ∀ b, f b = some r → (GS.at e1 (fr1 b) (σ1 b) k).holds E) (hK2 : ∀ b, g b = some r → (GS.at e2 (fr2 b) (σ2 b) k).holds E) : (GS.code (.loop c) fr σ k).holds E :=
  al hr frs stos _ _ _ hf hs h (fun b hb => by cases b with | inl b => exact hK1 b hb | inr b => exact hK2 b hb)
theorem atc {A B : Type} {frs : A → Fr} {stos : A → Sto} {e0 : B → Exit} {fr0 : B → Fr} {σ0 : B → Sto} {s : A} {hm : Mono (RoundK frs stos (fun b => At (e0 b) (fr0 b) (σ0 b)) (.cont s))} (hf : (frs s).map fr.sel = frs s) (hs : (stos s).map σ.sel = (stos s).map (fun p => some p.2)) : (GS.at .normal fr σ (.base (RoundK frs stos (fun b => At (e0 b) (fr0 b) (σ0 b)) (.cont s)) hm)).holds E := ⟨rfl, frw hf, stw hs⟩
theorem ato {A B : Type} {e : Exit} {frs : A → Fr} {stos : A → Sto} {e0 : B → Exit} {fr0 : B → Fr} {σ0 : B → Sto} {b : B} {hm : Mono (RoundK frs stos (fun b => At (e0 b) (fr0 b) (σ0 b)) (.out b))} (he : e = e0 b) (hn : isN e = false) (hf : (fr0 b).map fr.sel = fr0 b) (hs : (σ0 b).map σ.sel = (σ0 b).map (fun p => some p.2)) : (GS.at e fr σ (.base (RoundK frs stos (fun b => At (e0 b) (fr0 b) (σ0 b)) (.out b)) hm)).holds E :=
  ⟨fun h => (by rw [h] at hn; cases hn), he, frw hf, stw hs⟩
/-- results -/
def resOf (T : Tab) (fr : Fr) (σ : Sto) : List ResultVar → Option (List AV)
  | [] => some []
  | .tmp t :: r => (match (fr.get t).force, resOf T fr σ r with | some c, some cs => some (c :: cs) | _, _ => none)
  | .cell a t :: r => (match fr.get a, T.get t with
    | .ptr o 0, some row => (match σ.get o with
      | some (.cells ds) => bif dAgg row.desc then (bif Nat.ble row.size ds.length then (match forceL (ds.take row.size), resOf T fr σ r with | some l, some cs => some (.agg l :: cs) | _, _ => none) else none)
        else (match ds[0]?, resOf T fr σ r with | some c, some cs => some (c :: cs) | _, _ => none)
      | _ => none)
    | _, _ => none)
theorem resOf_ok {P : Program} {T : Tab} (hT : TabOk P T) : ∀ {l : List ResultVar} {cs : List AV}, resOf T fr σ l = some cs → ResL P fr σ l cs
  | [], _, h => by simp [resOf] at h; subst h; exact .nil
  | .tmp t :: l, _, h => by
    unfold resOf at h
    split at h
    · rename_i h1 h2; cases h; exact .cons (res_tmp (AV.force_eq h1)) (resOf_ok hT h2)
    · cases h
  | .cell a t :: l, _, h => by
    unfold resOf at h
    split at h
    · rename_i o row ha hr
      have ht := (hT _ _ hr).ty
      split at h
      · rename_i ds ho
        cases hd : dAgg row.desc with
        | true =>
          rw [hd] at h
          simp only [cond_true] at h
          cases hn : Nat.ble row.size ds.length with
          | false => rw [hn] at h; cases h
          | true =>
            rw [hn] at h
            simp only [cond_true] at h
            split at h
            · rename_i h1 h2; cases h; rw [← forceL_eq h1]; exact .cons (res_cellN ha ho ht hd hn) (resOf_ok hT h2)
            · cases h
        | false =>
          rw [hd] at h
          simp only [cond_false] at h
          split at h
          · rename_i h1 h2; cases h; exact .cons (res_cell ha ho ht hd h1) (resOf_ok hT h2)
          · cases h
      · cases h
    · cases h
theorem kr {P : Program} {T : Tab} (hT : TabOk P T) {e : Exit} {fn : Func} {cs : List AV} {r : AV} {hm : Mono (Kret P fn r)} (he : isN e = true ∨ e = .ret) (h : resOf T fr σ fn.results.toList = some cs) (hr : retAV cs = r) : (GS.at e fr σ (.base (Kret P fn r) hm)).holds E :=
  ⟨by cases e <;> simp_all [isN], cs, resOf_ok hT h, hr⟩
/-- the contract of a function -/
theorem rf {P : Program} {f : FuncId} {fn : Func} {c : Code} (hok : FnOk P f fn c) {args : List AV} {r : AV} (hN : Nat.ble args.length fn.ntmps = true) (hr : ∀ k, r.has k = false)
    (h : ∀ g0 (hg : Gl g0), (GS.code c (frameFrom 0 args) [] (.base (Kret P fn r) mono_kret)).holds ⟨P, none, g0, fn.ntmps, false, hg, fun _ => False, fun _ _ h => h⟩) : Run P f args r := run_of_awp hok hN hr h
end

section
variable {E : Env} {fr : Fr} {σ : Sto} {k : KS} {ops : Array Oper} {rest : List Oper} {ty : TypeId} {pos : String} {af : Array Edge} {x y z : Operand} {t t' t2 e : TypeId}
variable {α : Type} {F : α → List PV} {l xs r' v : List α} {nl : Option Bool} {k1 k2 : IntKind} {d r lim size : Nat} {n p q : Int} {mu : Bool} {b2 : Nat} {z1 z2 : Value} {td : TypeDesc} {T : Tab} {c : AV}
/-- the guard is known to hold -/
theorem ug {dst : Option Tmp} {op : Op} {j d : Nat} {want b : Bool} (hj : (ops[j]?).bind (·.dst) = some d) (hv : fr.get d = .pv (.b (.bool b))) (ht : b = want)
    (h : (GS.ops ops (⟨dst, op, ty, pos, af, none⟩ :: rest) fr σ k).holds E) : (GS.ops ops (⟨dst, op, ty, pos, af, some (j, want)⟩ :: rest) fr σ k).holds E :=
  ⟨fun g a hs => by
    have hy := yielded_of hs hj hv
    have hw : Region.wanted ⟨dst, op, ty, pos, af, some (j, want)⟩ (yielded ops a.tmps) = true := by simp [Region.wanted, hy, ht]
    have h0 := h.go g a hs
    have hw0 : Region.wanted ⟨dst, op, ty, pos, af, none⟩ (yielded ops a.tmps) = true := by simp [Region.wanted]
    simp only [wpListIn, hw, hw0, if_true] at h0 ⊢
    exact h0⟩
theorem wo {o : Oper} {fr' : Fr} {σ' : Sto} (ho : OpTo E o fr σ fr' σ') (hg : o.guard = none) (h : (GS.ops ops rest fr' σ' k).holds E) : (GS.ops ops (o :: rest) fr σ k).holds E := awpl_op hg ho h
theorem wq {o : Oper} (h : EvQ E.P o fr.ev σ c) (hg : o.guard = none) (hd : o.dst = some d) (hN : Nat.ble (d + 1) E.N = true) (hq : (GS.ops ops rest ((d, c) :: fr) σ k).holds E) : (GS.ops ops (o :: rest) fr σ k).holds E := awpl_op hg (opTo_q hd hN h) hq
theorem cl {f : FuncId} {d : Nat} {xs : List Operand} {ats : Array TypeId} {args : List AV} {r : AV} (hr : Run E.P f args r) (hN : Nat.ble (d + 1) E.N = true) (ha : xs.map (fun x => (fr.ev x).weak) = args) (h : (GS.ops ops rest ((d, r) :: fr) σ k).holds E) :
    (GS.ops ops (⟨some d, .call ⟨.value (.func f), xs.toArray, ats⟩, ty, pos, af, none⟩ :: rest) fr σ k).holds E := awpl_op rfl (opTo_call hr hN ha) h
/-- the row of a slice's type, and that of its elements -/
def Tab.sl (T : Tab) (t : TypeId) : Option (TypeId × TyRow) := match T.get t with
  | some ⟨_, _, _, .slice e, _⟩ => (match T.get e with | some r => some (e, r) | none => none)
  | _ => none
theorem Tab.sl_ok {P : Program} (hT : TabOk P T) {row : TyRow} (h : T.sl t = some (e, row)) : (∃ ss sb sz, TyOk P t ss sb sz (.slice e)) ∧ TyOk P e row.size row.bytes row.zero row.desc := by
  unfold Tab.sl at h
  split at h
  · rename_i h1
    split at h
    · rename_i h2
      cases h
      exact ⟨⟨_, _, _, (hT _ _ h1).ty⟩, (hT _ _ h2).ty⟩
    · cases h
  · cases h
def Tab.st (T : Tab) (t : TypeId) : Bool := match T.get t with
  | some ⟨_, _, _, .string, _⟩ => true
  | _ => false
theorem Tab.st_ok {P : Program} (hT : TabOk P T) (h : T.st t = true) : ∃ ss sb sz, TyOk P t ss sb sz .string := by
  unfold Tab.st at h
  split at h
  · rename_i h1; exact ⟨_, _, _, (hT _ _ h1).ty⟩
  · cases h
variable {row : TyRow}
theorem wi {a : α} (hT : TabOk E.P T) (hi : idx l n = some a) (hs : T.sl t = some (e, row)) (hx : fr.ev x = .pv (.sl nl (l.map F))) (hy : fr.ev y = .pv (.b (.int k1 n))) (hz : (F a).length = row.size) (hN : Nat.ble (d + 1) E.N = true) (hq : (GS.ops ops rest ((d, .ep (F a)) :: fr) σ k).holds E) :
    (GS.ops ops (⟨some d, .indexAddr t x y, ty, pos, af, none⟩ :: rest) fr σ k).holds E := by
  obtain ⟨⟨_, _, _, h1⟩, h2⟩ := Tab.sl_ok hT hs
  exact awpl_op rfl (opTo_q rfl hN (ev_idx hx hy h1 h2 hz hi)) hq
theorem wih {a : α} (hT : TabOk E.P T) (hi : idx l n = some a) (hs : T.sl t = some (e, row)) (hx : fr.ev x = .hs r 0) (hy : fr.ev y = .pv (.b (.int k1 n))) (hr : σ.get r = some (.row e mu row.size (l.map F))) (hN : Nat.ble (d + 1) E.N = true) (hq : (GS.ops ops rest ((d, .hp r n.toNat 0) :: fr) σ k).holds E) :
    (GS.ops ops (⟨some d, .indexAddr t x y, ty, pos, af, none⟩ :: rest) fr σ k).holds E := by
  obtain ⟨⟨_, _, _, h1⟩, h2⟩ := Tab.sl_ok hT hs
  exact awpl_op rfl (opTo_q rfl hN (ev_hidx hx hy hr h1 h2 hi)) hq
theorem ws {s : Str} {b : UInt8} (hT : TabOk E.P T) (hi : idx s n = some b) (hs : T.st t = true) (hx : (fr.ev x).str? = some s) (hy : fr.ev y = .pv (.b (.int k1 n))) (hN : Nat.ble (d + 1) E.N = true) (hq : (GS.ops ops rest ((d, .u8 b) :: fr) σ k).holds E) :
    (GS.ops ops (⟨some d, .index t x y, ty, pos, af, none⟩ :: rest) fr σ k).holds E := by
  obtain ⟨_, _, _, h1⟩ := Tab.st_ok hT hs
  exact awpl_op rfl (opTo_q rfl hN (ev_sidx (AV.str?_eq hx) hy h1 hi)) hq
theorem wc {a b s : Str} (hi : cat a b = some s) (hx : (fr.ev x).str? = some a) (hy : (fr.ev y).str? = some b) (hN : Nat.ble (d + 1) E.N = true) (hq : (GS.ops ops rest ((d, .s s) :: fr) σ k).holds E) :
    (GS.ops ops (⟨some d, .binOp .add t x y t', ty, pos, af, none⟩ :: rest) fr σ k).holds E := awpl_op rfl (opTo_q rfl hN (ev_cat (AV.str?_eq hx) (AV.str?_eq hy) hi)) hq
/-- len of a slice -/
theorem wn (hT : TabOk E.P T) (hs : T.sl t = some (e, row)) (hx : fr.ev x = .pv (.sl nl (l.map F))) (hN : Nat.ble (d + 1) E.N = true) (hq : (GS.ops ops rest ((d, .i l.length) :: fr) σ k).holds E) :
    (GS.ops ops (⟨some d, .call ⟨.builtin .len, #[x], #[t]⟩, ty, pos, af, none⟩ :: rest) fr σ k).holds E := by
  obtain ⟨⟨_, _, _, h1⟩, h2⟩ := Tab.sl_ok hT hs
  exact awpl_op rfl (opTo_q rfl hN (ev_llen hx h1.u)) hq
theorem wnh (hT : TabOk E.P T) (hs : T.sl t = some (e, row)) (hx : fr.ev x = .hs r 0) (hr : σ.get r = some (.row e mu size (l.map F))) (hN : Nat.ble (d + 1) E.N = true) (hq : (GS.ops ops rest ((d, .i l.length) :: fr) σ k).holds E) :
    (GS.ops ops (⟨some d, .call ⟨.builtin .len, #[x], #[t]⟩, ty, pos, af, none⟩ :: rest) fr σ k).holds E := by
  obtain ⟨⟨_, _, _, h1⟩, h2⟩ := Tab.sl_ok hT hs
  exact awpl_op rfl (opTo_q rfl hN (ev_hlen hx hr h1.u)) hq
/-- a byte as a rune -/
def Tab.ur (T : Tab) (t t' : TypeId) : Bool := match T.get t, T.get t' with
  | some ⟨_, _, _, .int .u8, _⟩, some ⟨_, _, _, .int .i32, _⟩ => true
  | _, _ => false
theorem wur {b : UInt8} (hT : TabOk E.P T) (hs : T.ur t t' = true) (hx : fr.ev x = .u8 b) (hN : Nat.ble (d + 1) E.N = true) (hq : (GS.ops ops rest ((d, .pv (.b (.int .i32 (b.toNat : Int)))) :: fr) σ k).holds E) :
    (GS.ops ops (⟨some d, .convert t t' x, ty, pos, af, none⟩ :: rest) fr σ k).holds E := by
  unfold Tab.ur at hs
  split at hs
  · rename_i h1 h2; exact awpl_op rfl (opTo_q rfl hN (ev_u8i32 hx (hT _ _ h1).ty (hT _ _ h2).ty)) hq
  · cases hs
/-- a range over a text -/
theorem wr {s : Str} (id : Nat) (hT : TabOk E.P T) (hs : T.st t = true) (hx : (fr.ev x).str? = some s) (hf : (fr.has id || σ.has id) = false) (hN : Nat.ble (d + 1) E.N = true) (hq : (GS.ops ops rest ((d, .ptr id 0) :: fr) ((id, .it (strB s) 0) :: σ) k).holds E) :
    (GS.ops ops (⟨some d, .range t x, ty, pos, af, none⟩ :: rest) fr σ k).holds E := by
  obtain ⟨_, _, _, h1⟩ := Tab.st_ok hT hs
  simp only [Bool.or_eq_false_iff] at hf
  exact awpl_op rfl (opTo_range id hN (AV.str?_eq hx) h1 hf.1 hf.2) hq
theorem wnx {R : Type} {A B : Option R} {rr : R} {o i : Nat} {s : Str} (hr : (bif decide (i < s.length) then A else B) = some rr) (hx : fr.ev x = .ptr o 0) (ho : σ.get o = some (.it (strB s) i)) (hN : Nat.ble (d + 1) E.N = true)
    (h1 : decide (i < s.length) = true → A = some rr → (GS.ops ops rest ((d, .tup [.bo true, .i i, .pv (.b (.int .i32 (runeAt s i)))]) :: fr) (σ.upd o (.it (strB s) (i + wideAt s i))) k).holds E)
    (h2 : decide (i < s.length) = false → B = some rr → (GS.ops ops rest ((d, .tup [.bo false]) :: fr) σ k).holds E) :
    (GS.ops ops (⟨some d, .next x true, ty, pos, af, none⟩ :: rest) fr σ k).holds E :=
  awpl_next rfl hN hx ho (fun h => h1 h (by rw [h] at hr; exact hr)) (fun h => h2 h (by rw [h] at hr; exact hr))
section
variable {s w : Str}
theorem wscL (hT : TabOk E.P T) (hr : cut s p s.length = some w) (hs : T.st t = true) (hx : (fr.ev x).str? = some s) (hy : fr.ev y = .pv (.b (.int k1 p))) (hN : Nat.ble (d + 1) E.N = true) (hq : (GS.ops ops rest ((d, .s w) :: fr) σ k).holds E) :
    (GS.ops ops (⟨some d, .slice t x (some y) none none, ty, pos, af, none⟩ :: rest) fr σ k).holds E := by
  obtain ⟨_, _, _, h1⟩ := Tab.st_ok hT hs
  exact awpl_op rfl (opTo_q rfl hN (ev_scutL (AV.str?_eq hx) hy h1 hr)) hq
theorem wscH (hT : TabOk E.P T) (hr : cut s 0 q = some w) (hs : T.st t = true) (hx : (fr.ev x).str? = some s) (hy : fr.ev z = .pv (.b (.int k1 q))) (hN : Nat.ble (d + 1) E.N = true) (hq : (GS.ops ops rest ((d, .s w) :: fr) σ k).holds E) :
    (GS.ops ops (⟨some d, .slice t x none (some z) none, ty, pos, af, none⟩ :: rest) fr σ k).holds E := by
  obtain ⟨_, _, _, h1⟩ := Tab.st_ok hT hs
  exact awpl_op rfl (opTo_q rfl hN (ev_scutH (AV.str?_eq hx) hy h1 hr)) hq
end
theorem wlL (hT : TabOk E.P T) (hr : cut l p l.length = some v) (hs : T.sl t = some (e, row)) (hx : fr.ev x = .pv (.sl nl (l.map F))) (hy : fr.ev y = .pv (.b (.int k1 p))) (hF : ∀ x, (F x).length = row.size) (hN : Nat.ble (d + 1) E.N = true) (hq : (GS.ops ops rest ((d, .l F v) :: fr) σ k).holds E) :
    (GS.ops ops (⟨some d, .slice t x (some y) none none, ty, pos, af, none⟩ :: rest) fr σ k).holds E := by
  obtain ⟨⟨_, _, _, h1⟩, h2⟩ := Tab.sl_ok hT hs
  exact awpl_op rfl (opTo_q rfl hN (ev_cutL hx hy h1 h2 hF hr)) hq
theorem wlH (hT : TabOk E.P T) (hr : cut l 0 q = some v) (hs : T.sl t = some (e, row)) (hx : fr.ev x = .pv (.sl nl (l.map F))) (hy : fr.ev z = .pv (.b (.int k1 q))) (hF : ∀ x, (F x).length = row.size) (hN : Nat.ble (d + 1) E.N = true) (hq : (GS.ops ops rest ((d, .l F v) :: fr) σ k).holds E) :
    (GS.ops ops (⟨some d, .slice t x none (some z) none, ty, pos, af, none⟩ :: rest) fr σ k).holds E := by
  obtain ⟨⟨_, _, _, h1⟩, h2⟩ := Tab.sl_ok hT hs
  exact awpl_op rfl (opTo_q rfl hN (ev_cutH hx hy h1 h2 hF hr)) hq
def rowFit (row : TyRow) (lim : Nat) : Bool := Nat.beq row.zero.cells.size row.size && Nat.ble 1 row.size && (Nat.ble (lim * row.bytes) 140737488355328 && Nat.ble lim 9223372036854775807)
theorem wa (hT : TabOk E.P T) (h : app lim l xs = some r') (hs : T.sl t = some (e, row)) (hx : fr.ev x = .hs r 0) (hr : σ.get r = some (.row e mu row.size (l.map F))) (hy : fr.ev y = .pv (.sl nl (xs.map F))) (hF : ∀ x, (F x).length = row.size) (hfit : rowFit row lim = true) (hN : Nat.ble (d + 1) E.N = true) (hq : (GS.ops ops rest ((d, .hs r 0) :: fr.clr r) ((σ.clr r).upd r (.row e mu row.size (r'.map F))) k).holds E) :
    (GS.ops ops (⟨some d, .call ⟨.builtin .append, #[x, y], #[t, t]⟩, ty, pos, af, none⟩ :: rest) fr σ k).holds E := by
  obtain ⟨⟨_, _, _, h1⟩, h2⟩ := Tab.sl_ok hT hs
  simp only [rowFit, Bool.and_eq_true] at hfit
  exact awpl_op rfl (opTo_append hN hx hr hy h1 h2 hfit.1.1 hfit.1.2 hF (by simp only [Bool.and_eq_true]; exact hfit.2) h) hq
def Tab.bs (T : Tab) (t t2 : TypeId) : Bool := match T.get t with
  | some ⟨_, _, _, .slice e, _⟩ => (match T.get e with | some ⟨_, _, _, .int .u8, _⟩ => T.st t2 | _ => false)
  | _ => false
theorem wb {s : Str} (hT : TabOk E.P T) (hs : T.bs t t2 = true) (hx : fr.ev x = .pv (.sl nl (s.map cU))) (hN : Nat.ble (d + 1) E.N = true) (hq : (GS.ops ops rest ((d, .s s) :: fr) σ k).holds E) :
    (GS.ops ops (⟨some d, .convert t t2 x, ty, pos, af, none⟩ :: rest) fr σ k).holds E := by
  unfold Tab.bs at hs
  split at hs
  · rename_i h1
    split at hs
    · rename_i h2
      obtain ⟨_, _, _, h3⟩ := Tab.st_ok hT hs
      exact awpl_op rfl (opTo_q rfl hN (ev_bytes2s hx (hT _ _ h1).ty (hT _ _ h2).ty h3)) hq
    · cases hs
  · cases hs
/-- a slice's literal -/
theorem wz (F : α → List PV) (l : List α) {m : Nat} {ps : List (Nat × Operand)} (hT : TabOk E.P T) (hs : T.sl t = some (e, row)) (hzs : (Nat.beq row.zero.cells.size row.size && Nat.ble 1 row.size && row.zero.cells.toList.all cellV) = true) (hF : ∀ x, (F x).length = row.size) (hln : (Nat.beq l.length m && Nat.ble (m * row.size) 16777216) = true)
    (hc : fillA (fun i => some (i * row.size, row.size)) (List.replicate (m * row.size) .any) (ps.map fun p => (p.1, (fr.ev p.2).weak)) = some (l.flatMap fun x => (F x).map AV.pv)) (hN : Nat.ble (d + 1) E.N = true) (hq : (GS.ops ops rest ((d, .l F l) :: fr) σ k).holds E) :
    (GS.ops ops (⟨some d, .buildSlice t m ps.toArray, ty, pos, af, none⟩ :: rest) fr σ k).holds E := by
  obtain ⟨⟨_, _, _, h1⟩, h2⟩ := Tab.sl_ok hT hs
  exact awpl_op rfl (opTo_g rfl hN (opG_lit h1 h2 hzs hF hln hc)) hq
/-- a region that draws its order -/
theorem dr {id : Nat} {l : List Oper} (m : Nat) (new : Fr) {cs : List AV} (hmix : E.P.follows .mixedOrders = true) (hok : drawOk l m = true) (hm : Nat.ble m l.length = true) (hN : ((l.take m).all fun o => o.dst.all fun d => Nat.ble (d + 1) E.N) = true)
    (hp : Pres E l.toArray (new ++ fr) σ (l.take m) cs) (hnew : newOf (l.take m) cs [] = new) (h : (GS.ops l.toArray (l.drop m) (new ++ fr) σ k).holds E) : (GS.code (.region id l.toArray true) fr σ k).holds E := awp_drawn m new hmix hok hm hN hp hnew h
theorem pq {o : Oper} {l : List Oper} {cs : List AV} (hT : TabOk E.P T) (hq : qval T fr.ev σ o.op = some c) (hg : GuardYes ops fr o) (hr : Pres E ops fr σ l cs) : Pres E ops fr σ (o :: l) (c :: cs) := .run hg (opG_q (qval_ok hT hq)) hr
/-- calls in place -/
theorem mono_inl {d : Nat} {fn : Func} {base sid : Nat} {T : Array Value} {ds : List Deferred} {K : Post} : Mono (InlK E ops rest d fn base sid T ds K) := fun e fr σ fr' σ' hf hs ⟨h1, fr2, σ2, cs, fr'', σ'', h2, h3, h4⟩ => ⟨h1, fr2, σ2, cs, fr'', σ'', frLe_trans hf h2, stoLe_trans hs h3, h4⟩
theorem il {d f : Nat} {fn : Func} {c : Code} {fx : Operand} {xs : List Operand} {ats : Array TypeId} {first cap args : List AV} (base sid : Nat) (keep : Fr) (hf : fr.ev fx = .fn (.func f) first cap) (hok : FnOk E.P f fn c)
    (hN : (Nat.ble (d + 1) E.N && Nat.ble args.length fn.ntmps) = true) (ha : first ++ xs.map fr.ev ++ cap = args) (hk : keep.map (fun p => fr.get p.1) = keep.map (·.2))
    (h : ∀ (T : Array Value) (ds : List Deferred), (GS.code c (frameFrom 0 args) ((sid, .sus E.g0.w.heap.size ds) :: (holds base T keep ++ σ)) (.base (InlK E ops rest d fn base sid T ds (k.post E)) mono_inl)).holds ⟨E.P, none, E.g0, fn.ntmps, true, E.gl, E.S, E.sg⟩) :
    (GS.ops ops (⟨some d, .call ⟨.value fx, xs.toArray, ats⟩, ty, pos, af, none⟩ :: rest) fr σ k).holds E :=
  awpl_inl base sid keep (wanted_plain rfl) hf hok hN ha (kpw hk) fun T ds _ => h T ds
theorem ie {E' : Env} {d : Nat} {fn : Func} {base sid : Nat} {Tm : Array Value} {ds : List Deferred} {e : Exit} {hm : Mono (InlK E ops rest d fn base sid Tm ds (k.post E))} (hT : TabOk E.P T) (cs : List AV) (fr'' : Fr) (σ'' : Sto) (he : isN e = true ∨ e = .ret) (hr : resOf T fr σ fn.results.toList = some cs) (hh : fr''.map (fun p => σ.get (base + p.1)) = fr''.map (fun p => some (.hold p.2 (Tm.getD p.1 undef)))) (hsu : σ.get sid = some (.sus E.g0.w.heap.size ds)) (hle : σ''.map σ.sel = σ''.map (fun p => some p.2))
    (h : AWPL E ops rest ((d, retAV cs) :: fr'') σ'' (k.post E)) : (GS.at e fr σ (.base (InlK E ops rest d fn base sid Tm ds (k.post E)) hm)).holds E' :=
  inlK (by cases e <;> simp_all [isN]) frLe_refl stoLe_refl (resOf_ok hT hr) (hdw hh) hsu (stw hle) h
end
end Go.Proofs.YtpclhpncmlbccaaGreatDoor

/- The abstract calculus: a part of an owned row is taken out in place. No program is named. -/
namespace Go.Proofs.YtpclhpncmlbccaaGreatDoor
open Go.RowKit Go.Lib

variable {E : Env} {fr : Fr} {σ : Sto} {K : Post} {P : Program} {ρ : Operand → AV}
variable {dst : Option Tmp} {ty : TypeId} {pos : String} {af : Array Edge} {gu : Option (Nat × Bool)}
section
variable {α : Type} {F : α → List PV} {l xs r' : List α} {r size bytes sb ss k lim : Nat} {e t : TypeId} {mu : Bool} {zero sz : Value} {d : TypeDesc} {x y z : Operand} {nl : Option Bool}

end
end Go.Proofs.YtpclhpncmlbccaaGreatDoor

/- The abstract calculus: calls that return a new row, which the caller owns. No program is named. -/
namespace Go.Proofs.YtpclhpncmlbccaaGreatDoor
open Go.RowKit

variable {P : Program} {σ : Sto} {dst : Option Tmp} {ty : TypeId} {pos : String} {af : Array Edge} {gu : Option (Nat × Bool)} {E : Env} {fr : Fr}

theorem fn {fr : Fr} : FrLe fr [] := frLe_nil
theorem fc {fr fr' : Fr} {k : Nat} {c : AV} (h : fr.get k = c) (h' : FrLe fr fr') : FrLe fr ((k, c) :: fr') := frLe_cons h h'
end Go.Proofs.YtpclhpncmlbccaaGreatDoor

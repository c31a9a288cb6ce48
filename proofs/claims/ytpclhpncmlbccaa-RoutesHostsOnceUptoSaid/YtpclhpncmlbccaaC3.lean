/- Part 3 of a calculus for walks through code: no program is named. -/
import Derived.Test.YtpclhpncmlbccaaC2
import Derived.Laws.RangeAny
import Derived.Lib.AppendZeros
set_option linter.unusedVariables false
set_option linter.unusedSimpArgs false
/- The abstract calculus: regions that draw their order, with new variables among the first operations. No program is named. -/
namespace Go.Proofs.Ytpclhpncmlbccaa
open Go.RowKit Go.Lib

variable {E : Env} {fr : Fr} {σ : Sto} {K : Post}
abbrev Objs := List (Option (Nat × List AV))
/-- the variables that have come up -/
def objs (D : Nat → Bool) : Nat → Objs → Sto
  | _, [] => []
  | i, none :: r => objs D (i + 1) r
  | i, some (id, cs) :: r => bif D i then (id, .cells cs) :: objs D (i + 1) r else objs D (i + 1) r
def idsOf : Objs → List Nat
  | [] => []
  | none :: r => idsOf r
  | some (id, _) :: r => id :: idsOf r
def distB : List Nat → Bool
  | [] => true
  | x :: r => !(r.any fun y => Nat.beq x y) && distB r
def freeOk (fr : Fr) (σ : Sto) (cs : List AV) (az : Objs) : Bool :=
  distB (idsOf az) && ((idsOf az).all fun k => !fr.has k && !σ.has k && (σ.get k).isNone) &&
  (az.all fun | none => true | some (_, c) => (idsOf az).all fun k => !AV.hasL k c) &&
  ((cs.zip az).all fun p => (idsOf az).all fun k => (match p.2 with | some (id, _) => Nat.beq id k | none => false) || !p.1.has k)
theorem idsOf_mem {az : Objs} {j id : Nat} {cs : List AV} (h : az[j]? = some (some (id, cs))) : id ∈ idsOf az := by
  induction az generalizing j with
  | nil => simp at h
  | cons x r ih =>
    cases j with
    | zero => simp at h; subst h; simp [idsOf]
    | succ j =>
      have := ih (j := j) (by simpa using h)
      cases x with
      | none => simpa [idsOf] using this
      | some x => obtain ⟨a, b⟩ := x; simp [idsOf, this]
theorem ids_dist {az : Objs} (hd : distB (idsOf az) = true) {i j id : Nat} {c c' : List AV} (hi : az[i]? = some (some (id, c))) (hj : az[j]? = some (some (id, c'))) : i = j := by
  induction az generalizing i j with
  | nil => simp at hi
  | cons x r ih =>
    cases x with
    | none =>
      cases i with
      | zero => simp at hi
      | succ i =>
        cases j with
        | zero => simp at hj
        | succ j => rw [ih (by simpa [idsOf] using hd) (i := i) (j := j) (by simpa using hi) (by simpa using hj)]
    | some x =>
      obtain ⟨a, b⟩ := x
      simp only [idsOf, distB, Bool.and_eq_true, Bool.not_eq_true'] at hd
      have hn : ∀ {k : Nat} {c : List AV}, r[k]? = some (some (a, c)) → False := by
        intro k c hk
        have := idsOf_mem hk
        have h1 := hd.1
        rw [List.any_eq_false] at h1
        exact h1 a this (Nat.beq_refl a)
      cases i with
      | zero =>
        simp at hi
        obtain ⟨rfl, rfl⟩ := hi
        cases j with
        | zero => rfl
        | succ j => exact (hn (by simpa using hj)).elim
      | succ i =>
        cases j with
        | zero =>
          simp at hj
          obtain ⟨rfl, rfl⟩ := hj
          exact (hn (by simpa using hi)).elim
        | succ j => rw [ih hd.2 (i := i) (j := j) (by simpa using hi) (by simpa using hj)]
theorem objs_none {D : Nat → Bool} {o : Nat} : ∀ (az : Objs) (n : Nat), (∀ j c, az[j]? = some (some (o, c)) → D (n + j) = false) → Sto.get (objs D n az ++ σ) o = σ.get o
  | [], _, _ => rfl
  | none :: r, n, h => objs_none r (n + 1) (fun j c hj => by have := h (j + 1) c (by simpa using hj); rwa [show n + 1 + j = n + (j + 1) by omega])
  | some (id, cs) :: r, n, h => by
    have ih := objs_none r (n + 1) (fun j c hj => by have := h (j + 1) c (by simpa using hj); rwa [show n + 1 + j = n + (j + 1) by omega])
    unfold objs
    cases hD : D n with
    | false => exact ih
    | true =>
      show Sto.get ((id, .cells cs) :: (objs D (n + 1) r ++ σ)) o = _
      rw [Sto.get_cons, if_neg]
      · exact ih
      · rintro rfl
        have := h 0 cs rfl
        rw [Nat.add_zero, hD] at this; cases this
theorem objs_some {D : Nat → Bool} {o : Nat} {c : List AV} : ∀ (az : Objs) (n j : Nat), distB (idsOf az) = true → az[j]? = some (some (o, c)) → D (n + j) = true → Sto.get (objs D n az ++ σ) o = some (.cells c)
  | [], _, _, _, h, _ => by simp at h
  | none :: r, n, j, hd, h, hD => by
    cases j with
    | zero => simp at h
    | succ j => exact objs_some r (n + 1) j (by simpa [idsOf] using hd) (by simpa using h) (by rwa [show n + 1 + j = n + (j + 1) by omega])
  | some (id, cs) :: r, n, j, hd, h, hD => by
    unfold objs
    cases j with
    | zero =>
      simp at h
      obtain ⟨rfl, rfl⟩ := h
      rw [Nat.add_zero] at hD
      rw [hD]
      show Sto.get ((id, .cells cs) :: (objs D (n + 1) r ++ σ)) id = _
      rw [Sto.get_cons, if_pos rfl]
    | succ j =>
      have hne : id ≠ o := by
        rintro rfl
        have := ids_dist hd (i := 0) (j := j + 1) rfl h
        omega
      have hd' : distB (idsOf r) = true := by simp only [idsOf, distB, Bool.and_eq_true] at hd; exact hd.2
      have ih := objs_some r (n + 1) j hd' (by simpa using h) (by rwa [show n + 1 + j = n + (j + 1) by omega])
      cases D n with
      | false => exact ih
      | true =>
        show Sto.get ((id, .cells cs) :: (objs D (n + 1) r ++ σ)) o = _
        rw [Sto.get_cons, if_neg hne]; exact ih
theorem objs_cases {D : Nat → Bool} (az : Objs) (hd : distB (idsOf az) = true) (o : Nat) : (∃ j c, D j = true ∧ az[j]? = some (some (o, c)) ∧ Sto.get (objs D 0 az ++ σ) o = some (.cells c)) ∨ ((∀ j c, az[j]? = some (some (o, c)) → D j = false) ∧ Sto.get (objs D 0 az ++ σ) o = σ.get o) := by
  by_cases h : ∃ j c, D j = true ∧ az[j]? = some (some (o, c))
  · obtain ⟨j, c, h1, h2⟩ := h
    exact .inl ⟨j, c, h1, h2, objs_some az 0 j hd h2 (by simpa using h1)⟩
  · have hn : ∀ j c, az[j]? = some (some (o, c)) → D j = false := by
      intro j c hj
      cases hD : D j with
      | false => rfl
      | true => exact absurd ⟨j, c, hD, hj⟩ h
    exact .inr ⟨hn, objs_none az 0 (fun j c hj => by simpa using hn j c hj)⟩
theorem objs_same {D D' : Nat → Bool} : ∀ (az : Objs) (n : Nat), (∀ j x, az[j]? = some (some x) → D (n + j) = D' (n + j)) → objs D n az = objs D' n az
  | [], _, _ => rfl
  | none :: r, n, h => objs_same r (n + 1) (fun j x hj => by have := h (j + 1) x (by simpa using hj); rwa [show n + 1 + j = n + (j + 1) by omega])
  | some (id, cs) :: r, n, h => by
    have ih := objs_same (D := D) (D' := D') r (n + 1) (fun j x hj => by have := h (j + 1) x (by simpa using hj); rwa [show n + 1 + j = n + (j + 1) by omega])
    unfold objs
    rw [show D n = D' n from h 0 _ rfl, ih]
theorem objs_has {D : Nat → Bool} {k : Nat} (hσ : σ.has k = false) : ∀ (az : Objs) (n : Nat), (∀ (j id : Nat) (c : List AV), az[j]? = some (some (id, c)) → AV.hasL k c = false) → Sto.has k (objs D n az ++ σ) = false
  | [], _, _ => hσ
  | none :: r, n, h => objs_has hσ r (n + 1) (fun j id c hj => h (j + 1) id c (by simpa using hj))
  | some (id, cs) :: r, n, h => by
    have ih := objs_has (D := D) hσ r (n + 1) (fun j id c hj => h (j + 1) id c (by simpa using hj))
    unfold objs
    cases D n with
    | false => exact ih
    | true =>
      show Sto.has k ((id, .cells cs) :: (objs D (n + 1) r ++ σ)) = false
      unfold Sto.has
      rw [ih]
      simp [AO.has, h 0 id cs rfl]
theorem objs_all : ∀ (az : Objs) (n : Nat), objs (fun _ => true) n az = objs (fun _ => true) 0 az
  | [], _ => rfl
  | none :: r, n => by unfold objs; rw [objs_all r (n + 1), objs_all r (0 + 1)]
  | some (id, cs) :: r, n => by unfold objs; rw [objs_all r (n + 1), objs_all r (0 + 1)]
theorem Sok.le {S : Nat → Prop} {g0 g : G} {σ' : Sto} (h : Sok S g0 g σ) (hs : ∀ o ob, σ'.get o = some ob → σ.get o = some ob) : Sok S g0 g σ' :=
  ⟨fun o ob ho => h.obj o ob (hs o ob ho), fun o o' ob ob' b h1 h2 => h.apart o o' ob ob' b (hs _ _ h1) (hs _ _ h2), fun o ob b h1 => h.mine o ob b (hs _ _ h1), h.old, h.wf⟩
/-- a new variable -/
structure OpNew (E : Env) (o : Oper) (id : Nat) (cs : List AV) : Prop where
  go : ∃ (vs : Array Value) (t : TypeId), vs.size = cs.length ∧ (∀ i, i < vs.size → cellV (vs.getD i undef) = true) ∧ (∀ (g : G) i c, cs[i]? = some c → Rel g c (vs.getD i undef)) ∧ ∀ (g : G) a (K : Act → World → Prop) (Q : Exit → Act → World → Prop), K (a.put o.dst (.pointer (some ⟨g.w.heap.size, 0, none⟩))) (g.alloc vs t 0 id (.blk g.w.heap.size)).w → o.wpIn (fen E.rd) 0 E.P a g.w K Q
theorem opNew_alloc {k id : Nat} {t : TypeId} {size bytes : Nat} {zero : Value} {d : TypeDesc} {cs : List AV} {ty : TypeId} {pos : String} {af : Array Edge} {gu : Option (Nat × Bool)} (ht : TyOk E.P t size bytes zero d) (hz : zero.cells.toList.map constAV = cs) (hz2 : zero.cells.toList.all cellV = true) : OpNew E ⟨some k, .alloc t, ty, pos, af, gu⟩ id cs :=
  ⟨zero.cells, t, by subst hz; simp, fun i hi => (by
      rw [List.all_eq_true] at hz2
      have := hz2 zero.cells[i] (by simp)
      simpa [Array.getD, hi] using this), fun g i c hi => (by
      subst hz
      simp only [List.getElem?_map, Option.map_eq_some_iff, Array.getElem?_toList] at hi
      obtain ⟨v, hv, rfl⟩ := hi
      rw [Array.getD_eq_getD_getElem?, hv]
      exact rel_const g v), fun g a K Q hK => by
    refine ⟨fun _ _ => trivial, ?_⟩
    rw [Oper.semAt_plain _ _ _ (fun c => by simp)]
    have hr : (execOp a.eval ⟨some k, .alloc t, ty, pos, af, gu⟩).run E.P g.w = .ok (.value (.pointer (some ⟨g.w.heap.size, 0, none⟩))) (g.w.alloc (.cells zero.cells t)) := by
      show Sem.run E.P (do let v ← Instr.alloc t true (.tuple #[]); pure (Next.value v)) g.w = _
      simp only [Instr.alloc, Sem.run_bind, ht.zeroValue, Result.andThen_ok, run_newVar, Sem.run_pure]
    rw [hr, Oper.uponIn_value]
    exact hK⟩
inductive PresA (E : Env) (ops : Array Oper) (fr : Fr) (σ : Sto) : List Oper → List AV → Objs → Prop
  | nil : PresA E ops fr σ [] [] []
  | run {o : Oper} {l : List Oper} {c : AV} {cs : List AV} {az : Objs} (hg : GuardYes ops fr o) (h : OpG E o fr σ c) (hr : PresA E ops fr σ l cs az) : PresA E ops fr σ (o :: l) (c :: cs) (none :: az)
  | skip {o : Oper} {l : List Oper} {cs : List AV} {az : Objs} (hg : GuardNo ops fr o) (hr : PresA E ops fr σ l cs az) : PresA E ops fr σ (o :: l) (.tup [] :: cs) (none :: az)
  | new {o : Oper} {l : List Oper} {cs : List AV} {az : Objs} (id : Nat) {ds : List AV} (hg : GuardYes ops fr o) (h : OpNew E o id ds) (hr : PresA E ops fr σ l cs az) : PresA E ops fr σ (o :: l) (.ptr id 0 :: cs) (some (id, ds) :: az)
theorem PresA.len {ops : Array Oper} {l : List Oper} {cs : List AV} {az : Objs} (h : PresA E ops fr σ l cs az) : cs.length = l.length ∧ az.length = l.length := by
  induction h with
  | nil => exact ⟨rfl, rfl⟩
  | run _ _ _ ih => simp [ih.1, ih.2]
  | skip _ _ ih => simp [ih.1, ih.2]
  | new _ _ _ _ ih => simp [ih.1, ih.2]
theorem PresA.get {ops : Array Oper} {l : List Oper} {cs : List AV} {az : Objs} (h : PresA E ops fr σ l cs az) : ∀ {i : Nat} {o : Oper} {c : AV}, l[i]? = some o → cs[i]? = some c → (GuardYes ops fr o ∧ OpG E o fr σ c ∧ az[i]? = some none) ∨ (GuardNo ops fr o ∧ c = .tup [] ∧ az[i]? = some none) ∨ (GuardYes ops fr o ∧ ∃ id ds, c = .ptr id 0 ∧ OpNew E o id ds ∧ az[i]? = some (some (id, ds))) := by
  induction h with
  | nil => intro i o c h1; simp at h1
  | run hg h _ ih =>
    intro i o c h1 h2
    cases i with
    | zero => simp at h1 h2; subst h1; subst h2; exact .inl ⟨hg, h, rfl⟩
    | succ i => exact ih (by simpa using h1) (by simpa using h2)
  | skip hg _ ih =>
    intro i o c h1 h2
    cases i with
    | zero => simp at h1 h2; subst h1; subst h2; exact .inr (.inl ⟨hg, rfl, rfl⟩)
    | succ i => exact ih (by simpa using h1) (by simpa using h2)
  | new id hg h _ ih =>
    intro i o c h1 h2
    cases i with
    | zero => simp at h1 h2; subst h1; subst h2; exact .inr (.inr ⟨hg, id, _, rfl, h, rfl⟩)
    | succ i => exact ih (by simpa using h1) (by simpa using h2)
/-- while the region runs: the first m operations in any order, then the others in the text's -/
def JDA (E : Env) (l : List Oper) (m : Nat) (cs : List AV) (az : List (Option (Nat × List AV))) (fr : Fr) (σ : Sto) (K : Post) (D : Nat → Bool) (a : Act) (w : World) : Prop :=
  (∀ i o, l[i]? = some o → D i = true → ∀ e ∈ o.after, Region.binds .any e = true → D e.on = true) ∧
  ((∃ g, g.w = w ∧ (∀ i, m ≤ i → D i = false) ∧ (∃ i, i < m ∧ D i = false) ∧ a.tmps.size = E.N ∧ DokE E g.w a.defers ∧ Sok E.S E.g0 g (objs D 0 az ++ σ) ∧
     (∀ d, (∀ i o, i < m → l[i]? = some o → o.dst ≠ some d) → Rel g (fr.get d) (a.tmps.getD d undef)) ∧
     (∀ i o c d, i < m → D i = true → l[i]? = some o → cs[i]? = some c → o.dst = some d → Rel g c (a.tmps.getD d undef)))
   ∨ (∃ s, m ≤ s ∧ (∀ i, i < l.length → (D i = true ↔ i < s)) ∧ s ≤ l.length ∧ wpListIn (fen E.rd) 0 E.P l.toArray (Ends E K) (l.drop s) a w))

set_option maxHeartbeats 1000000 in
theorem awp_drawnA {id : Nat} {l : List Oper} (m : Nat) (new : Fr) {cs : List AV} {az : List (Option (Nat × List AV))} {σ' : Sto} (hmix : E.P.follows .mixedOrders = true) (hok : drawOk l m = true) (hm : Nat.ble m l.length = true) (hN : ((l.take m).all fun o => o.dst.all fun d => Nat.ble (d + 1) E.N) = true)
    (hp : PresA E l.toArray (new ++ fr) σ (l.take m) cs az) (hfree : freeOk fr σ cs az = true) (hσ : objs (fun _ => true) 0 az ++ σ = σ') (hnew : newOf (l.take m) cs [] = new) (h : AWPL E l.toArray (l.drop m) (new ++ fr) σ' K) : AWP E (.region id l.toArray true) fr σ K := by
  have hm := Nat.le_of_ble_eq_true hm
  simp only [drawOk, Bool.and_eq_true, List.all_eq_true] at hok
  obtain ⟨⟨⟨⟨⟨hlb, hsome⟩, hdist⟩, hdat⟩, hgrd⟩, hsuf⟩ := hok
  have hcslen : cs.length = m := by rw [hp.len.1]; simp; omega
  have haslen : az.length = m := by rw [hp.len.2]; simp; omega
  simp only [freeOk, Bool.and_eq_true, List.all_eq_true] at hfree
  obtain ⟨⟨⟨hdist2, hids⟩, hcells⟩, hcsid⟩ := hfree
  have hids' : ∀ k ∈ idsOf az, fr.has k = false ∧ σ.has k = false ∧ σ.get k = none := by
    intro k hk
    have := hids k hk
    simp only [Bool.not_eq_true', Option.isNone_iff_eq_none] at this
    exact ⟨this.1.1, this.1.2, this.2⟩
  have hcells' : ∀ (j id : Nat) (c : List AV), az[j]? = some (some (id, c)) → ∀ k ∈ idsOf az, AV.hasL k c = false := by
    intro j id c hj k hk
    have := hcells _ (List.mem_of_getElem? hj)
    simp only [List.all_eq_true, Bool.not_eq_true'] at this
    exact this k hk
  have hcs' : ∀ (j : Nat) (c : AV) (x : Option (Nat × List AV)), cs[j]? = some c → az[j]? = some x → ∀ k ∈ idsOf az, (∀ id ds, x = some (id, ds) → id ≠ k) → c.has k = false := by
    intro j c x hc hx k hk hne
    have hmz : (c, x) ∈ cs.zip az := by
      refine List.mem_of_getElem? (i := j) ?_
      rw [List.getElem?_zip_eq_some]
      exact ⟨hc, hx⟩
    have := hcsid _ hmz k hk
    simp only [Bool.or_eq_true, Bool.not_eq_true'] at this
    rcases this with h1 | h1
    · cases x with
      | none => cases h1
      | some x => obtain ⟨id, ds⟩ := x; exact absurd (Nat.eq_of_beq_eq_true h1) (hne id ds rfl)
    · exact h1
  have hsub : ∀ (D : Nat → Bool) o ob, σ.get o = some ob → Sto.get (objs D 0 az ++ σ) o = some ob := by
    intro D o ob ho
    rcases objs_cases (σ := σ) (D := D) az hdist2 o with ⟨j, c, _, h2, _⟩ | ⟨_, h2⟩
    · have := (hids' o (idsOf_mem h2)).2.2
      rw [this] at ho; cases ho
    · rw [h2]; exact ho
  have htake : ∀ i, i < m → (l.take m)[i]? = l[i]? := fun i hi => List.getElem?_take_of_lt hi
  have hmem : ∀ i o, i < m → l[i]? = some o → o ∈ l.take m := fun i o hi ho => List.mem_of_getElem? (by rw [htake i hi]; exact ho)
  have hdist' : ∀ i j o o', i < m → j < m → l[i]? = some o → l[j]? = some o' → i ≠ j → o.dst ≠ o'.dst := by
    intro i j o o' hi hj ho ho' hne hc
    have := hdist i (by simpa using hi) j (by simpa using hj)
    simp only [Bool.or_eq_true, bne_iff_ne, ne_eq] at this
    rcases this with h1 | h1
    · exact hne (Nat.eq_of_beq_eq_true h1)
    · exact h1 (by rw [ho, ho']; simpa using hc)
  have hA : ∀ d, (∀ i o, i < m → l[i]? = some o → o.dst ≠ some d) → (new ++ fr).get d = fr.get d := by
    intro d hd
    rw [← hnew, ← newOf_append, List.nil_append]
    refine newOf_other _ _ _ _ fun o ho => ?_
    obtain ⟨i, hi, rfl⟩ := List.getElem_of_mem ho
    have hi' : i < m := by simp at hi; omega
    exact hd i _ hi' (by rw [← htake i hi']; exact List.getElem?_eq_getElem hi)
  have hB : ∀ i o c d, i < m → l[i]? = some o → cs[i]? = some c → o.dst = some d → (new ++ fr).get d = c := by
    intro i o c d hi ho hc hd
    rw [← hnew, ← newOf_append, List.nil_append]
    refine newOf_get _ _ _ i o c d (fun i j o o' h1 h2 hne => ?_) (by rw [htake i hi]; exact ho) hc hd
    have hi1 : i < m := by have := (List.getElem?_eq_some_iff.1 h1).1; simp at this; omega
    have hj1 : j < m := by have := (List.getElem?_eq_some_iff.1 h2).1; simp at this; omega
    rw [htake i hi1] at h1; rw [htake j hj1] at h2
    exact hdist' i j o o' hi1 hj1 h1 h2 hne
  have hsuf' : ∀ {D : Nat → Bool} i o, (∀ i o, l[i]? = some o → D i = true → ∀ e ∈ o.after, Region.binds .any e = true → D e.on = true) → m ≤ i → l[i]? = some o → (∀ e ∈ o.after, Region.binds .any e = true → D e.on = true) → ∀ j, j < i → D j = true := by
    intro D i o hcl hi ho he j hj
    have hil : i < l.length := (List.getElem?_eq_some_iff.1 ho).1
    have := hsuf i (by simpa using hil)
    simp only [Bool.or_eq_true, List.all_eq_true] at this
    rcases this with h1 | h1
    · have := Nat.le_of_ble_eq_true h1; omega
    · exact masks_ready hcl l.length i o ho he j (h1 j (by simpa using hj))
  have hdir : ∀ {D : Nat → Bool} {o : Oper} {j : Nat}, (∀ e ∈ o.after, Region.binds .any e = true → D e.on = true) → directly o j = true → D j = true := by
    intro D o j he hd
    simp only [directly, List.any_eq_true, Bool.and_eq_true] at hd
    obtain ⟨e, h1, h2, h3⟩ := hd
    rw [← Nat.eq_of_beq_eq_true h3]
    exact he e (by simpa using h1) h2
  refine ⟨fun g a hst => ?_⟩
  have hst0 := hst.drew
  refine wpIn_region_inv hmix hlb (JDA E l m cs az fr σ K) ⟨fun i o _ hd => by simp at hd, ?_⟩ ?_ ?_
  · by_cases h0 : m = 0
    · subst h0
      refine .inr ⟨0, Nat.le_refl _, fun i _ => by simp, Nat.zero_le _, ?_⟩
      have hn : new = [] := by rw [← hnew]; simp [newOf]
      subst hn
      have has : az = [] := List.length_eq_zero_iff.1 haslen
      subst has
      have hσ2 : σ = σ' := by rw [← hσ]; rfl
      subst hσ2
      have := h.go _ a hst0
      simpa using this
    · exact .inl ⟨⟨g.w.drew, g.u, g.loc⟩, rfl, fun _ _ => rfl, ⟨0, by omega, rfl⟩, hst0.n, hst0.df, hst0.so.le (fun o ob ho => by rw [← objs_none (D := fun _ => false) az 0 (fun _ _ _ => rfl)]; exact ho), fun d _ => hst0.fr d, fun i o c d _ hd => by simp at hd⟩
  · rintro D a w ⟨_, ⟨g, _, _, ⟨i, hi, hd⟩, _⟩ | ⟨s, hs1, hs2, hs3, hs4⟩⟩ hall
    · rw [hall i (by simp; omega)] at hd; cases hd
    · have : s = l.length := by
        rcases Nat.lt_or_ge s l.length with h1 | h1
        · have := (hs2 s h1).1 (hall s (by simpa using h1)); omega
        · omega
      subst this
      rw [List.drop_length] at hs4
      exact hs4
  · rintro D a w i o ⟨hcl, hJ⟩ ho hDi he
    have ho' : l[i]? = some o := by simpa using ho
    have hcl' : ∀ i' o', l[i']? = some o' → upd D i i' = true → ∀ e ∈ o'.after, Region.binds .any e = true → upd D i e.on = true := by
      intro i' o' h1 h2 e h3 h4
      unfold upd at h2 ⊢
      split
      · rfl
      · split at h2
        · rename_i hii; subst hii
          rw [ho'] at h1; cases h1
          exact he e h3 h4
        · exact hcl i' o' h1 h2 e h3 h4
    rcases hJ with ⟨g, rfl, hge, ⟨i0, hi0, hd0⟩, hsz, hdf, hso, hf0, hfD⟩ | ⟨s, hs1, hs2, hs3, hs4⟩
    · have him : i < m := by
        rcases Nat.lt_or_ge i m with h1 | h1
        · exact h1
        · have := hsuf' i o hcl h1 ho' he i0 (by omega)
          rw [hd0] at this; cases this
      obtain ⟨c, hc⟩ : ∃ c, cs[i]? = some c := ⟨cs[i]'(by omega), List.getElem?_eq_getElem (by omega)⟩
      have hslot : ∀ d, (∃ j o' , j < m ∧ l[j]? = some o' ∧ o'.dst = some d ∧ D j = true) ∨ (∀ j o', j < m → l[j]? = some o' → o'.dst ≠ some d) → Rel g ((new ++ fr).get d) (a.tmps.getD d undef) := by
        rintro d (⟨j, o', hj, ho1, hd1, hD1⟩ | hno)
        · obtain ⟨c', hc'⟩ : ∃ c, cs[j]? = some c := ⟨cs[j]'(by omega), List.getElem?_eq_getElem (by omega)⟩
          rw [hB j o' c' d hj ho1 hc' hd1]
          exact hfD j o' c' d hj hD1 ho1 hc' hd1
        · rw [hA d hno]; exact hf0 d hno
      have hops : ∀ x ∈ o.op.operands, Rel g ((new ++ fr).ev x) (a.eval x) := by
        intro x hx
        cases x with
        | const v => exact rel_const g v
        | global q => exact .pv (.b rfl)
        | func f => exact .fn (by simp) (by simp) (fun i c h => by simp at h) (fun i c h => by simp at h)
        | tmp t =>
          refine hslot t ?_
          by_cases hex : ∃ j o', j < m ∧ l[j]? = some o' ∧ o'.dst = some t
          · obtain ⟨j, o', hj, ho1, hd1⟩ := hex
            have h1 := hdat o (hmem i o him ho') t (by simp only [tmpsOf, List.mem_filterMap]; exact ⟨.tmp t, by simpa using hx, rfl⟩) j (by simpa using hj)
            simp only [Bool.or_eq_true, bne_iff_ne, ne_eq] at h1
            rcases h1 with h1 | h1
            · exact absurd (by rw [ho1]; simpa using hd1) h1
            · exact .inl ⟨j, o', hj, ho1, hd1, hdir he h1⟩
          · exact .inr fun j o' hj ho1 hd1 => hex ⟨j, o', hj, ho1, hd1⟩
      have hguard : ∀ j want d, o.guard = some (j, want) → (l.toArray[j]?).bind (·.dst) = some d → Rel g ((new ++ fr).get d) (a.tmps.getD d undef) := by
        intro j want d hg hj
        have h1 := hgrd o (hmem i o him ho')
        rw [hg] at h1
        have hDj := hdir he h1
        have hjm : j < m := by
          rcases Nat.lt_or_ge j m with h2 | h2
          · exact h2
          · rw [hge j h2] at hDj; cases hDj
        cases hoj : l[j]? with
        | none => rw [List.getElem?_toArray, hoj] at hj; cases hj
        | some o' =>
          rw [List.getElem?_toArray, hoj] at hj
          exact hslot d (.inl ⟨j, o', hjm, hoj, by simpa using hj, hDj⟩)
      -- the state behind the operation
      have hafter : ∀ (g' : G) (v : Value) (d : Nat), o.dst = some d → Old (fun _ => False) g g' → Sok E.S E.g0 g' (objs (upd D i) 0 az ++ σ) → (∀ c v, Rel g c v → (∀ k, k ∈ idsOf az → az[i]?.bind (fun x => x.map (·.1)) = some k → c.has k = false) → Rel g' c v) → Rel g' c v → JDA E l m cs az fr σ K (upd D i) (a.put o.dst v) g'.w := by
        intro g' v d hd hold hso' hmono0 hv
        refine ⟨hcl', ?_⟩
        have hdN : d < E.N := by
          rw [List.all_eq_true] at hN
          have := hN o (hmem i o him ho')
          rw [hd] at this
          exact Nat.le_of_ble_eq_true (by simpa using this)
        have hget : ∀ d', (a.put o.dst v).tmps.getD d' undef = if d = d' then v else a.tmps.getD d' undef := by
          intro d'
          rw [hd]
          simp only [Act.put]
          rw [getD_set_eq]
          by_cases h1 : d = d'
          · rw [if_pos ⟨h1, by omega⟩, if_pos h1]
          · rw [if_neg (fun x => h1 x.1), if_neg h1]
        have hsz' : (a.put o.dst v).tmps.size = E.N := by rw [hd]; simp [Act.put, hsz]
        have hdf' : DokE E g'.w (a.put o.dst v).defers := by rw [hd]; exact hdf.mono hold.ext
        have hF0 : ∀ d', (∀ i o, i < m → l[i]? = some o → o.dst ≠ some d') → Rel g' (fr.get d') ((a.put o.dst v).tmps.getD d' undef) := by
          intro d' hno
          rw [hget, if_neg (by rintro rfl; exact hno i o him ho' hd)]
          exact hmono0 _ _ (hf0 d' hno) (fun k hk _ => by
            cases hx : (fr.get d').has k with
            | false => rfl
            | true => have := Fr.has_get hx; rw [(hids' k hk).1] at this; cases this)
        have hFD : ∀ i' o' c' d', i' < m → upd D i i' = true → l[i']? = some o' → cs[i']? = some c' → o'.dst = some d' → Rel g' c' ((a.put o.dst v).tmps.getD d' undef) := by
          intro i' o' c' d' hi' hD' h1 h2 h3
          by_cases hii : i' = i
          · subst hii
            rw [ho'] at h1; cases h1
            rw [hc] at h2; cases h2
            rw [hd] at h3; cases h3
            rw [hget, if_pos rfl]
            exact hv
          · have hD1 : D i' = true := by unfold upd at hD'; rwa [if_neg hii] at hD'
            have hne : d ≠ d' := by
              rintro rfl
              exact hdist' i' i o' o hi' him h1 ho' hii (h3.trans hd.symm)
            rw [hget, if_neg hne]
            refine hmono0 _ _ (hfD i' o' c' d' hi' hD1 h1 h2 h3) (fun k hk hki => ?_)
            obtain ⟨x, hx⟩ : ∃ x, az[i']? = some x := ⟨az[i']'(by omega), List.getElem?_eq_getElem (by omega)⟩
            refine hcs' i' c' x h2 hx k hk (fun id ds hxe hik => ?_)
            subst hxe; subst hik
            cases hai : az[i]? with
            | none => rw [hai] at hki; cases hki
            | some y =>
              rw [hai] at hki
              cases y with
              | none => cases hki
              | some y =>
                obtain ⟨id2, ds2⟩ := y
                simp at hki; subst hki
                exact hii (ids_dist hdist2 hx hai)
        have hge' : ∀ i', m ≤ i' → upd D i i' = false := by
          intro i' hi'
          unfold upd
          rw [if_neg (by omega)]
          exact hge i' hi'
        by_cases hex : ∃ i', i' < m ∧ upd D i i' = false
        · exact .inl ⟨g', rfl, hge', hex, hsz', hdf', hso', hF0, hFD⟩
        · refine .inr ⟨m, Nat.le_refl _, fun i' _ => ⟨fun h1 => ?_, fun h1 => ?_⟩, hm, h.go g' _ ⟨fun d' => ?_, hsz', hdf', by
            have e : objs (upd D i) 0 az = objs (fun _ => true) 0 az := objs_same az 0 (fun j x hj => by
              rw [Nat.zero_add]
              have hjm : j < m := by have := (List.getElem?_eq_some_iff.1 hj).1; omega
              cases h3 : upd D i j with
              | true => rfl
              | false => exact absurd ⟨j, hjm, h3⟩ hex)
            rw [← hσ, ← e]; exact hso'⟩⟩
          · rcases Nat.lt_or_ge i' m with h2 | h2
            · exact h2
            · rw [hge' i' h2] at h1; cases h1
          · cases h2 : upd D i i' with
            | true => rfl
            | false => exact absurd ⟨i', h1, h2⟩ hex
          · by_cases hex2 : ∃ j o', j < m ∧ l[j]? = some o' ∧ o'.dst = some d'
            · obtain ⟨j, o', hj, h1, h2⟩ := hex2
              obtain ⟨c', hc'⟩ : ∃ c, cs[j]? = some c := ⟨cs[j]'(by omega), List.getElem?_eq_getElem (by omega)⟩
              rw [hB j o' c' d' hj h1 hc' h2]
              refine hFD j o' c' d' hj ?_ h1 hc' h2
              cases h3 : upd D i j with
              | true => rfl
              | false => exact absurd ⟨j, hj, h3⟩ hex
            · rw [hA d' (fun j o' hj h1 h2 => hex2 ⟨j, o', hj, h1, h2⟩)]
              exact hF0 d' (fun j o' hj h1 h2 => hex2 ⟨j, o', hj, h1, h2⟩)
      obtain ⟨d, hd⟩ : ∃ d, o.dst = some d := by
        have := hsome o (hmem i o him ho')
        cases hd : o.dst with
        | none => rw [hd] at this; cases this
        | some d => exact ⟨d, rfl⟩
      unfold wpOpIn
      rw [ho]
      simp only
      have hyes : GuardYes l.toArray (new ++ fr) o → Region.wanted o (yielded l.toArray a.tmps) = true := by
        intro hg
        cases hg with
        | plain h1 => simp [Region.wanted, h1]
        | @yes j d' want t h1 h2 h3 h4 =>
          have hr := hguard j want d' h1 h2
          rw [h3] at hr
          have hy : yielded l.toArray a.tmps j = some t := by
            unfold yielded
            rw [h2]
            simp only [Option.bind_some]
            have h5 := rel_bool hr
            cases hx : a.tmps[d']? with
            | none => rw [Array.getD_eq_getD_getElem?, hx] at h5; simp [undef] at h5
            | some x => rw [Array.getD_eq_getD_getElem?, hx] at h5; simp at h5; rw [h5]
          have h6 : (yielded l.toArray a.tmps j == some want) = true := by rw [hy, h4]; cases want <;> rfl
          simp only [Region.wanted, h1, h6]
      have hsame : az[i]? = some none → objs (upd D i) 0 az = objs D 0 az := fun hn => objs_same az 0 (fun j x hj => by
        rw [Nat.zero_add]
        unfold upd
        rw [if_neg (by rintro rfl; rw [hn] at hj; cases hj)])
      rcases hp.get (i := i) (by rw [htake i him]; exact ho') hc with ⟨hg, hop, has⟩ | ⟨hg, rfl, has⟩ | ⟨hg, id, ds, rfl, hop, has⟩
      · have hw := hyes hg
        simp only [hw, if_true]
        exact hop.go g a _ _ hops (hso.le (hsub D)) fun g' v h1 h2 h3 h4 => hafter g' v d hd h1 (by rw [hsame has]; exact hso.grow h1 h2 (fun k _ => by rw [h3])) (fun c v hr _ => hr.mono h1.ext (fun k _ => by rw [h3])) h4
      · have hw : Region.wanted o (yielded l.toArray a.tmps) = false := by
          cases hg with
          | @no j d' want t h1 h2 h3 h4 =>
            have hr := hguard j want d' h1 h2
            rw [h3] at hr
            have hy : yielded l.toArray a.tmps j = some t := by
              unfold yielded
              rw [h2]
              simp only [Option.bind_some]
              have h5 := rel_bool hr
              cases hx : a.tmps[d']? with
              | none => rw [Array.getD_eq_getD_getElem?, hx] at h5; simp [undef] at h5
              | some x => rw [Array.getD_eq_getD_getElem?, hx] at h5; simp at h5; rw [h5]
            have h6 : (yielded l.toArray a.tmps j == some want) = false := by rw [hy, h4]; cases want <;> rfl
            simp only [Region.wanted, h1, h6]
          | @none j d' want h1 h2 h3 =>
            have hr := hguard j want d' h1 h2
            rw [h3] at hr
            have hy : yielded l.toArray a.tmps j = none := by
              unfold yielded
              rw [h2]
              simp only [Option.bind_some]
              cases hx : a.tmps[d']? with
              | none => rfl
              | some x => rw [Array.getD_eq_getD_getElem?, hx] at hr; simp only [Option.getD_some] at hr; cases hr; rfl
            have h6 : (yielded l.toArray a.tmps j == some want) = false := by rw [hy]; rfl
            simp only [Region.wanted, h1, h6]
        simp only [hw]
        exact ⟨fun _ _ => trivial, hafter g undef d hd (Old.refl _ g) (by rw [hsame has]; exact hso) (fun c v hr _ => hr) (.tup rfl (fun i c hi => by simp at hi))⟩
      · have hw := hyes hg
        simp only [hw, if_true]
        obtain ⟨vs, t, q1, q2, q3, q4⟩ := hop.go
        have hidm := idsOf_mem has
        have hst1 : St E g a [] (objs D 0 az ++ σ) := ⟨fun _ => .any _, hsz, hdf, hso⟩
        have hst2 := hst1.box id rfl (objs_has (hids' id hidm).2.1 az 0 (fun j id' c hj => hcells' j id' c hj id hidm)) t q1 q2 (q3 g) (hcells' i id ds has id hidm)
        have hold := old_alloc g vs t 0 id (.blk g.w.heap.size)
        refine q4 g a _ _ (hafter _ _ d hd hold ?_ ?_ (.ptr (if_pos rfl)))
        · refine hst2.so.le fun o' ob ho1 => ?_
          rw [Sto.get_cons]
          rcases objs_cases (σ := σ) (D := upd D i) az hdist2 o' with ⟨j, c', h1, h2, h3⟩ | ⟨h1, h2⟩
          · by_cases hji : j = i
            · subst hji
              rw [has] at h2
              simp at h2
              obtain ⟨rfl, rfl⟩ := h2
              rw [if_pos rfl, ← ho1, h3]
            · have hne : id ≠ o' := by rintro rfl; exact hji (ids_dist hdist2 h2 has)
              rw [if_neg hne, ← ho1, h3]
              have hDj : D j = true := by unfold upd at h1; rwa [if_neg hji] at h1
              exact objs_some az 0 j hdist2 h2 (by simpa using hDj)
          · have hne : id ≠ o' := by
              rintro rfl
              have := h1 i ds has
              simp [upd] at this
            rw [if_neg hne, ← ho1, h2]
            refine objs_none az 0 (fun j c' hj => ?_)
            rw [Nat.zero_add]
            have h3 := h1 j c' hj
            unfold upd at h3
            split at h3
            · cases h3
            · exact h3
        · intro c v hr hk
          refine hr.mono hold.ext (fun k hck => if_neg ?_)
          rintro rfl
          have := hk k hidm (by rw [has]; rfl)
          rw [this] at hck; cases hck
    · have hil : i < l.length := (List.getElem?_eq_some_iff.1 ho').1
      have his : s ≤ i := by
        rcases Nat.lt_or_ge i s with h1 | h1
        · rw [(hs2 i hil).2 h1] at hDi; cases hDi
        · exact h1
      have hsi : i = s := by
        rcases Nat.lt_or_ge s i with h1 | h1
        · have := hsuf' i o hcl (by omega) ho' he s h1
          have := (hs2 s (by omega)).1 this
          omega
        · omega
      subst hsi
      have hdrop : l.drop i = o :: l.drop (i + 1) := by
        rw [List.drop_eq_getElem_cons hil]
        congr 1
        exact (List.getElem?_eq_some_iff.1 ho').2
      rw [hdrop] at hs4
      unfold wpOpIn
      rw [ho]
      simp only [wpListIn] at hs4 ⊢
      have hJ' : ∀ a' w', wpListIn (fen E.rd) 0 E.P l.toArray (Ends E K) (l.drop (i + 1)) a' w' → JDA E l m cs az fr σ K (upd D i) a' w' := by
        intro a' w' hw'
        refine ⟨hcl', .inr ⟨i + 1, by omega, fun i' hi' => ?_, by omega, hw'⟩⟩
        unfold upd
        split
        · rename_i hii; subst hii; simp
        · rename_i hii
          rw [hs2 i' hi']
          omega
      split
      · rename_i hw
        rw [if_pos hw] at hs4
        exact Oper.wpIn_mono hJ' hs4
      · rename_i hw
        rw [if_neg hw] at hs4
        exact ⟨hs4.1, hJ' _ _ hs4.2⟩
end Go.Proofs.Ytpclhpncmlbccaa

/- The calculus: ranges over strings, scopes without jumps, runes. No program is named. -/
namespace Go.Proofs.Ytpclhpncmlbccaa
open Go.RowKit

section
variable {F : Fence} {n : Nat} {P : Program} {Q : Exit → Act → World → Prop} {a : Act} {w : World}
def noGoto (Q : Exit → Act → World → Prop) : Exit → Act → World → Prop
  | .goto _, _, _ => False
  | e, a, w => Q e a w
theorem stepR_scope {b : Frame} {k : List Item} {cs : List Frame} {c : Code} : step P (lone (b.atR a (.code (.scope c) :: k)) cs w) = .next (lone (b.atR a (.code c :: .inScope c :: k)) cs w) :=
  step_lone_go (by simp [stepG, stepG.exec, Frame.atR])
theorem stepR_inScope {b : Frame} {k : List Item} {cs : List Frame} {c : Code} : step P (lone (b.atR a (.inScope c :: k)) cs w) = .next (lone (b.atR a k) cs w) :=
  step_lone_go (by simp [stepG, stepG.exec, Frame.atR])
theorem wpIn_scope {c : Code} (h : c.wpIn F n P (noGoto Q) a w) : (Code.scope c).wpIn F n P Q a w := by
  intro b k cs hro hb hr
  have h0 : (lone (b.atR a (.code (.scope c) :: k)) cs w).fenced P F := fenced_calm hb hr rfl
  obtain ⟨e, a₁, w₁, hq, harr⟩ := h b (.inScope c :: k) cs hro hb hr
  cases e with
  | normal => exact ⟨.normal, a₁, w₁, hq, .head h0 stepR_scope (StepsIn.trans harr (.one (fenced_calm hb hr rfl) stepR_inScope))⟩
  | exit id =>
    have hx : exitTo id (.inScope c :: k) = exitTo id k := by simp [exitTo]
    exact ⟨.exit id, a₁, w₁, hq, fun k' hk => .head h0 stepR_scope (harr.1 k' (by rw [hx]; exact hk)),
      fun hr' hk => let ⟨k₁, h1, h2⟩ := harr.2 hr' (by rw [hx]; exact hk); ⟨k₁, h1, .head h0 stepR_scope h2⟩⟩
  | goto l => exact hq.elim
  | ret => exact ⟨_, a₁, w₁, hq, .of_steps (.one h0 stepR_scope) harr⟩
  | panic ch => exact ⟨_, a₁, w₁, hq, .of_steps (.one h0 stepR_scope) harr⟩
  | outgrown => exact ⟨_, a₁, w₁, hq, .of_steps (.one h0 stepR_scope) harr⟩
end
section
variable {E : Env} {fr : Fr} {σ : Sto} {K : Post}
def kscope (K : Post) : Post
  | .goto _, _, _ => False
  | e, fr, σ => K e fr σ
theorem awp_scope {c : Code} (h : AWP E c fr σ (kscope K)) : AWP E (.scope c) fr σ K :=
  ⟨fun g a hs => wpIn_scope (wpIn_mono (h.go g a hs) fun e a' w' ⟨g', fr', σ', h1, h2, h3⟩ => by
    cases e <;> first | exact ⟨g', fr', σ', h1, h2, h3⟩ | exact h3.elim)⟩
theorem awp_label {l : Nat} (h : K .normal fr σ) : AWP E (.label l) fr σ K := ⟨fun g a hs => wpIn_label ⟨g, fr, σ, rfl, hs, h⟩⟩

/-- an iterator is set -/
theorem St.itset {g : G} {a : Act} {o pos' : Nat} {s : ByteArray} {pos : Nat} (h : St E g a fr σ) (ho : σ.get o = some (.it s pos)) : ∃ b, g.loc o = .blk b ∧ g.w.heap[b]? = some (.stringIter s pos) ∧ St E ⟨{ g.w with heap := g.w.heap.setIfInBounds b (.stringIter s pos') }, g.u, g.loc⟩ a fr (σ.upd o (.it s pos')) := by
  cases h.so.obj o _ ho with
  | @it _ _ b hl hb hu =>
    refine ⟨b, hl, hb, ?_⟩
    have hbl := blk_lt hb
    generalize hw : ({ g.w with heap := g.w.heap.setIfInBounds b (.stringIter s pos') } : World) = w'
    have hheap : ∀ k, k ≠ b → w'.heap[k]? = g.w.heap[k]? := fun k hk => by subst hw; exact Array.getElem?_setIfInBounds_ne (Ne.symm hk)
    have hnew : w'.heap[b]? = some (.stringIter s pos') := by subst hw; exact Array.getElem?_setIfInBounds_self_of_lt hbl
    have hsz : w'.heap.size = g.w.heap.size := by subst hw; simp
    have hx : Ext g.w g.u w' g.u := ⟨Nat.le_of_eq hsz.symm, fun _ _ => Nat.le_refl _, fun k i hk hi => by
      by_cases hkb : k = b
      · subst hkb; simp [World.cell?, hb, hnew]
      · simp only [World.cell?]; rw [hheap k hkb], fun r hr => (hheap r (by rintro rfl; rw [hb] at hr; cases hr)).trans hr⟩
    have hget := Sto.get_upd (ob := .it s pos') ho
    have hsome : ∀ k ob, (σ.upd o (.it s pos')).get k = some ob → ∃ ob', σ.get k = some ob' ∧ ∀ l, ob'.own l = ob.own l := by
      intro k ob hk
      rw [hget] at hk
      split at hk
      · rename_i hko; cases hk; exact ⟨.it s pos, hko ▸ ho, fun _ => rfl⟩
      · exact ⟨_, hk, fun _ => rfl⟩
    refine ⟨fun d => (h.fr d).mono (g' := ⟨w', g.u, g.loc⟩) hx (fun _ _ => rfl), h.n, h.df.mono hx, ⟨?_, fun k k' ob ob' b' h1 h2 => ?_, fun k ob b' h1 => ?_, ?_, ?_⟩⟩
    · intro k ob hk
      rw [hget] at hk
      split at hk
      · rename_i hko; subst hko; cases hk; exact .it hl hnew hu
      · rename_i hko
        refine (h.so.obj k ob hk).mono (g' := ⟨w', g.u, g.loc⟩) hx rfl (fun _ _ => rfl) fun b' hb' => ⟨hheap b' ?_, rfl⟩
        rintro rfl
        exact hko (h.so.apart k o ob _ b' hk ho hb' (by rw [hl]; rfl))
    · obtain ⟨_, e1, q1⟩ := hsome k _ h1
      obtain ⟨_, e2, q2⟩ := hsome k' _ h2
      rw [← q1, ← q2]
      exact h.so.apart k k' _ _ b' e1 e2
    · obtain ⟨_, e1, q1⟩ := hsome k _ h1
      rw [← q1]
      exact h.so.mine k _ b' e1
    · refine h.so.old.trans ⟨by subst hw; rfl, by subst hw; rfl, by subst hw; rfl, hx, fun k hk hs => ⟨hheap k ?_, rfl⟩⟩
      rintro rfl
      rcases h.so.mine o _ k ho (by rw [hl]; rfl) with h1 | h1
      · exact hs (.inr h1)
      · exact hs (.inl h1)
    · intro k hk
      exact h.so.wf k (by rw [← hsz]; exact hk)
variable {ty : TypeId} {pos : String} {af : Array Edge} {gu : Option (Nat × Bool)} {x : Operand} {t t' : TypeId} {ss sb ss' sb' : Nat} {sz sz' : Value}
/-- range over a string: an iterator -/
theorem opTo_range {k : Nat} (id : Nat) {s : Str} (hN : Nat.ble (k + 1) E.N = true) (hx : fr.ev x = .s s) (ht : TyOk E.P t ss sb sz .string) (hf : fr.has id = false) (hs : σ.has id = false) :
    OpTo E ⟨some k, .range t x, ty, pos, af, gu⟩ fr σ ((k, .ptr id 0) :: fr) ((id, .it (strB s) 0) :: σ) :=
  ⟨fun g a K Q hst hK => by
    refine ⟨fun _ _ => trivial, ?_⟩
    rw [Oper.semAt_plain _ _ _ (fun c => by simp)]
    have h1 := hst.ev x
    rw [hx] at h1
    have e1 := rel_b h1
    have hr : (execOp a.eval ⟨some k, .range t x, ty, pos, af, gu⟩).run E.P g.w = .ok (.value (.pointer (some ⟨g.w.heap.size, 0, none⟩))) (g.w.alloc (.stringIter (strB s) 0)) := by
      show Sem.run E.P (do let v ← Instr.range t (a.eval x); pure (Next.value v)) g.w = _
      rw [e1]
      simp only [Instr.range, underlying, program, Sem.run_bind, Sem.run, ht.u, Result.andThen_ok]
      rfl
    rw [hr, Oper.uponIn_value]
    have hnew : (g.w.alloc (.stringIter (strB s) 0)).heap[g.w.heap.size]? = some (.stringIter (strB s) 0) := by show (g.w.heap.push _)[g.w.heap.size]? = _; simp
    have hold : Old (fun _ => False) g ⟨g.w.alloc (.stringIter (strB s) 0), fun q => if q = g.w.heap.size then 0 else g.u q, fun q => if q = id then .blk g.w.heap.size else g.loc q⟩ := by
      refine ⟨rfl, rfl, rfl, ⟨by show g.w.heap.size ≤ (g.w.alloc _).heap.size; simp, fun q hq => by dsimp only; split <;> omega, fun q i hq hi => ?_, fun r hr => (Below.heap_alloc _ _ _ (blk_lt hr)).trans hr⟩, fun q hq _ => ⟨Below.heap_alloc _ _ _ hq, by dsimp only; split <;> omega⟩⟩
      simp only [World.cell?]; rw [show (g.w.alloc (.stringIter (strB s) 0)).heap[q]? = g.w.heap[q]? from Below.heap_alloc _ _ _ hq]
    have hwf : Wf ⟨g.w.alloc (.stringIter (strB s) 0), fun q => if q = g.w.heap.size then 0 else g.u q, fun q => if q = id then .blk g.w.heap.size else g.loc q⟩ := by
      intro q hq
      have hq : g.w.heap.size + 1 ≤ q := by simpa using hq
      show (if q = g.w.heap.size then 0 else g.u q) = 0
      rw [if_neg (by omega)]
      exact hst.so.wf q (by omega)
    have hst' := hst.addObj id (ob := .it (strB s) 0) hf hs hold hwf (fun q hq => if_neg hq) (.it (if_pos rfl) hnew (if_pos rfl)) (fun b hb => by
      simp only [AO.own, if_true, Loc.block] at hb
      cases hb; omega)
    exact hK _ _ (hst'.put (Nat.le_of_ble_eq_true hN) (.ptr (if_pos rfl)))⟩
/-- the rune at a place of a text, and how many bytes it takes -/
def runeAt (s : Str) (i : Nat) : Int := ((Utf8.decode (strB s) i).1 : Nat)
def wideAt (s : Str) (i : Nat) : Nat := (Utf8.decode (strB s) i).2
theorem run_next_any2 {P : Program} (w : World) (s : ByteArray) (r pos : Nat) (ty : TypeId) (hb : w.heap[r]? = some (.stringIter s pos)) (h : pos < s.size) :
    (Instr.next (.pointer (some ⟨r, 0, none⟩)) true ty).run P w = .ok (.tuple #[.bool true, .int .i64 pos, .int .i32 (Utf8.decode s pos).1]) { w with heap := w.heap.setIfInBounds r (.stringIter s (pos + (Utf8.decode s pos).2)) } := by
  simp only [Instr.next, getObj, setObj, Sem.run_bind, Sem.run, hb, Result.andThen, h, if_true]
  simp [goInt]
theorem run_next_end2 {P : Program} (w : World) (s : ByteArray) (r pos : Nat) (ty : TypeId) (hb : w.heap[r]? = some (.stringIter s pos)) (h : ¬ pos < s.size) :
    (Instr.next (.pointer (some ⟨r, 0, none⟩)) true ty).run P w = .ok (.tuple #[.bool false]) w := by
  simp [Instr.next, getObj, Sem.run, hb, h]
theorem awpl_next {ops : Array Oper} {rest : List Oper} {k o i : Nat} {s : Str} (hg : gu = none) (hN : Nat.ble (k + 1) E.N = true) (hx : fr.ev x = .ptr o 0) (ho : σ.get o = some (.it (strB s) i))
    (h1 : decide (i < s.length) = true → AWPL E ops rest ((k, .tup [.bo true, .i i, .pv (.b (.int .i32 (runeAt s i)))]) :: fr) (σ.upd o (.it (strB s) (i + wideAt s i))) K)
    (h2 : decide (i < s.length) = false → AWPL E ops rest ((k, .tup [.bo false]) :: fr) σ K) :
    AWPL E ops (⟨some k, .next x true, ty, pos, af, gu⟩ :: rest) fr σ K :=
  ⟨fun g a hst => by
    subst hg
    have hv := hst.ev x
    rw [hx] at hv
    simp only [wpListIn, Region.wanted, if_true]
    refine ⟨fun _ _ => trivial, ?_⟩
    rw [Oper.semAt_plain _ _ _ (fun c => by simp)]
    obtain ⟨b, hl, hb, hst2⟩ := hst.itset (pos' := i + wideAt s i) ho
    have ev : a.eval x = .pointer (some ⟨b, 0, none⟩) := by
      generalize a.eval x = v at hv
      cases hv with
      | ptr hl2 => rw [hl] at hl2; cases hl2; rfl
    by_cases hlt : i < s.length
    · have hr : (execOp a.eval ⟨some k, .next x true, ty, pos, af, none⟩).run E.P g.w = .ok (.value (.tuple #[.bool true, .int .i64 i, .int .i32 (runeAt s i)])) { g.w with heap := g.w.heap.setIfInBounds b (.stringIter (strB s) (i + wideAt s i)) } := by
        show Sem.run E.P (do let v ← Instr.next (a.eval x) true ty; pure (Next.value v)) g.w = _
        rw [ev, Sem.run_bind, run_next_any2 g.w (strB s) b i ty hb (by rw [strB_size]; exact hlt)]
        rfl
      rw [hr, Oper.uponIn_value]
      exact (h1 (decide_eq_true hlt)).go ⟨_, _, _⟩ _ (hst2.put (Nat.le_of_ble_eq_true hN) (.tup rfl (fun j c hj => by
        match j, hj with
        | 0, hj => simp at hj; subst hj; exact .pv (.b rfl)
        | 1, hj => simp at hj; subst hj; exact .pv (.b rfl)
        | 2, hj => simp at hj; subst hj; exact .pv (.b rfl)
        | j + 3, hj => simp at hj)))
    · have hr : (execOp a.eval ⟨some k, .next x true, ty, pos, af, none⟩).run E.P g.w = .ok (.value (.tuple #[.bool false])) g.w := by
        show Sem.run E.P (do let v ← Instr.next (a.eval x) true ty; pure (Next.value v)) g.w = _
        rw [ev, Sem.run_bind, run_next_end2 g.w (strB s) b i ty hb (by rw [strB_size]; exact hlt)]
        rfl
      rw [hr, Oper.uponIn_value]
      exact (h2 (decide_eq_false hlt)).go g _ (hst.put (Nat.le_of_ble_eq_true hN) (.tup rfl (fun j c hj => by
        match j, hj with
        | 0, hj => simp at hj; subst hj; exact .pv (.b rfl)
        | j + 1, hj => simp at hj)))⟩
end
section
variable {P : Program} {ρ : Operand → AV} {σ : Sto} {dst : Option Tmp} {ty : TypeId} {pos : String} {af : Array Edge} {gu : Option (Nat × Bool)} {x : Operand} {t t' : TypeId} {ss sb ss' sb' : Nat} {sz sz' : Value}
theorem ev_u8i32 {c : UInt8} (hx : ρ x = .u8 c) (ha : TyOk P t ss sb sz (.int .u8)) (hb : TyOk P t' ss' sb' sz' (.int .i32)) : EvQ P ⟨dst, .convert t t' x, ty, pos, af, gu⟩ ρ σ (.pv (.b (.int .i32 (c.toNat : Int)))) :=
  ⟨fun c => by simp, fun g ρv h _ => by
    have h1 := h x (by simp [Op.operands])
    rw [hx] at h1
    have e1 := rel_b h1
    have hlt := c.toNat_lt
    have hw : IntKind.i32.wrap (c.toNat : Int) = c.toNat := by simp only [IntKind.wrap, IntKind.bits, IntKind.signed]; simp; omega
    refine ⟨.int .i32 c.toNat, ?_, .pv (.b rfl)⟩
    simp [execOp, convert, e1, go_sem, underlying, ha.u, hb.u, Conv.intToInt, hw]⟩
theorem ev_i32u8 {n : Int} (hx : ρ x = .pv (.b (.int .i32 n))) (ha : TyOk P t ss sb sz (.int .i32)) (hb : TyOk P t' ss' sb' sz' (.int .u8)) : EvQ P ⟨dst, .convert t t' x, ty, pos, af, gu⟩ ρ σ (.u8 (toU8 n)) :=
  ⟨fun c => by simp, fun g ρv h _ => by
    have h1 := h x (by simp [Op.operands])
    rw [hx] at h1
    have e1 := rel_b h1
    refine ⟨.int .u8 (toU8 n).toNat, ?_, .pv (.b rfl)⟩
    simp [execOp, convert, e1, go_sem, underlying, ha.u, hb.u, Conv.intToInt, wrap_u8]⟩
/-- a rune as text -/
def runeS (n : Int) : Str := (Utf8.encode n).data.toList
theorem ev_i32s {n : Int} (hx : ρ x = .pv (.b (.int .i32 n))) (ha : TyOk P t ss sb sz (.int .i32)) (hb : TyOk P t' ss' sb' sz' .string) : EvQ P ⟨dst, .convert t t' x, ty, pos, af, gu⟩ ρ σ (.s (runeS n)) :=
  ⟨fun c => by simp, fun g ρv h _ => by
    have h1 := h x (by simp [Op.operands])
    rw [hx] at h1
    have e1 := rel_b h1
    refine ⟨.string (Utf8.encode n), ?_, .pv (.b rfl)⟩
    simp [execOp, convert, e1, go_sem, underlying, ha.u, hb.u, Conv.intToString]⟩
end
end Go.Proofs.Ytpclhpncmlbccaa

/- The calculus as a reckoning: the steps of a walk that need no choice are done by a function. No program is named. -/
namespace Go.Proofs.Ytpclhpncmlbccaa
open Go.RowKit

/-- rows of the table of types -/
structure TyRow where
  size : Nat
  bytes : Nat
  zero : Value
  desc : TypeDesc
  pl : Option (Array (Nat × Nat))
abbrev Tab := List (Nat × TyRow)
def Tab.get : Tab → Nat → Option TyRow
  | [], _ => none
  | (k, a) :: r, t => bif Nat.beq k t then some a else Tab.get r t
structure RowOk (P : Program) (t : TypeId) (r : TyRow) : Prop where
  ty : TyOk P t r.size r.bytes r.zero r.desc
  pl : ∀ fs p, r.desc = .struct fs → r.pl = some p → ∀ w, Sem.run P (fs.mapM fun f => do pure (f.offset, ← sizeOf f.type)) w = .ok p w
def TabOk (P : Program) (T : Tab) : Prop := ∀ t r, T.get t = some r → RowOk P t r
theorem tab_nil {P : Program} : TabOk P [] := fun t r h => by simp [Tab.get] at h
theorem Tab.get_cons (k : Nat) (a : TyRow) (T : Tab) (t : Nat) : Tab.get ((k, a) :: T) t = if k = t then some a else Tab.get T t := by
  by_cases h : k = t
  · subst h; simp [Tab.get]
  · have : Nat.beq k t = false := by cases hb : Nat.beq k t with
      | false => rfl
      | true => exact absurd (Nat.eq_of_beq_eq_true hb) h
    simp [Tab.get, this, h]
theorem tab_row {P : Program} {T : Tab} {k : Nat} {r : TyRow} (h : RowOk P k r) (hT : TabOk P T) : TabOk P ((k, r) :: T) := fun t r' h' => by
  rw [Tab.get_cons] at h'
  split at h'
  · rename_i hk; subst hk; cases h'; exact h
  · exact hT t r' h'
theorem tab_cons {P : Program} {T : Tab} {k size bytes : Nat} {zero : Value} {d : TypeDesc} (h : TyOk P k size bytes zero d) (hT : TabOk P T) : TabOk P ((k, ⟨size, bytes, zero, d, none⟩) :: T) :=
  tab_row ⟨h, fun fs p _ h => by cases h⟩ hT
theorem tab_consP {P : Program} {T : Tab} {k size bytes : Nat} {zero : Value} {fs : Array Field} {p : Array (Nat × Nat)} (h : TyOk P k size bytes zero (.struct fs)) (hp : ∀ w, Sem.run P (fs.mapM fun f => do pure (f.offset, ← sizeOf f.type)) w = .ok p w) (hT : TabOk P T) : TabOk P ((k, ⟨size, bytes, zero, .struct fs, some p⟩) :: T) :=
  tab_row ⟨h, fun fs' p' h1 h2 => by cases h1; cases h2; exact hp⟩ hT

/-- the same, seen to be made of a constructor -/
def AV.force : AV → Option AV
  | .any => some .any
  | .pv p => some (.pv p)
  | .agg cs => some (.agg cs)
  | .tup vs => some (.tup vs)
  | .ptr o f => some (.ptr o f)
  | .ep c => some (.ep c)
  | .hs r o => some (.hs r o)
  | .hp r i o => some (.hp r i o)
  | .fn f a c => some (.fn f a c)
  | .mp o => some (.mp o)
  | .hsub r l => some (.hsub r l)
  | .z0 => some .z0
  | .hpre r h => some (.hpre r h)
  | .ifc b => some (.ifc b)
  | .ns r => some (.ns r)
  | .np r i o => some (.np r i o)
  | .hn r i => some (.hn r i)
  | .hnp r i k o => some (.hnp r i k o)
  | .nn b => some (.nn b)
  | .ls o => some (.ls o)
  | .mr o => some (.mr o)
theorem AV.force_eq {c d : AV} (h : c.force = some d) : c = d := by cases c <;> simpa [AV.force] using h
def forceL : List AV → Option (List AV)
  | [] => some []
  | c :: cs => match c.force with
    | some c' => (match forceL cs with | some cs' => some (c' :: cs') | none => none)
    | none => none
theorem forceL_eq : ∀ {cs ds : List AV}, forceL cs = some ds → cs = ds
  | [], _, h => by simpa [forceL] using h
  | c :: cs, _, h => by
    unfold forceL at h
    split at h
    · rename_i c' hc
      split at h
      · rename_i cs' hcs
        cases h
        rw [AV.force_eq hc, forceL_eq hcs]
      · cases h
    · cases h
def forceP : List PV → Option (List PV)
  | [] => some []
  | c :: cs => match forceP cs with | some cs' => some (c :: cs') | none => none
theorem forceP_eq : ∀ {cs ds : List PV}, forceP cs = some ds → cs = ds
  | [], _, h => by simpa [forceP] using h
  | c :: cs, _, h => by
    unfold forceP at h
    split at h
    · rename_i cs' hcs
      cases h
      rw [forceP_eq hcs]
    · cases h
def AV.str? : AV → Option Str
  | .pv (.b (.string s)) => some s.data.toList
  | _ => none
theorem AV.str?_eq {c : AV} {s : Str} (h : c.str? = some s) : c = .s s := by
  unfold AV.str? at h
  split at h
  · cases h; rfl
  · cases h
/-- the address of an operand's object is in a slot of its own -/
def Sto.updF : Sto → Nat → AO → Option Sto
  | [], _, _ => some []
  | (k, a) :: r, o, ob => match Nat.beq k o with
    | true => some ((k, ob) :: r)
    | false => (match Sto.updF r o ob with
      | some r' => some ((k, a) :: r')
      | none => none)

section
variable {P : Program} {T : Tab} {ρ : Operand → AV} {σ : Sto} {dst : Option Tmp} {ty : TypeId} {pos : String} {af : Array Edge} {gu : Option (Nat × Bool)} {c : AV}
def qStr (op : BinOp) (x y : Str) : Option AV := match op with
  | .eql => some (.bo (x == y))
  | .neq => some (.bo (x != y))
  | .lss => some (.bo (Op.bytesLess x y))
  | _ => none
def qCmp (op : BinOp) (x y : Int) : Option AV := match op with
  | .eql => some (.bo (x == y))
  | .neq => some (.bo (x != y))
  | .lss => some (.bo (decide (x < y)))
  | .leq => some (.bo (decide (x ≤ y)))
  | .gtr => some (.bo (decide (y < x)))
  | .geq => some (.bo (decide (y ≤ x)))
  | _ => none
def qI64 (op : BinOp) (x y : Int) : Option AV := match op with
  | .add => some (.i (IntKind.wrap .i64 (x + y)))
  | .sub => some (.i (IntKind.wrap .i64 (x - y)))
  | .mul => some (.i (IntKind.wrap .i64 (x * y)))
  | op => qCmp op x y
def qBool (T : Tab) (op : BinOp) (t : TypeId) (x y : Bool) : Option AV := match T.get t with
  | some ⟨_, _, _, .bool, _⟩ => (match op with | .eql => some (.bo (x == y)) | .neq => some (.bo (x != y)) | _ => none)
  | _ => none
def qBin (T : Tab) (op : BinOp) (t : TypeId) (a b : AV) : Option AV := match a with
  | .pv (.b (.int .i64 x)) => (match b with | .pv (.b (.int .i64 y)) => qI64 op x y | _ => none)
  | .pv (.b (.int .u8 x)) => (match b with | .pv (.b (.int .u8 y)) => qCmp op x y | _ => none)
  | .pv (.b (.int .i32 x)) => (match b with | .pv (.b (.int .i32 y)) => qCmp op x y | _ => none)
  | .pv (.b (.int .u64 x)) => (match b with | .pv (.b (.int .u64 y)) => qCmp op x y | _ => none)
  | .pv (.b (.string x)) => (match b with | .pv (.b (.string y)) => qStr op x.data.toList y.data.toList | _ => none)
  | .pv (.b (.bool x)) => (match b with | .pv (.b (.bool y)) => qBool T op t x y | _ => none)
  | _ => none
theorem qCmp_ok {op : BinOp} {t t' : TypeId} {x y : Operand} {k : IntKind} {a b : Int} (hx : ρ x = .pv (.b (.int k a))) (hy : ρ y = .pv (.b (.int k b))) (h : qCmp op a b = some c) : EvQ P ⟨dst, .binOp op t x y t', ty, pos, af, gu⟩ ρ σ c := by
  unfold qCmp at h
  split at h <;> first | (cases h; done) | skip
  all_goals cases h
  · exact ev_eql hx hy
  · exact ev_neq hx hy
  · exact ev_lss hx hy
  · exact ev_leq hx hy
  · exact ev_gtr hx hy
  · exact ev_geq hx hy
theorem qI64_ok {op : BinOp} {t t' : TypeId} {x y : Operand} {a b : Int} (hx : ρ x = .pv (.b (.int .i64 a))) (hy : ρ y = .pv (.b (.int .i64 b))) (h : qI64 op a b = some c) : EvQ P ⟨dst, .binOp op t x y t', ty, pos, af, gu⟩ ρ σ c := by
  unfold qI64 at h
  split at h
  · cases h; exact ev_add hx hy
  · cases h; exact ev_sub hx hy
  · cases h; exact ev_mul hx hy
  · exact qCmp_ok hx hy h
theorem qStr_ok {op : BinOp} {t t' : TypeId} {x y : Operand} {a b : Str} (hx : ρ x = .s a) (hy : ρ y = .s b) (h : qStr op a b = some c) : EvQ P ⟨dst, .binOp op t x y t', ty, pos, af, gu⟩ ρ σ c := by
  unfold qStr at h
  split at h <;> first | (cases h; done) | skip
  all_goals cases h
  · exact ev_seql hx hy
  · exact ev_sneq hx hy
  · exact ev_slss hx hy
theorem qBool_ok (hT : TabOk P T) {op : BinOp} {t t' : TypeId} {x y : Operand} {a b : Bool} (hx : ρ x = .bo a) (hy : ρ y = .bo b) (h : qBool T op t a b = some c) : EvQ P ⟨dst, .binOp op t x y t', ty, pos, af, gu⟩ ρ σ c := by
  unfold qBool at h
  split at h
  · rename_i hr
    have := (hT _ _ hr).ty
    split at h
    · cases h; exact ev_beql hx hy this
    · cases h; exact ev_bneq hx hy this
    · cases h
  · cases h
theorem qBin_ok (hT : TabOk P T) {op : BinOp} {t t' : TypeId} {x y : Operand} (h : qBin T op t (ρ x) (ρ y) = some c) : EvQ P ⟨dst, .binOp op t x y t', ty, pos, af, gu⟩ ρ σ c := by
  unfold qBin at h
  split at h
  · rename_i hx; split at h
    · rename_i hy; exact qI64_ok hx hy h
    · cases h
  · rename_i hx; split at h
    · rename_i hy; exact qCmp_ok hx hy h
    · cases h
  · rename_i hx; split at h
    · rename_i hy; exact qCmp_ok hx hy h
    · cases h
  · rename_i hx; split at h
    · rename_i hy; exact qCmp_ok hx hy h
    · cases h
  · rename_i hx; split at h
    · rename_i hy; exact qStr_ok hx hy h
    · cases h
  · rename_i hx; split at h
    · rename_i hy; exact qBool_ok hT hx hy h
    · cases h
  · cases h
def qLoad (T : Tab) (σ : Sto) (t : TypeId) (v : AV) : Option AV := match T.get t with
  | none => none
  | some row => match v with
    | .ptr o off => (match σ.get o with
      | some (.cells cs) => bif dAgg row.desc then (bif Nat.ble (off + row.size) cs.length then (match forceL ((cs.drop off).take row.size) with | some l => some (.agg l) | none => none) else none)
          else (match cs[off]? with | some c => c.force | none => none)
      | _ => none)
    | .ep el => bif dAgg row.desc then (bif Nat.beq el.length row.size then (match forceL (el.map .pv) with | some l => some (.agg l) | none => none) else none)
        else (match el with | c :: _ => some (.pv c) | [] => none)
    | _ => none
theorem qLoad_ok (hT : TabOk P T) {t : TypeId} {x : Operand} (h : qLoad T σ t (ρ x) = some c) : EvQ P ⟨dst, .load t x, ty, pos, af, gu⟩ ρ σ c := by
  unfold qLoad at h
  split at h
  · cases h
  · rename_i row hr
    have ht := (hT _ _ hr).ty
    split at h
    · rename_i o off hx
      split at h
      · rename_i cs ho
        cases hd : dAgg row.desc with
        | true =>
          rw [hd] at h
          simp only [cond_true] at h
          cases hn : Nat.ble (off + row.size) cs.length with
          | false => rw [hn] at h; cases h
          | true =>
            rw [hn] at h
            simp only [cond_true] at h
            split at h
            · rename_i l hl
              cases h
              rw [← forceL_eq hl]
              exact ev_loadN hx ho ht hd hn
            · cases h
        | false =>
          rw [hd] at h
          simp only [cond_false] at h
          split at h
          · rename_i c' hc
            rw [← AV.force_eq h]
            exact ev_load hx ho ht hd hc
          · cases h
      · cases h
    · rename_i el hx
      cases hd : dAgg row.desc with
      | true =>
        rw [hd] at h
        simp only [cond_true] at h
        cases hn : Nat.beq el.length row.size with
        | false => rw [hn] at h; cases h
        | true =>
          rw [hn] at h
          simp only [cond_true] at h
          split at h
          · rename_i l hl
            cases h
            rw [← forceL_eq hl]
            exact ev_load_epN hx ht hd (Nat.eq_of_beq_eq_true hn)
          · cases h
      | false =>
        rw [hd] at h
        simp only [cond_false] at h
        split at h
        · cases h
          exact ev_load_ep hx ht hd (by simp)
        · cases h
    · cases h
def qFA (T : Tab) (t : TypeId) (f : Nat) (v : AV) : Option AV := match T.get t with
  | some ⟨_, _, _, .struct fs, _⟩ => (match fs[f]? with
    | some fl => (match T.get fl.type with
      | some r2 => bif Nat.beq r2.size 0 then none else (match v with
        | .ptr o off => some (.ptr o (off + fl.offset))
        | .ep el => bif Nat.ble fl.offset el.length then (match forceP (el.drop fl.offset) with | some l => some (.ep l) | none => none) else none
        | .hp r i j => some (.hp r i (j + fl.offset))
        | _ => none)
      | none => none)
    | none => none)
  | _ => none
theorem qFA_ok (hT : TabOk P T) {t : TypeId} {f : Nat} {x : Operand} (h : qFA T t f (ρ x) = some c) : EvQ P ⟨dst, .fieldAddr t x f, ty, pos, af, gu⟩ ρ σ c := by
  unfold qFA at h
  split at h
  · rename_i fs _ hr
    have ht := (hT _ _ hr).ty.u
    split at h
    · rename_i fl hf
      split at h
      · rename_i r2 hr2
        have ht2 := (hT _ _ hr2).ty
        cases hz : Nat.beq r2.size 0 with
        | true => rw [hz] at h; cases h
        | false =>
          rw [hz] at h
          simp only [cond_false] at h
          split at h
          · rename_i hx; cases h; exact ev_fieldAddr hx ht hf ht2 hz
          · rename_i el hx
            cases hle : Nat.ble fl.offset el.length with
            | false => rw [hle] at h; cases h
            | true =>
              rw [hle] at h
              simp only [cond_true] at h
              split at h
              · rename_i l hl
                cases h
                rw [← forceP_eq hl]
                exact ev_fieldAddr_ep hx ht hf ht2 hz hle
              · cases h
          · rename_i hx; cases h; exact ev_fieldAddr_hp hx ht hf ht2 hz
          · cases h
      · cases h
    · cases h
  · cases h
def qField (T : Tab) (t : TypeId) (f : Nat) (v : AV) : Option AV := match T.get t with
  | some ⟨_, _, _, .struct fs, _⟩ => (match fs[f]? with
    | some fl => (match T.get fl.type with
      | some r2 => (match v with
        | .agg cs => bif dAgg r2.desc then none else (match cs[fl.offset]? with | some c => c.force | none => none)
        | _ => none)
      | none => none)
    | none => none)
  | _ => none
theorem qField_ok (hT : TabOk P T) {t : TypeId} {f : Nat} {x : Operand} (h : qField T t f (ρ x) = some c) : EvQ P ⟨dst, .field t x f, ty, pos, af, gu⟩ ρ σ c := by
  unfold qField at h
  split at h
  · rename_i fs _ hr
    have ht := (hT _ _ hr).ty.u
    split at h
    · rename_i fl hf
      split at h
      · rename_i r2 hr2
        have ht2 := (hT _ _ hr2).ty
        split at h
        · rename_i cs hx
          cases hd : dAgg r2.desc with
          | true => rw [hd] at h; cases h
          | false =>
            rw [hd] at h
            simp only [cond_false] at h
            split at h
            · rename_i c' hc
              rw [← AV.force_eq h]
              exact ev_field hx ht hf ht2 hd hc
            · cases h
        · cases h
      · cases h
    · cases h
  · cases h
def qLen (T : Tab) (t : TypeId) (v : AV) : Option AV := match v with
  | .pv (.b (.string s)) => (match T.get t with | some ⟨_, _, _, .string, _⟩ => some (.i s.data.toList.length) | _ => none)
  | _ => none
theorem qLen_ok (hT : TabOk P T) {t : TypeId} {x : Operand} (h : qLen T t (ρ x) = some c) : EvQ P ⟨dst, .call ⟨.builtin .len, #[x], #[t]⟩, ty, pos, af, gu⟩ ρ σ c := by
  unfold qLen at h
  split at h
  · rename_i hx
    split at h
    · rename_i hr
      cases h
      exact ev_slen hx (hT _ _ hr).ty.u
    · cases h
  · cases h
def qBuild (T : Tab) (t : TypeId) (ps : List (Nat × AV)) : Option AV := match T.get t with
  | some ⟨_, _, z, .struct _, some pl⟩ => bif z.cells.toList.all cellV then (match forceL (z.cells.toList.map constAV) with
    | some zs => (match fillA (pl[·]?) zs ps with
      | some cs => (match forceL cs with | some cs' => some (.agg cs') | none => none)
      | none => none)
    | none => none) else none
  | _ => none
theorem qBuild_ok (hT : TabOk P T) {t : TypeId} {ps : List (Nat × Operand)} (h : qBuild T t (ps.map fun p => (p.1, ρ p.2)) = some c) : EvQ P ⟨dst, .build t ps.toArray, ty, pos, af, gu⟩ ρ σ c := by
  unfold qBuild at h
  split at h
  · rename_i z fs pl hr
    have hk := hT _ _ hr
    cases hz : z.cells.toList.all cellV with
    | false => rw [hz] at h; cases h
    | true =>
      rw [hz] at h
      simp only [cond_true] at h
      split at h
      · rename_i zs hzs
        split at h
        · rename_i cs hc
          split at h
          · rename_i cs' hcs
            cases h
            rw [← forceL_eq hcs]
            rw [← forceL_eq hzs] at hc
            exact ev_build hk.ty (hk.pl fs pl rfl rfl) (.inr ⟨rfl, hz⟩) hc
          · cases h
        · cases h
      · cases h
  · cases h
def qConv (T : Tab) (t t' : TypeId) (v : AV) : Option AV := match T.get t, T.get t' with
  | some ⟨_, _, _, .string, _⟩, some ⟨_, _, _, .string, _⟩ => (match v with | .pv (.b (.string s)) => some (.s s.data.toList) | _ => none)
  | some ⟨_, _, _, .int .i32, _⟩, some ⟨_, _, _, .int .u8, _⟩ => (match v with | .pv (.b (.int .i32 n)) => some (.u8 (toU8 n)) | _ => none)
  | some ⟨_, _, _, .int .i32, _⟩, some ⟨_, _, _, .string, _⟩ => (match v with | .pv (.b (.int .i32 n)) => some (.s (runeS n)) | _ => none)
  | _, _ => none
theorem qConv_ok (hT : TabOk P T) {t t' : TypeId} {x : Operand} (h : qConv T t t' (ρ x) = some c) : EvQ P ⟨dst, .convert t t' x, ty, pos, af, gu⟩ ρ σ c := by
  unfold qConv at h
  split at h
  · rename_i h1 h2
    split at h
    · rename_i hx
      cases h
      exact ev_s2s hx (hT _ _ h1).ty (hT _ _ h2).ty
    · cases h
  · rename_i h1 h2
    split at h
    · rename_i hx
      cases h
      exact ev_i32u8 hx (hT _ _ h1).ty (hT _ _ h2).ty
    · cases h
  · rename_i h1 h2
    split at h
    · rename_i hx
      cases h
      exact ev_i32s hx (hT _ _ h1).ty (hT _ _ h2).ty
    · cases h
  · cases h
/-- operations that leave the world alone -/
theorem ev_nilCheck {x : Operand} {o off : Nat} (hx : ρ x = .ptr o off) : EvQ P ⟨dst, .nilCheck x, ty, pos, af, gu⟩ ρ σ (.ptr o off) :=
  ⟨fun c => by simp, fun g ρv h _ => by
    have h1 := h x (by simp [Op.operands])
    rw [hx] at h1
    generalize hv : ρv x = v at h1
    cases h1 with
    | @ptr _ _ b hl =>
      refine ⟨_, ?_, .ptr hl⟩
      simp [execOp, hv]⟩
def qval (T : Tab) (ρ : Operand → AV) (σ : Sto) : Op → Option AV
  | .move x => (ρ x).force
  | .assign x => (ρ x).force
  | .extract x i => (match ρ x with | .tup cs => (match cs[i]? with | some c => c.force | none => none) | _ => none)
  | .binOp op t x y _ => qBin T op t (ρ x) (ρ y)
  | .unOp .not _ x => (match ρ x with | .pv (.b (.bool b)) => some (.bo (!b)) | _ => none)
  | .pick c x y => (match ρ c with | .pv (.b (.bool b)) => (match b with | true => (ρ x).force | false => (ρ y).force) | _ => none)
  | .load t x => qLoad T σ t (ρ x)
  | .fieldAddr t x f => qFA T t f (ρ x)
  | .field t x f => qField T t f (ρ x)
  | .call ⟨.builtin .len, ⟨[x]⟩, ⟨[t]⟩⟩ => qLen T t (ρ x)
  | .build t ps => qBuild T t (ps.toList.map fun p => (p.1, ρ p.2))
  | .convert t t' x => qConv T t t' (ρ x)
  | .makeFunc f xs ys => (match forceL (xs.toList.map ρ), forceL (ys.toList.map ρ) with | some a, some b => some (.fn f a b) | _, _ => none)
  | .nilCheck x => (match ρ x with | .ptr o off => some (.ptr o off) | _ => none)
  | _ => none
theorem qval_ok (hT : TabOk P T) {op : Op} (h : qval T ρ σ op = some c) : EvQ P ⟨dst, op, ty, pos, af, gu⟩ ρ σ c := by
  unfold qval at h
  split at h
  · rw [← AV.force_eq h]; exact ev_move
  · rw [← AV.force_eq h]; exact ev_assign
  · split at h
    · rename_i hx
      split at h
      · rename_i hc; rw [← AV.force_eq h]; exact ev_extract hx hc
      · cases h
    · cases h
  · exact qBin_ok hT h
  · split at h
    · rename_i hx; cases h; exact ev_not hx
    · cases h
  · split at h
    · rename_i b hc
      cases b with
      | true => rw [← AV.force_eq h]; exact ev_pick_t hc rfl
      | false => rw [← AV.force_eq h]; exact ev_pick_f hc rfl
    · cases h
  · exact qLoad_ok hT h
  · exact qFA_ok hT h
  · exact qField_ok hT h
  · exact qLen_ok hT h
  · rename_i ps
    obtain ⟨ps⟩ := ps
    exact qBuild_ok hT h
  · exact qConv_ok hT h
  · rename_i f xs ys
    obtain ⟨xs⟩ := xs
    obtain ⟨ys⟩ := ys
    split at h
    · rename_i h1 h2
      cases h
      exact ev_makeFunc (forceL_eq h1) (forceL_eq h2)
    · cases h
  · split at h
    · rename_i hx; cases h; exact ev_nilCheck hx
    · cases h
  · cases h
end

section
variable {E : Env} {fr : Fr} {σ : Sto} {K : Post}
/-- one operation, its guard left aside -/
def opDo (T : Tab) (N : Nat) (o : Oper) (fr : Fr) (σ : Sto) : Option (Fr × Sto) := match o.dst with
  | some d => bif Nat.ble (d + 1) N then (match o.op with
    | .alloc t => (match T.get t with
      | some row => (match forceL (row.zero.cells.toList.map constAV) with
        | some cs => bif (row.zero.cells.toList.all cellV && !fr.has d && !σ.has d && !AV.hasL d cs) then some ((d, .ptr d 0) :: fr, (d, .cells cs) :: σ) else none
        | none => none)
      | none => none)
    | .box _ x => (match (fr.ev x).cells with
      | some cs0 => (match forceL cs0 with
        | some cs => bif (!fr.has d && !σ.has d && !AV.hasL d cs) then some ((d, .ptr d 0) :: fr, (d, .cells cs) :: σ) else none
        | none => none)
      | none => none)
    | op => (match qval T fr.ev σ op with
      | some c => some ((d, c) :: fr, σ)
      | none => none)) else none
  | none => (match o.op with
    | .store t x y => (match T.get t with
      | some row => (match fr.ev x with
        | .ptr b off => (match σ.get b with
          | some (.cells cs) => (match (fr.ev y).cells with
            | some vs => bif (Nat.beq vs.length row.size && Nat.ble (off + vs.length) cs.length) then (match forceL (splice cs off vs) with
              | some cs' => (match Sto.updF σ b (.cells cs') with
                | some σ' => some (fr, σ')
                | none => none)
              | none => none) else none
            | none => none)
          | _ => none)
        | _ => none)
      | none => none)
    | _ => none)
theorem updF_eq : ∀ {σ σ' : Sto} {o : Nat} {ob : AO}, Sto.updF σ o ob = some σ' → σ.upd o ob = σ'
  | [], _, _, _, h => by simp [Sto.updF] at h; subst h; rfl
  | (k, a) :: r, σ', o, ob, h => by
    unfold Sto.updF at h
    unfold Sto.upd
    cases hb : Nat.beq k o with
    | true => rw [hb] at h; cases h; rfl
    | false =>
      rw [hb] at h
      dsimp only at h
      split at h
      · rename_i r' hr
        cases h
        rw [updF_eq hr]; rfl
      · cases h
theorem opDo_ok {T : Tab} (hT : TabOk E.P T) {o : Oper} {fr' : Fr} {σ' : Sto} (h : opDo T E.N o fr σ = some (fr', σ')) : OpTo E o fr σ fr' σ' := by
  obtain ⟨dst, op, ty, pos, af, gu⟩ := o
  unfold opDo at h
  split at h
  · rename_i d hd
    dsimp only at hd
    subst hd
    cases hN : Nat.ble (d + 1) E.N with
    | false => rw [hN] at h; cases h
    | true =>
      rw [hN] at h
      simp only [cond_true] at h
      split at h
      · rename_i t
        split at h
        · rename_i row hr
          split at h
          · rename_i cs hcs
            cases hb : (row.zero.cells.toList.all cellV && !fr.has d && !σ.has d && !AV.hasL d cs) with
            | false => rw [hb] at h; cases h
            | true =>
              rw [hb] at h
              simp only [cond_true] at h
              cases h
              simp only [Bool.and_eq_true, Bool.not_eq_true'] at hb
              obtain ⟨⟨⟨h1, h2⟩, h3⟩, h4⟩ := hb
              exact opTo_alloc d hN (hT _ _ hr).ty (.inr ⟨forceL_eq hcs, h1⟩) h2 h3 h4
          · cases h
        · cases h
      · split at h
        · rename_i cs0 hc0
          split at h
          · rename_i cs hcs
            cases hb : (!fr.has d && !σ.has d && !AV.hasL d cs) with
            | false => rw [hb] at h; cases h
            | true =>
              rw [hb] at h
              simp only [cond_true] at h
              cases h
              simp only [Bool.and_eq_true, Bool.not_eq_true'] at hb
              obtain ⟨⟨h2, h3⟩, h4⟩ := hb
              rw [forceL_eq hcs] at hc0
              exact opTo_box d hN hc0 h2 h3 h4
          · cases h
        · cases h
      · split at h
        · rename_i c hc
          cases h
          exact opTo_q rfl hN (qval_ok hT hc)
        · cases h
  · rename_i hd
    dsimp only at hd
    subst hd
    split at h
    · subst_vars
      split at h
      · rename_i row hr
        split at h
        · rename_i b off hx
          split at h
          · rename_i cs ho
            split at h
            · rename_i vs hy
              cases hb : (Nat.beq vs.length row.size && Nat.ble (off + vs.length) cs.length) with
              | false => rw [hb] at h; cases h
              | true =>
                rw [hb] at h
                simp only [cond_true] at h
                simp only [Bool.and_eq_true] at hb
                split at h
                · rename_i cs' hcs
                  split at h
                  · rename_i s' hs'
                    cases h
                    have e1 := updF_eq hs'
                    rw [← forceL_eq hcs] at e1
                    rw [← e1]
                    exact opTo_store hx ho hy (hT _ _ hr).ty hb.1 hb.2
                  · cases h
                · cases h
            · cases h
          · cases h
        · cases h
      · cases h
    · cases h

/-- what is known less of is taken where more is known -/
def Mono (K : Post) : Prop := ∀ e fr σ fr' σ', FrLe fr fr' → StoLe σ σ' → K e fr' σ' → K e fr σ
theorem mono_kthen {y : Code} (h : Mono K) : Mono (kthen E y K) := fun e fr σ fr' σ' hf hs hk => by
  cases e <;> first | exact awp_le hf hs hk | exact h _ _ _ _ _ hf hs hk
theorem mono_kblock {id : Nat} (h : Mono K) : Mono (kblock id K) := fun e fr σ fr' σ' hf hs hk => by
  cases e
  case exit i =>
    simp only [kblock] at hk ⊢
    split
    · rename_i hi; rw [if_pos hi] at hk; exact h _ _ _ _ _ hf hs hk
    · rename_i hi; rw [if_neg hi] at hk; exact h _ _ _ _ _ hf hs hk
  all_goals exact h _ _ _ _ _ hf hs hk
theorem mono_join {J : Type} {frs : J → Fr} {stos : J → Sto} {M : J → Prop} (h : Mono K) : Mono (JoinK K frs stos M) := fun e fr σ fr' σ' hf hs hk => by
  cases e
  case normal =>
    obtain ⟨j, hm, h1, h2⟩ := hk
    exact ⟨j, hm, frLe_trans hf h1, stoLe_trans hs h2⟩
  all_goals exact h _ _ _ _ _ hf hs hk
theorem mono_scope (h : Mono K) : Mono (kscope K) := fun e fr σ fr' σ' hf hs hk => by
  cases e <;> first | exact h _ _ _ _ _ hf hs hk | exact hk.elim
theorem mono_at {e0 : Exit} {fr0 : Fr} {σ0 : Sto} : Mono (At e0 fr0 σ0) := fun e fr σ fr' σ' hf hs ⟨h1, h2, h3⟩ => ⟨h1, frLe_trans hf h2, stoLe_trans hs h3⟩
theorem mono_round {A R : Type} {frs : A → Fr} {stos : A → Sto} {e0 : R → Exit} {fr0 : R → Fr} {σ0 : R → Sto} {x : Step A R} : Mono (RoundK frs stos (fun b => At (e0 b) (fr0 b) (σ0 b)) x) := fun e fr σ fr' σ' hf hs hk => by
  cases x with
  | cont s => exact mono_at e fr σ fr' σ' hf hs hk
  | out r => exact ⟨hk.1, mono_at e fr σ fr' σ' hf hs hk.2⟩
theorem mono_kret {P : Program} {fn : Func} {r : AV} : Mono (Kret P fn r) := fun e fr σ fr' σ' hf hs ⟨h1, cs, h2, h3⟩ => ⟨h1, cs, h2.le hf hs, h3⟩

/-- what is to be done afterwards -/
inductive KS where
  | base (K : Post) (h : Mono K)
  | th (y : Code) (k : KS)
  | bl (id : Nat) (k : KS)
  | sc (k : KS)
  | jo {J : Type} (frs : J → Fr) (stos : J → Sto) (M : J → Prop) (k : KS)
def KS.post (E : Env) : KS → Post
  | .base K _ => K
  | .th y k => kthen E y (k.post E)
  | .bl id k => kblock id (k.post E)
  | .sc k => kscope (k.post E)
  | .jo frs stos M k => JoinK (k.post E) frs stos M
theorem KS.mono (E : Env) : ∀ k : KS, Mono (k.post E)
  | .base _ h => h
  | .th _ k => mono_kthen (k.mono E)
  | .bl _ k => mono_kblock (k.mono E)
  | .sc k => mono_scope (k.mono E)
  | .jo _ _ _ k => mono_join (k.mono E)
/-- where a walk stands -/
inductive GS where
  | ops (ops : Array Oper) (l : List Oper) (fr : Fr) (σ : Sto) (k : KS)
  | code (c : Code) (fr : Fr) (σ : Sto) (k : KS)
  | at (e : Exit) (fr : Fr) (σ : Sto) (k : KS)
def GS.holds (E : Env) : GS → Prop
  | .ops o l fr σ k => AWPL E o l fr σ (k.post E)
  | .code c fr σ k => AWP E c fr σ (k.post E)
  | .at e fr σ k => k.post E e fr σ
/-- one step -/
def GS.step (T : Tab) (N : Nat) : GS → Option GS
  | .ops o l fr σ k => (match l with
    | [] => some (.at .normal fr σ k)
    | x :: rest => (match x.guard with
      | none => (match opDo T N x fr σ with | some (fr', σ') => some (.ops o rest fr' σ' k) | none => none)
      | some (j, want) => (match (o[j]?).bind (·.dst) with
        | none => none
        | some d => (match fr.get d with
          | .pv (.b (.bool t)) => (match (match t, want with | true, w => w | false, w => !w) with
            | true => (match opDo T N x fr σ with | some (fr', σ') => some (.ops o rest fr' σ' k) | none => none)
            | false => (match x.dst with | some d => some (.ops o rest ((d, .tup []) :: fr) σ k) | none => some (.ops o rest fr σ k)))
          | .tup [] => (match x.dst with | some d => some (.ops o rest ((d, .tup []) :: fr) σ k) | none => some (.ops o rest fr σ k))
          | _ => none))))
  | .code c fr σ k => (match c with
    | .seq x y => some (.code x fr σ (.th y k))
    | .region _ os draw => (match draw with | false => some (.ops os os.toList fr σ k) | true => none)
    | .block id x => some (.code x fr σ (.bl id k))
    | .scope x => some (.code x fr σ (.sc k))
    | .label _ => some (.at .normal fr σ k)
    | .skip => some (.at .normal fr σ k)
    | .ret => some (.at .ret fr σ k)
    | .exit i => some (.at (.exit i) fr σ k)
    | .cond v x y => (match fr.ev v with
      | .pv (.b (.bool t)) => (match t with | true => some (.code x fr σ k) | false => some (.code y fr σ k))
      | _ => none)
    | _ => none)
  | .at e fr σ k => (match k with
    | .base _ _ => none
    | .th y k => (match e with
      | .normal => some (.code y fr σ k)
      | .ret => some (.at .ret fr σ k)
      | .exit i => some (.at (.exit i) fr σ k)
      | _ => none)
    | .bl id k => (match e with
      | .normal => some (.at .normal fr σ k)
      | .ret => some (.at .ret fr σ k)
      | .exit i => (match Nat.beq i id with | true => some (.at .normal fr σ k) | false => some (.at (.exit i) fr σ k))
      | _ => none)
    | .sc k => (match e with
      | .normal => some (.at .normal fr σ k)
      | .ret => some (.at .ret fr σ k)
      | .exit i => some (.at (.exit i) fr σ k)
      | _ => none)
    | .jo _ _ _ k => (match e with
      | .ret => some (.at .ret fr σ k)
      | .exit i => some (.at (.exit i) fr σ k)
      | _ => none))
def GS.run (T : Tab) (N : Nat) : Nat → GS → Option GS
  | 0, g => some g
  | n + 1, g => match GS.step T N g with
    | some g' => GS.run T N n g'
    | none => none
theorem step_ok {T : Tab} (hT : TabOk E.P T) {g g' : GS} (h : GS.step T E.N g = some g') (hh : g'.holds E) : g.holds E := by
  unfold GS.step at h
  split at h
  · rename_i o l fr σ k
    split at h
    · cases h; exact awpl_nil hh
    · rename_i x rest
      split at h
      · rename_i hg
        split at h
        · rename_i fr' σ' ho; cases h; exact awpl_op hg (opDo_ok hT ho) hh
        · cases h
      · rename_i j want hg
        split at h
        · cases h
        · rename_i d hj
          split at h
          · rename_i t hv
            split at h
            · rename_i hw
              have ht : t = want := by cases t <;> cases want <;> simp_all
              split at h
              · rename_i fr' σ' ho; cases h; exact awpl_yes hg hj hv ht (opDo_ok hT ho) hh
              · cases h
            · rename_i hw
              have ht : t = !want := by cases t <;> cases want <;> simp_all
              split at h
              · rename_i d' hd; cases h; exact awpl_no hg hj hv ht (by rw [hd]; exact hh)
              · rename_i hd; cases h; exact awpl_no hg hj hv ht (by rw [hd]; exact hh)
          · rename_i hv
            split at h
            · rename_i d' hd; cases h; exact awpl_none hg hj hv (by rw [hd]; exact hh)
            · rename_i hd; cases h; exact awpl_none hg hj hv (by rw [hd]; exact hh)
          · cases h
  · rename_i c fr σ k
    split at h
    · cases h; exact awp_seq hh
    · rename_i id ops draw
      cases draw with
      | false => cases h; obtain ⟨ops⟩ := ops; exact awp_region hh
      | true => cases h
    · cases h; exact awp_block hh
    · cases h; exact awp_scope hh
    · cases h; exact awp_label hh
    · cases h; exact awp_skip hh
    · cases h; exact awp_ret hh
    · cases h; exact awp_exit hh
    · split at h
      · rename_i t hv
        cases t with
        | true => cases h; exact awp_cond hv (fun _ => hh) (fun h => nomatch h)
        | false => cases h; exact awp_cond hv (fun h => nomatch h) (fun _ => hh)
      · cases h
    · cases h
  · rename_i e fr σ k
    split at h
    · cases h
    · split at h <;> first | (cases h; done) | (cases h; exact hh)
    · split at h
      · cases h; exact hh
      · cases h; exact hh
      · rename_i id k _ i
        cases hb : Nat.beq i id with
        | true => rw [hb] at h; cases h; have := Nat.eq_of_beq_eq_true hb; subst this; exact kblock_exit hh
        | false => rw [hb] at h; cases h; exact kblock_other hb hh
      · cases h
    · split at h <;> first | (cases h; done) | (cases h; exact hh)
    · split at h <;> first | (cases h; done) | (cases h; exact hh)
theorem rn {T : Tab} (hT : TabOk E.P T) (n : Nat) {g g' : GS} (h : GS.run T E.N n g = some g') (hh : g'.holds E) : g.holds E := by
  induction n generalizing g with
  | zero => simp only [GS.run, Option.some.injEq] at h; subst h; exact hh
  | succ n ih =>
    unfold GS.run at h
    split at h
    · rename_i g1 h1; exact step_ok hT h1 (ih h)
    · cases h
end
end Go.Proofs.Ytpclhpncmlbccaa

/- The abstract calculus: bytes of a text that are written where they lie. No program is named. -/
namespace Go.Proofs.Ytpclhpncmlbccaa
open Go.RowKit Go.Lib

variable {E : Env} {fr : Fr} {σ : Sto} {K : Post} {P : Program} {ρ : Operand → AV}
variable {dst : Option Tmp} {ty : TypeId} {pos : String} {af : Array Edge} {gu : Option (Nat × Bool)} {x y : Operand} {r : Nat} {l : List UInt8} {t tx e : TypeId}
theorem RelO.bufs {g : G} {v : Value} (h : RelO g r (.buf l)) (hv : Rel g (.hs r 0) v) : ∃ a e b cap vs, v = .slice (some a) l.length cap ∧ (0 < cap → a = ⟨b, 0, none⟩) ∧ g.loc r = .row b 0 cap 1 l.length ∧ g.w.heap[b]? = some (.cells vs e (cap, cap + 1)) ∧ vs.size = cap ∧ l.length ≤ cap ∧ g.u b = 0 ∧ ∀ i c, l[i]? = some c → vs.getD i undef = .int .u8 (c.toNat : Int) := by
  cases h with
  | @buf _ e b cap vs h1 h2 h3 h4 h5 h6 =>
    cases hv with
    | hsNil a hl => rw [h1] at hl; cases hl
    | @hs _ b' off' cap' size' n' a hl ha =>
      rw [h1] at hl
      cases hl
      exact ⟨a, e, b, cap, vs, rfl, fun hc => by simpa using ha hc, h1, h2, h3, h4, h5, h6⟩
theorem ev_buflen (hx : ρ x = .hs r 0) (hr : σ.get r = some (.buf l)) (ht : P.underlying t = some (.slice tx)) : EvQ P ⟨dst, .call ⟨.builtin .len, #[x], #[t]⟩, ty, pos, af, gu⟩ ρ σ (.i l.length) :=
  ⟨fun c => by simp, fun g ρv h hs => by
    have h1 := h x (by simp [Op.operands, Call.operands])
    rw [hx] at h1
    obtain ⟨a, e, b, cap, vs, ev, _⟩ := (hs r _ hr).bufs h1
    refine ⟨.int .i64 l.length, ?_, .pv (.b rfl)⟩
    simp [execOp, resolve, invoke, builtin, Builtin.len_, ev, go_sem, underlying, ht, goInt]⟩
section
variable {n : Int} {kk : IntKind} {v v' : UInt8} {ss sb s1 s2 : Nat} {sz zero : Value}
theorem ev_bufidx (hx : ρ x = .hs r 0) (hy : ρ y = .pv (.b (.int kk n))) (hr : σ.get r = some (.buf l)) (ht : TyOk P t ss sb sz (.slice e)) (he : TyOk P e 1 s2 zero (.int .u8)) (hv : idx l n = some v) :
    EvQ P ⟨dst, .indexAddr t x y, ty, pos, af, gu⟩ ρ σ (.hp r n.toNat 0) :=
  ⟨fun c => by simp, fun g ρv h hs => by
    obtain ⟨h1, h2⟩ := ops2 (o := ⟨dst, .indexAddr t x y, ty, pos, af, gu⟩) (x := x) (y := y) rfl h
    rw [hx] at h1
    rw [hy] at h2
    have e2 := rel_b h2
    obtain ⟨hn0, hv⟩ := idx_spec hv
    have hlt : n.toNat < l.length := (List.getElem?_eq_some_iff.1 hv).1
    have hn2 : n < l.length := by omega
    obtain ⟨i, hi, hsz, hby, hzero⟩ := he.info
    obtain ⟨a, e', b, cap, vs, ev, ha, hl, _, _, hle, _, _⟩ := (hs r _ hr).bufs h1
    have ha := ha (by omega)
    subst ha
    refine ⟨.pointer (some ⟨b, (0 + n.toNat) * 1 + 0, none⟩), ?_, .hp hl hlt⟩
    simp [execOp, Instr.indexAt, e2, ev, go_sem, asIntOf, underlying, ht.u, sizeOf, typeInfo, hi, hsz, hn0, hn2, addr_add]⟩
theorem RelO.bufp {g : G} {i : Nat} {vp : Value} (h : RelO g r (.buf l)) (hp : Rel g (.hp r i 0) vp) : ∃ e b cap vs, vp = .pointer (some ⟨b, i, none⟩) ∧ g.loc r = .row b 0 cap 1 l.length ∧ g.w.heap[b]? = some (.cells vs e (cap, cap + 1)) ∧ vs.size = cap ∧ l.length ≤ cap ∧ g.u b = 0 ∧ ∀ i c, l[i]? = some c → vs.getD i undef = .int .u8 (c.toNat : Int) := by
  cases h with
  | @buf _ e b cap vs h1 h2 h3 h4 h5 h6 =>
    cases hp with
    | hp hl hi =>
      rw [h1] at hl
      cases hl
      exact ⟨e, b, cap, vs, by simp, h1, h2, h3, h4, h5, h6⟩
theorem ev_bufload (hx : ρ x = .hp r n.toNat 0) (hr : σ.get r = some (.buf l)) (ht : TyOk P t ss sb sz (.int .u8)) (hv : idx l n = some v) : EvQ P ⟨dst, .load t x, ty, pos, af, gu⟩ ρ σ (.pv (pU v)) :=
  ⟨fun c => by simp, fun g ρv h hs => by
    have h1 := h x (by simp [Op.operands])
    rw [hx] at h1
    obtain ⟨hn0, hv⟩ := idx_spec hv
    obtain ⟨e, b, cap, vs, e1, e2, e3, e4, e5, e6, e7⟩ := (hs r _ hr).bufp h1
    have hlt := (List.getElem?_eq_some_iff.1 hv).1
    refine ⟨_, run_load_op e1 (run_loadVar1 ht rfl (cell_of_heap e3 (by omega))), ?_⟩
    rw [e7 _ _ hv]
    exact .pv (.b rfl)⟩
theorem ev_buf2s (hx : ρ x = .hs r 0) (hr : σ.get r = some (.buf l)) (ht : TyOk P t ss sb sz (.slice e)) (he : TyOk P e s1 s2 zero (.int .u8)) {ss' sb' : Nat} {sz' : Value} (htx : TyOk P tx ss' sb' sz' .string) :
    EvQ P ⟨dst, .convert t tx x, ty, pos, af, gu⟩ ρ σ (.s l) :=
  ⟨fun c => by simp, fun g ρv hh hs => by
    have h1 := hh x (by simp [Op.operands])
    rw [hx] at h1
    obtain ⟨a, e', b, cap, vs, ev, ha, hl, hb, hcap, hle, _, hc⟩ := (hs r _ hr).bufs h1
    refine ⟨.string (strB l), ?_, .pv (.b rfl)⟩
    show Sem.run P (do let v ← convert t tx (ρv x); pure (Next.value v)) g.w = _
    suffices hs : Sem.run P (convert t tx (ρv x)) g.w = .ok (.string (strB l)) g.w by rw [Sem.run_bind, hs]; rfl
    rw [ev, run_convert_bytes_string g.w t tx e _ _ _ ht.u he.u htx.u]
    have hload := run_loadCells_list (P := P) g.w a (l.map fun c => Value.int .u8 (c.toNat : Int)) (fun i w hi => by
      simp only [List.getElem?_map, Option.map_eq_some_iff] at hi
      obtain ⟨c, hc1, rfl⟩ := hi
      have hlt := (List.getElem?_eq_some_iff.1 hc1).1
      rw [ha (by omega), addr_add, Nat.zero_add, cell_of_heap hb (by omega), hc i c hc1])
    rw [List.length_map] at hload
    have hr := run_bytesToString (P := P) g.w a l.length cap (l.map fun c => (c.toNat : Int)) (by rw [hload, List.map_map]; rfl)
    rw [hr, foldl_push_bytes]
    simp [strB, Function.comp_def]⟩
theorem opTo_bufstore (hx : fr.ev x = .hp r n.toNat 0) (hr : σ.get r = some (.buf l)) (hy : (fr.ev y).weak = .pv (pU v')) (ht : TyOk E.P t 1 s2 zero (.int .u8)) (hv : idx l n = some v) :
    OpTo E ⟨none, .store t x y, ty, pos, af, gu⟩ fr σ fr (σ.upd r (.buf (l.set n.toNat v'))) :=
  ⟨fun g a K Q hst hK => by
    refine ⟨fun _ _ => trivial, ?_⟩
    rw [Oper.semAt_plain _ _ _ (fun c => by simp)]
    have h1 := hst.ev x
    rw [hx] at h1
    obtain ⟨hn0, hv⟩ := idx_spec hv
    obtain ⟨e, b, cap, cur, e1, e2, e3, e4, e5, e6, e7⟩ := (hst.so.obj r _ hr).bufp h1
    have hlt := (List.getElem?_eq_some_iff.1 hv).1
    have hvy : a.eval y = .int .u8 (v'.toNat : Int) := by
      have h2 := rel_weak (hst.ev y)
      rw [hy] at h2
      exact rel_b h2
    have hcell : g.w.cell? ⟨b, n.toNat, none⟩ = some (cur.getD n.toNat undef) := cell_of_heap e3 (by omega)
    have hfro : g.w.frozen? ⟨b, n.toNat, none⟩ = false := by
      simp only [World.frozen?, e3, Bool.and_eq_false_iff, decide_eq_false_iff_not]
      left; omega
    have hst1 : (store ((⟨b, n.toNat, none⟩ : Addr).add 0) (.int .u8 (v'.toNat : Int))).run E.P g.w = .ok () (g.w.setRow b (cur.setIfInBounds n.toNat (.int .u8 (v'.toNat : Int)))) := by
      rw [addr_add, Nat.add_zero, run_store E.P g.w _ _ _ rfl, hcell]
      simp [hfro, setCell_eq_setRow g.w b n.toNat cur e (cap, cap + 1) _ e3]
    have hrun : (execOp a.eval ⟨none, .store t x y, ty, pos, af, gu⟩).run E.P g.w = .ok .skip (g.w.setRow b (cur.setIfInBounds n.toNat (.int .u8 (v'.toNat : Int)))) := by
      show Sem.run E.P (do Instr.storeAt t (a.eval x) (a.eval y); pure Next.skip) g.w = _
      rw [e1, hvy]
      simp only [Instr.storeAt, Instr.sureAddr, storeVar, Sem.run_bind, Sem.run_pure, Result.andThen_ok, ht.sizeOf]
      rw [if_neg (by simp [Value.cells])]
      simp only [Value.cells, Sem.run_bind, Sem.run_pure, Result.andThen_ok, storeCells, hst1]
    rw [hrun, Oper.uponIn_skip]
    generalize hnew : cur.setIfInBounds n.toNat (.int .u8 (v'.toNat : Int)) = new
    have hnsz : new.size = cur.size := by rw [← hnew]; simp
    have hheap : ∀ k, k ≠ b → (g.w.setRow b new).heap[k]? = g.w.heap[k]? := fun k hk => by
      simp only [World.setRow, Array.getElem?_modify]; rw [if_neg (Ne.symm hk)]
    have hnewb := setRow_heap g.w b cur new e _ e3
    have hsz : (g.w.setRow b new).heap.size = g.w.heap.size := by simp [World.setRow]
    have hxx : Ext g.w g.u (g.w.setRow b new) g.u := ⟨Nat.le_of_eq hsz.symm, fun _ _ => Nat.le_refl _, fun k i hk hi => by
      by_cases hkb : k = b
      · subst hkb; omega
      · simp only [World.cell?]; rw [hheap k hkb], fun r' hr' => (hheap r' (by rintro rfl; rw [e3] at hr'; cases hr')).trans hr'⟩
    refine hK ⟨g.w.setRow b new, g.u, g.loc⟩ _ (St.put_none (hst.objset hr hxx rfl rfl rfl rfl (fun k hk hne => ⟨hheap k (by rintro rfl; exact hne (by rw [e2]; rfl)), rfl⟩) (wf_same hst.so.wf (Nat.le_of_eq hsz.symm) _) ?_ (fun _ => rfl)))
    refine .buf (by rw [List.length_set]; exact e2) hnewb (by rw [hnsz, e4]) (by simpa using e5) e6 fun i c hi => ?_
    rw [← hnew, Array.getD_eq_getD_getElem?, Array.getElem?_setIfInBounds]
    by_cases hin : n.toNat = i
    · subst hin
      rw [List.getElem?_set_self hlt] at hi
      cases hi
      rw [if_pos rfl, if_pos (by omega)]; rfl
    · rw [if_neg hin]
      rw [List.getElem?_set_ne hin] at hi
      have := e7 i c hi
      rw [Array.getD_eq_getD_getElem?] at this
      exact this⟩
end
/-- []byte(s), to be written -/
theorem opTo_s2buf {k : Nat} {t t' e : TypeId} {x : Operand} {s : Str} {ss sb ss' sb' s1 s2 : Nat} {sz sz' z : Value} (r : Nat) (hN : Nat.ble (k + 1) E.N = true) (hfr : fr.has r = false) (hsr : σ.has r = false) (hx : fr.ev x = .s s) (ht : TyOk E.P t ss sb sz .string) (ht' : TyOk E.P t' ss' sb' sz' (.slice e)) (he : TyOk E.P e s1 s2 z (.int .u8)) :
    OpTo E ⟨some k, .convert t t' x, ty, pos, af, gu⟩ fr σ ((k, .hs r 0) :: fr) ((r, .buf s) :: σ) :=
  ⟨fun g a K Q hst hK => by
    refine ⟨fun _ _ => trivial, ?_⟩
    rw [Oper.semAt_plain _ _ _ (fun c => by simp)]
    have h1 := hst.ev x
    rw [hx] at h1
    have e1 := rel_b h1
    generalize hcap : (Question.appendCap s.length 0 e).cut (g.w.tape g.w.drawn (.appendCap s.length 0 e)) = cap
    have hge : s.length ≤ cap := by rw [← hcap]; simp [Question.cut]
    generalize hcells : ((strB s).data.map (fun b => Value.int .u8 (b.toNat : Int)) ++ Array.replicate (cap - s.length) (Value.int .u8 0)) = cells
    have hsz : cells.size = cap := by rw [← hcells]; simp [strB]; omega
    have hget : ∀ i c, s[i]? = some c → cells.getD i undef = .int .u8 (c.toNat : Int) := by
      intro i c hi
      have hlt := (List.getElem?_eq_some_iff.1 hi).1
      rw [← hcells, Array.getD_eq_getD_getElem?, Array.getElem?_append_left (by simpa [strB] using hlt)]
      simp [strB, hi]
    have hrun : (execOp a.eval ⟨some k, .convert t t' x, ty, pos, af, gu⟩).run E.P g.w = .ok (.value (.slice (some ⟨g.w.heap.size, 0, none⟩) s.length cap)) ((g.w.drew.alloc (.cells cells e)).freeze ⟨g.w.heap.size, cap, none⟩ 1) := by
      show Sem.run E.P (do let v ← convert t t' (a.eval x); pure (Next.value v)) g.w = _
      rw [e1]
      have hsh : (g.w.drew.alloc (.cells cells e)).shape? g.w.heap.size = some (e, cap) := by
        simp only [World.shape?]
        rw [show (g.w.drew.alloc (.cells cells e)).heap[g.w.heap.size]? = some (.cells cells e (0, 0)) from heap_alloc_new g.w.drew _]
        simp [hsz]
      simp only [convert, underlying, program, Sem.run_bind, Sem.run, ht.u, ht'.u, he.u, Result.andThen_ok, Sem.run_pure, Conv.stringToBytes, choose, Question.forced, Bool.false_eq_true, if_false, strB_size, hcap, hcells, newRow, newObj, markStringish, shape, freeze]
      show Result.andThen (Result.andThen (Sem.run E.P (match (g.w.drew.alloc (.cells cells e)).shape? g.w.heap.size with | some (_, n) => Sem.freeze ⟨g.w.heap.size, n, none⟩ 1 (Sem.pure ()) | _ => pure ()) (g.w.drew.alloc (.cells cells e))) fun _ w' => .ok (Value.slice (some ⟨g.w.heap.size, 0, none⟩) s.length cap) w') (fun v w' => .ok (Next.value v) w') = _
      rw [hsh]
      rfl
    rw [hrun, Oper.uponIn_value]
    generalize hw : (g.w.drew.alloc (.cells cells e)).freeze ⟨g.w.heap.size, cap, none⟩ 1 = w'
    have hblk : w'.heap[g.w.heap.size]? = some (.cells cells e (cap, cap + 1)) := by
      subst hw
      simp only [World.freeze, Nat.one_ne_zero, if_false, Array.getElem?_modify, if_true]
      rw [show (g.w.drew.alloc (.cells cells e)).heap[g.w.heap.size]? = some (.cells cells e (0, 0)) from heap_alloc_new g.w.drew _]
      rfl
    have hother : ∀ q, q < g.w.heap.size → w'.heap[q]? = g.w.heap[q]? := by
      intro q hq
      subst hw
      simp only [World.freeze, Nat.one_ne_zero, if_false, Array.getElem?_modify]
      rw [if_neg (by omega)]
      exact Below.heap_alloc g.w.drew _ _ hq
    have hws : w'.heap.size = g.w.heap.size + 1 := by subst hw; simp [World.freeze]
    have hold : Old (fun _ => False) g ⟨w', fun q => if q = g.w.heap.size then 0 else g.u q, fun q => if q = r then .row g.w.heap.size 0 cap 1 s.length else g.loc q⟩ := by
      refine ⟨by subst hw; first | (simp [World.freeze]; done) | (simp [World.freeze]; rfl), by subst hw; first | (simp [World.freeze]; done) | (simp [World.freeze]; rfl), by subst hw; first | (simp [World.freeze]; done) | (simp [World.freeze]; rfl), ⟨by show _ ≤ w'.heap.size; omega, fun q hq => ?_, fun q i hq hi => ?_, ?_⟩, fun q hq _ => ⟨hother q hq, if_neg (by omega)⟩⟩
      · show g.u q ≤ if q = g.w.heap.size then 0 else g.u q
        rw [if_neg (by omega)]; exact Nat.le_refl _
      · simp only [World.cell?]; rw [hother q hq]
      · intro r' hr'; exact (hother r' (blk_lt hr')).trans hr'
    have hwf : Wf ⟨w', fun q => if q = g.w.heap.size then 0 else g.u q, fun q => if q = r then .row g.w.heap.size 0 cap 1 s.length else g.loc q⟩ := by
      intro q hq
      have hq : g.w.heap.size + 1 ≤ q := by rw [← hws]; exact hq
      show (if q = g.w.heap.size then 0 else g.u q) = 0
      rw [if_neg (by omega)]
      exact hst.so.wf q (by omega)
    have hst' := hst.addObj r (ob := .buf s) hfr hsr hold hwf (fun q hq => if_neg hq) (.buf (if_pos rfl) hblk hsz hge (if_pos rfl) hget) (fun b hb => by
      simp only [AO.own, if_true, Loc.block] at hb
      cases hb; exact Nat.le_refl _)
    exact hK _ _ (hst'.put (Nat.le_of_ble_eq_true hN) (.hs (if_pos rfl) (fun _ => by simp)))⟩
end Go.Proofs.Ytpclhpncmlbccaa

/- The abstract calculus: rows of zeros (append of a make). No program is named. -/
namespace Go.Proofs.Ytpclhpncmlbccaa
open Go.RowKit Go.Lib

variable {E : Env} {fr : Fr} {σ : Sto} {K : Post} {P : Program} {ρ : Operand → AV}
variable {dst : Option Tmp} {ty : TypeId} {pos : String} {af : Array Edge} {gu : Option (Nat × Bool)}
/-- n zeros, at least one, within a bound -/
def zrep {α : Type} (lim : Nat) (n : Int) (z : α) : Option (List α) := if 0 < n ∧ n.toNat ≤ lim then some (List.replicate n.toNat z) else none
section
variable {α : Type} {F : α → List PV} {r' : List α} {r size bytes sb ss s1 b1 k lim : Nat} {e t tn : TypeId} {zero sz z1 : Value} {d d1 : TypeDesc} {x y : Operand} {n : Int} {kn : IntKind} {z : α}
theorem ev_capnil (hx : ρ x = .pv (.sl (some true) [])) (ht : P.underlying t = some (.slice e)) : EvQ P ⟨dst, .call ⟨.builtin .cap, #[x], #[t]⟩, ty, pos, af, gu⟩ ρ σ (.i 0) :=
  ⟨fun c => by simp, fun g ρv h hs => by
    have h1 := h x (by simp [Op.operands, Call.operands])
    rw [hx] at h1
    have e1 := rel_nil h1
    refine ⟨.int .i64 0, ?_, .pv (.b rfl)⟩
    simp [execOp, resolve, invoke, builtin, Builtin.cap_, e1, go_sem, underlying, ht, goInt]⟩
theorem ev_lennil (hx : ρ x = .pv (.sl (some true) [])) (ht : P.underlying t = some (.slice e)) : EvQ P ⟨dst, .call ⟨.builtin .len, #[x], #[t]⟩, ty, pos, af, gu⟩ ρ σ (.i 0) :=
  ⟨fun c => by simp, fun g ρv h hs => by
    have h1 := h x (by simp [Op.operands, Call.operands])
    rw [hx] at h1
    have e1 := rel_nil h1
    refine ⟨.int .i64 0, ?_, .pv (.b rfl)⟩
    simp [execOp, resolve, invoke, builtin, Builtin.len_, e1, go_sem, underlying, ht, goInt]⟩
theorem ev_slnil {k1 : IntKind} (hx : ρ x = .pv (.sl (some true) [])) (hy : ρ y = .pv (.b (.int k1 0))) (ht : TyOk P t ss sb sz (.slice e)) (he : TyOk P e size bytes zero d) : EvQ P ⟨dst, .slice t x none (some y) none, ty, pos, af, gu⟩ ρ σ (.pv (.sl (some true) [])) :=
  ⟨fun c => by simp, fun g ρv hh hs => by
    have h1 := hh x (by simp [Op.operands])
    have h2 := hh y (by simp [Op.operands])
    rw [hx] at h1
    rw [hy] at h2
    have e1 := rel_nil h1
    have e2 := rel_b h2
    refine ⟨.slice none 0 0, ?_, by rw [← e1]; exact h1⟩
    show Sem.run P (do let v ← Instr.sliceAt t (ρv x) (Option.map ρv none) ((some y).map ρv) none; pure (Next.value v)) g.w = _
    have hb := run_sliceBounds (P := P) (w := g.w) (len := 0) (cap := 0) (lo := Option.map ρv none) (hi := (some y).map ρv) (a := 0) (b := 0) (Nat.le_refl _) (.inl ⟨rfl, rfl⟩) (.inr ⟨k1, by simp [e2]⟩) (Int.le_refl _) (Int.le_refl _) (Int.le_refl _)
    rw [e1]
    simp only [Instr.sliceAt, underlying, program, Sem.run_bind, Sem.run, ht.u, Result.andThen_ok, Sem.run_pure, Instr.slice, hb, he.sizeOf]
    rfl⟩
theorem opTo_appendn (r : Nat) (hN : Nat.ble (k + 1) E.N = true) (hfr : fr.has r = false) (hsr : σ.has r = false) (hx : fr.ev x = .pv (.sl (some true) [])) (hy : fr.ev y = .i n) (ht : TyOk E.P t ss sb sz (.slice e)) (htn : TyOk E.P tn s1 b1 z1 (.int kn)) (he : TyOk E.P e size bytes zero d)
    (hzz : (Nat.beq zero.cells.size size && Nat.ble 1 size && zero.cells.toList.all cellV) = true) (hz : zero.cells.toList.map constPV = F z) (hlim : (Nat.ble (lim * bytes) 140737488355328 && Nat.ble lim 140737488355328) = true) (h : zrep lim n z = some r') :
    OpTo E ⟨some k, .call ⟨.builtin .append, #[x, y], #[t, tn]⟩, ty, pos, af, gu⟩ fr σ ((k, .hs r 0) :: fr) ((r, .row e true size (r'.map F)) :: σ) :=
  ⟨fun g a K Q hst hK => by
    simp only [Bool.and_eq_true] at hzz hlim
    have hz1 := Nat.eq_of_beq_eq_true hzz.1.1
    have hz2 := Nat.le_of_ble_eq_true hzz.1.2
    have hz3 := hzz.2
    rw [List.all_eq_true] at hz3
    have hl1 := Nat.le_of_ble_eq_true hlim.1
    have hl2 := Nat.le_of_ble_eq_true hlim.2
    unfold zrep at h
    split at h
    · rename_i hc
      obtain ⟨hn0, hnl⟩ := hc
      cases h
      refine ⟨fun _ _ => trivial, ?_⟩
      rw [Oper.semAt_plain _ _ _ (fun c => by simp)]
      have h1 := hst.ev x
      rw [hx] at h1
      have e1 := rel_nil h1
      have h2 := hst.ev y
      rw [hy] at h2
      have e2 := rel_b h2
      obtain ⟨m, rfl⟩ : ∃ m : Nat, n = (m : Int) := ⟨n.toNat, by omega⟩
      simp only [Int.toNat_natCast] at hnl ⊢
      have hm0 : 0 < m := by omega
      obtain ⟨i, hi, hsz, hby, hzero⟩ := he.info
      have hbytes : m * i.bytes ≤ 281474976710656 := by
        rw [hby]
        have : m * bytes ≤ lim * bytes := Nat.mul_le_mul_right _ hnl
        omega
      have hr := run_append_nil_zeros (P := E.P) g.w t tn ty e i zero .i64 kn ht.u htn.u hi hzero m hm0 (by omega) (by omega) hbytes
      rw [run_append_op (x := x) (y := y) (w := g.w) (by rw [e1, e2]; exact hr), Oper.uponIn_value]
      have hge := grownCap_ge g.w m 0 e
      have hmax := grownCap_le_maxLen g.w m 0 e (by unfold maxLen; omega)
      generalize hcap : grownCap g.w m 0 e = cap at hge hmax
      generalize hcells : Builtin.zeroCells zero.cells m ++ Builtin.zeroCells zero.cells (cap - m) = cells
      have hcsz : cells.size = cap * size := by
        rw [← hcells]
        simp only [Array.size_append, size_zeroCells, hz1, ← Nat.add_mul]
        congr 1; omega
      have hget : ∀ q, q < m * size → cells.toList[q]? = zero.cells.toList[q % size]? := by
        intro q hq
        rw [← hcells, Array.toList_append, List.getElem?_append_left (by rw [Array.length_toList, size_zeroCells, hz1]; exact hq), zeroCells_get (by rw [hz1]; exact hq), hz1]
      let gd : G := ⟨g.w.drew, g.u, g.loc⟩
      have hFz : (F z).length = size := by rw [← hz, List.length_map, Array.length_toList, hz1]
      have hold := old_alloc gd cells e 0 r (.row g.w.heap.size 0 cap size m)
      have hold' : Old (fun _ => False) g (gd.alloc cells e 0 r (.row g.w.heap.size 0 cap size m)) := ⟨hold.os, hold.tape, hold.output, ⟨hold.ext.1, hold.ext.2, hold.ext.3, hold.ext.4⟩, hold.block⟩
      have hwf := wf_alloc (g := gd) hst.so.wf cells e 0 r (.row g.w.heap.size 0 cap size m)
      have hblk : (gd.alloc cells e 0 r (.row g.w.heap.size 0 cap size m)).w.heap[g.w.heap.size]? = some (.cells cells e (0, 0)) := heap_alloc_new g.w.drew _
      have hloc : (gd.alloc cells e 0 r (.row g.w.heap.size 0 cap size m)).loc r = .row g.w.heap.size 0 cap size m := if_pos rfl
      have hst' := hst.addObj r (ob := .row e true size ((List.replicate m z).map F)) hfr hsr hold' hwf (fun q hq => if_neg hq) (.row (off := 0) (by rw [hloc]; simp) hblk (by rw [Nat.zero_add]; exact hcsz) hmax (by simpa using hge) (fun w hw => by
          obtain ⟨w', hw', rfl⟩ := List.mem_map.1 hw
          rw [List.mem_replicate] at hw'
          rw [hw'.2, hFz]) (by show (if g.w.heap.size = g.w.heap.size then 0 else _) ≤ _; simp) (fun _ => if_pos rfl) (fun i' j w c hi' hj => by
          simp only [List.getElem?_map, Option.map_eq_some_iff] at hi'
          obtain ⟨w', hw', rfl⟩ := hi'
          have him : i' < m := by have := (List.getElem?_eq_some_iff.1 hw').1; simpa using this
          have : w' = z := by have := List.mem_of_getElem? hw'; rw [List.mem_replicate] at this; exact this.2
          subst this
          have hjs : j < size := by rw [← hFz]; exact (List.getElem?_eq_some_iff.1 hj).1
          have hq : i' * size + j < m * size := by
            have : (i' + 1) * size ≤ m * size := Nat.mul_le_mul_right _ (by omega)
            rw [Nat.add_mul] at this; omega
          rw [← hz, List.getElem?_map, Option.map_eq_some_iff] at hj
          obtain ⟨u, hu, rfl⟩ := hj
          have h5 := hget (i' * size + j) hq
          rw [Nat.mul_comm i', Nat.mul_add_mod, Nat.mod_eq_of_lt hjs, hu, Nat.mul_comm size] at h5
          rw [Nat.zero_add, Array.getD_eq_getD_getElem?, ← Array.getElem?_toList, h5]
          exact relP_constPV _ _ u (hz3 u (List.mem_of_getElem? hu)))) (fun b hb => by
        simp only [AO.own, hloc, Loc.block] at hb
        cases hb; exact Nat.le_refl _)
      exact hK _ _ (hst'.put (Nat.le_of_ble_eq_true hN) (.hs hloc (fun _ => by simp)))
    · cases h⟩
end
end Go.Proofs.Ytpclhpncmlbccaa

/- The abstract calculus: regions that draw their order, where one of the first operations may come behind the next one. No program is named. -/
namespace Go.Proofs.Ytpclhpncmlbccaa
open Go.RowKit Go.Lib

variable {E : Env} {fr : Fr} {σ : Sto} {K : Post}
def drawOkF (l : List Oper) (m f : Nat) : Bool :=
  leadsBack .any l.toArray &&
  ((l.take m).all fun o => o.dst.isSome) &&
  (List.range m).all (fun i => (List.range m).all fun j => Nat.beq i j || (l[i]?).bind (·.dst) != (l[j]?).bind (·.dst)) &&
  ((l.take m).all fun o => (tmpsOf o).all fun t => (List.range m).all fun j => (l[j]?).bind (·.dst) != some t || directly o j) &&
  ((l.take m).all fun o => match o.guard with | none => true | some (j, _) => directly o j) &&
  (List.range l.length).all (fun i => Nat.ble (i + 1) m || (List.range i).all fun j => (Nat.beq i m && Nat.beq j f) || ((masksN l l.length).getD i 0).testBit j)

/-- while the region runs: the first m operations in any order, then the others in the text's -/
def JDF (E : Env) (l : List Oper) (m f : Nat) (of : Oper) (cs : List AV) (az : List (Option (Nat × List AV))) (fr : Fr) (σ : Sto) (K : Post) (D : Nat → Bool) (a : Act) (w : World) : Prop :=
  (∀ i o, l[i]? = some o → D i = true → ∀ e ∈ o.after, Region.binds .any e = true → D e.on = true) ∧
  ((∃ g, g.w = w ∧ (∀ i, m ≤ i → D i = false) ∧ (∃ i, i < m ∧ D i = false) ∧ a.tmps.size = E.N ∧ DokE E g.w a.defers ∧ Sok E.S E.g0 g (objs D 0 az ++ σ) ∧
     (∀ d, (∀ i o, i < m → l[i]? = some o → o.dst ≠ some d) → Rel g (fr.get d) (a.tmps.getD d undef)) ∧
     (∀ i o c d, i < m → D i = true → l[i]? = some o → cs[i]? = some c → o.dst = some d → Rel g c (a.tmps.getD d undef)))
   ∨ (∃ s, m ≤ s ∧ (∀ i, i < l.length → (D i = true ↔ i < s)) ∧ s ≤ l.length ∧ wpListIn (fen E.rd) 0 E.P l.toArray (Ends E K) (l.drop s) a w)
   ∨ ((∀ i, i < l.length → (D i = true ↔ i < m + 1 ∧ i ≠ f)) ∧ wpListIn (fen E.rd) 0 E.P l.toArray (Ends E K) (of :: l.drop (m + 1)) a w))

set_option maxHeartbeats 1000000 in
theorem awp_drawnF {id : Nat} {l : List Oper} (m f : Nat) {of om : Oper} (new new2 : Fr) {cs : List AV} {az : List (Option (Nat × List AV))} {σ' : Sto} (hmix : E.P.follows .mixedOrders = true) (hok : drawOkF l m f = true) (hf : l[f]? = some of) (hom : l[m]? = some om) (hfm : Nat.ble (f + 1) m = true) (hm : Nat.ble m l.length = true) (hN : ((l.take m).all fun o => o.dst.all fun d => Nat.ble (d + 1) E.N) = true)
    (hp : PresA E l.toArray (new ++ fr) σ (l.take m) cs az) (hfree : freeOk fr σ cs az = true) (hazf : az[f]? = some none) (hσ : objs (fun _ => true) 0 az ++ σ = σ') (hnew : newOf (l.take m) cs [] = new) (hnew2 : newOf (l.take m) (cs.set f .any) [] = new2) (h : AWPL E l.toArray (l.drop m) (new ++ fr) σ' K) (h2 : AWPL E l.toArray (om :: of :: l.drop (m + 1)) (new2 ++ fr) σ' K) : AWP E (.region id l.toArray true) fr σ K := by
  have hm := Nat.le_of_ble_eq_true hm
  have hfm := Nat.le_of_ble_eq_true hfm
  simp only [drawOkF, Bool.and_eq_true, List.all_eq_true] at hok
  obtain ⟨⟨⟨⟨⟨hlb, hsome⟩, hdist⟩, hdat⟩, hgrd⟩, hsuf⟩ := hok
  have hcslen : cs.length = m := by rw [hp.len.1]; simp; omega
  have haslen : az.length = m := by rw [hp.len.2]; simp; omega
  simp only [freeOk, Bool.and_eq_true, List.all_eq_true] at hfree
  obtain ⟨⟨⟨hdist2, hids⟩, hcells⟩, hcsid⟩ := hfree
  have hids' : ∀ k ∈ idsOf az, fr.has k = false ∧ σ.has k = false ∧ σ.get k = none := by
    intro k hk
    have := hids k hk
    simp only [Bool.not_eq_true', Option.isNone_iff_eq_none] at this
    exact ⟨this.1.1, this.1.2, this.2⟩
  have hcells' : ∀ (j id : Nat) (c : List AV), az[j]? = some (some (id, c)) → ∀ k ∈ idsOf az, AV.hasL k c = false := by
    intro j id c hj k hk
    have := hcells _ (List.mem_of_getElem? hj)
    simp only [List.all_eq_true, Bool.not_eq_true'] at this
    exact this k hk
  have hcs' : ∀ (j : Nat) (c : AV) (x : Option (Nat × List AV)), cs[j]? = some c → az[j]? = some x → ∀ k ∈ idsOf az, (∀ id ds, x = some (id, ds) → id ≠ k) → c.has k = false := by
    intro j c x hc hx k hk hne
    have hmz : (c, x) ∈ cs.zip az := by
      refine List.mem_of_getElem? (i := j) ?_
      rw [List.getElem?_zip_eq_some]
      exact ⟨hc, hx⟩
    have := hcsid _ hmz k hk
    simp only [Bool.or_eq_true, Bool.not_eq_true'] at this
    rcases this with h1 | h1
    · cases x with
      | none => cases h1
      | some x => obtain ⟨id, ds⟩ := x; exact absurd (Nat.eq_of_beq_eq_true h1) (hne id ds rfl)
    · exact h1
  have hsub : ∀ (D : Nat → Bool) o ob, σ.get o = some ob → Sto.get (objs D 0 az ++ σ) o = some ob := by
    intro D o ob ho
    rcases objs_cases (σ := σ) (D := D) az hdist2 o with ⟨j, c, _, h2, _⟩ | ⟨_, h2⟩
    · have := (hids' o (idsOf_mem h2)).2.2
      rw [this] at ho; cases ho
    · rw [h2]; exact ho
  have htake : ∀ i, i < m → (l.take m)[i]? = l[i]? := fun i hi => List.getElem?_take_of_lt hi
  have hmem : ∀ i o, i < m → l[i]? = some o → o ∈ l.take m := fun i o hi ho => List.mem_of_getElem? (by rw [htake i hi]; exact ho)
  have hdist' : ∀ i j o o', i < m → j < m → l[i]? = some o → l[j]? = some o' → i ≠ j → o.dst ≠ o'.dst := by
    intro i j o o' hi hj ho ho' hne hc
    have := hdist i (by simpa using hi) j (by simpa using hj)
    simp only [Bool.or_eq_true, bne_iff_ne, ne_eq] at this
    rcases this with h1 | h1
    · exact hne (Nat.eq_of_beq_eq_true h1)
    · exact h1 (by rw [ho, ho']; simpa using hc)
  have hA : ∀ d, (∀ i o, i < m → l[i]? = some o → o.dst ≠ some d) → (new ++ fr).get d = fr.get d := by
    intro d hd
    rw [← hnew, ← newOf_append, List.nil_append]
    refine newOf_other _ _ _ _ fun o ho => ?_
    obtain ⟨i, hi, rfl⟩ := List.getElem_of_mem ho
    have hi' : i < m := by simp at hi; omega
    exact hd i _ hi' (by rw [← htake i hi']; exact List.getElem?_eq_getElem hi)
  have hB : ∀ i o c d, i < m → l[i]? = some o → cs[i]? = some c → o.dst = some d → (new ++ fr).get d = c := by
    intro i o c d hi ho hc hd
    rw [← hnew, ← newOf_append, List.nil_append]
    refine newOf_get _ _ _ i o c d (fun i j o o' h1 h2 hne => ?_) (by rw [htake i hi]; exact ho) hc hd
    have hi1 : i < m := by have := (List.getElem?_eq_some_iff.1 h1).1; simp at this; omega
    have hj1 : j < m := by have := (List.getElem?_eq_some_iff.1 h2).1; simp at this; omega
    rw [htake i hi1] at h1; rw [htake j hj1] at h2
    exact hdist' i j o o' hi1 hj1 h1 h2 hne
  have hsuf' : ∀ {D : Nat → Bool} i o, (∀ i o, l[i]? = some o → D i = true → ∀ e ∈ o.after, Region.binds .any e = true → D e.on = true) → m ≤ i → l[i]? = some o → (∀ e ∈ o.after, Region.binds .any e = true → D e.on = true) → ∀ j, j < i → (i = m ∧ j = f) ∨ D j = true := by
    intro D i o hcl hi ho he j hj
    have hil : i < l.length := (List.getElem?_eq_some_iff.1 ho).1
    have := hsuf i (by simpa using hil)
    simp only [Bool.or_eq_true, List.all_eq_true] at this
    rcases this with h1 | h1
    · have := Nat.le_of_ble_eq_true h1; omega
    · have h2 := h1 j (by simpa using hj)
      simp only [Bool.or_eq_true, Bool.and_eq_true] at h2
      rcases h2 with h3 | h3
      · exact .inl ⟨Nat.eq_of_beq_eq_true h3.1, Nat.eq_of_beq_eq_true h3.2⟩
      · exact .inr (masks_ready hcl l.length i o ho he j h3)
  have hA2 : ∀ d, (∀ i o, i < m → l[i]? = some o → o.dst ≠ some d) → (new2 ++ fr).get d = fr.get d := by
    intro d hd
    rw [← hnew2, ← newOf_append, List.nil_append]
    refine newOf_other _ _ _ _ fun o ho => ?_
    obtain ⟨i, hi, rfl⟩ := List.getElem_of_mem ho
    have hi' : i < m := by simp at hi; omega
    exact hd i _ hi' (by rw [← htake i hi']; exact List.getElem?_eq_getElem hi)
  have hB2 : ∀ i o c d, i < m → l[i]? = some o → (cs.set f .any)[i]? = some c → o.dst = some d → (new2 ++ fr).get d = c := by
    intro i o c d hi ho hc hd
    rw [← hnew2, ← newOf_append, List.nil_append]
    refine newOf_get _ _ _ i o c d (fun i j o o' h1 h2 hne => ?_) (by rw [htake i hi]; exact ho) hc hd
    have hi1 : i < m := by have := (List.getElem?_eq_some_iff.1 h1).1; simp at this; omega
    have hj1 : j < m := by have := (List.getElem?_eq_some_iff.1 h2).1; simp at this; omega
    rw [htake i hi1] at h1; rw [htake j hj1] at h2
    exact hdist' i j o o' hi1 hj1 h1 h2 hne
  have hdir : ∀ {D : Nat → Bool} {o : Oper} {j : Nat}, (∀ e ∈ o.after, Region.binds .any e = true → D e.on = true) → directly o j = true → D j = true := by
    intro D o j he hd
    simp only [directly, List.any_eq_true, Bool.and_eq_true] at hd
    obtain ⟨e, h1, h2, h3⟩ := hd
    rw [← Nat.eq_of_beq_eq_true h3]
    exact he e (by simpa using h1) h2
  refine ⟨fun g a hst => ?_⟩
  have hst0 := hst.drew
  refine wpIn_region_inv hmix hlb (JDF E l m f of cs az fr σ K) ⟨fun i o _ hd => by simp at hd, ?_⟩ ?_ ?_
  · by_cases h0 : m = 0
    · subst h0
      exact absurd hfm (by omega)
    · exact .inl ⟨⟨g.w.drew, g.u, g.loc⟩, rfl, fun _ _ => rfl, ⟨0, by omega, rfl⟩, hst0.n, hst0.df, hst0.so.le (fun o ob ho => by rw [← objs_none (D := fun _ => false) az 0 (fun _ _ _ => rfl)]; exact ho), fun d _ => hst0.fr d, fun i o c d _ hd => by simp at hd⟩
  · rintro D a w ⟨_, ⟨g, _, _, ⟨i, hi, hd⟩, _⟩ | ⟨s, hs1, hs2, hs3, hs4⟩ | ⟨hs2, _⟩⟩ hall
    · rw [hall i (by simp; omega)] at hd; cases hd
    · have : s = l.length := by
        rcases Nat.lt_or_ge s l.length with h1 | h1
        · have := (hs2 s h1).1 (hall s (by simpa using h1)); omega
        · omega
      subst this
      rw [List.drop_length] at hs4
      exact hs4
    · have := (hs2 f (by omega)).1 (hall f (by simp; omega))
      exact absurd rfl this.2
  · rintro D a w i o ⟨hcl, hJ⟩ ho hDi he
    have ho' : l[i]? = some o := by simpa using ho
    have hcl' : ∀ i' o', l[i']? = some o' → upd D i i' = true → ∀ e ∈ o'.after, Region.binds .any e = true → upd D i e.on = true := by
      intro i' o' h1 h2 e h3 h4
      unfold upd at h2 ⊢
      split
      · rfl
      · split at h2
        · rename_i hii; subst hii
          rw [ho'] at h1; cases h1
          exact he e h3 h4
        · exact hcl i' o' h1 h2 e h3 h4
    rcases hJ with ⟨g, rfl, hge, ⟨i0, hi0, hd0⟩, hsz, hdf, hso, hf0, hfD⟩ | ⟨s, hs1, hs2, hs3, hs4⟩ | ⟨hs2, hs4⟩
    · by_cases him2 : i = m
      · subst him2
        have hall : ∀ j, j < i → j ≠ f → D j = true := by
          intro j hj hjf
          rcases hsuf' i o hcl (Nat.le_refl _) ho' he j hj with ⟨_, h1⟩ | h1
          · exact absurd h1 hjf
          · exact h1
        have hf0' : i0 = f := by
          by_cases h1 : i0 = f
          · exact h1
          · have := hall i0 hi0 h1
            rw [hd0] at this; cases this
        subst hf0'
        have eo : o = om := by rw [ho'] at hom; cases hom; rfl
        subst eo
        have hst2 : St E g a (new2 ++ fr) σ' := by
          refine ⟨fun d' => ?_, hsz, hdf, ?_⟩
          · by_cases hex2 : ∃ j o', j < i ∧ l[j]? = some o' ∧ o'.dst = some d'
            · obtain ⟨j, o', hj, h1, h3⟩ := hex2
              obtain ⟨c', hc'⟩ : ∃ c, cs[j]? = some c := ⟨cs[j]'(by omega), List.getElem?_eq_getElem (by omega)⟩
              by_cases hjf : j = i0
              · subst hjf
                rw [hB2 j o' .any d' hj h1 (by rw [List.getElem?_set_self (by omega)]) h3]
                exact .any _
              · rw [hB2 j o' c' d' hj h1 (by rw [List.getElem?_set_ne (Ne.symm hjf)]; exact hc') h3]
                exact hfD j o' c' d' hj (hall j hj hjf) h1 hc' h3
            · rw [hA2 d' (fun j o' hj h1 h3 => hex2 ⟨j, o', hj, h1, h3⟩)]
              exact hf0 d' (fun j o' hj h1 h3 => hex2 ⟨j, o', hj, h1, h3⟩)
          · have e : objs D 0 az = objs (fun _ => true) 0 az := objs_same az 0 (fun j x hj => by
              rw [Nat.zero_add]
              have hjm : j < i := by have := (List.getElem?_eq_some_iff.1 hj).1; omega
              refine hall j hjm ?_
              rintro rfl
              rw [hazf] at hj; cases hj)
            rw [← hσ, ← e]; exact hso
        have hs4 := h2.go g a hst2
        have hil : i < l.length := (List.getElem?_eq_some_iff.1 ho').1
        unfold wpOpIn
        rw [ho]
        simp only [wpListIn] at hs4 ⊢
        have hJ' : ∀ a' w', wpListIn (fen E.rd) 0 E.P l.toArray (Ends E K) (of :: l.drop (i + 1)) a' w' → JDF E l i i0 of cs az fr σ K (upd D i) a' w' := by
          intro a' w' hw'
          refine ⟨hcl', .inr (.inr ⟨fun i' hi' => ?_, hw'⟩)⟩
          unfold upd
          split
          · rename_i hii; subst hii; simp; omega
          · rename_i hii
            constructor
            · intro hD
              rcases Nat.lt_or_ge i' i with h3 | h3
              · exact ⟨by omega, by rintro rfl; rw [hd0] at hD; cases hD⟩
              · rw [hge i' h3] at hD; cases hD
            · rintro ⟨h3, h4⟩; exact hall i' (by omega) h4
        simp only [wpListIn] at hJ'
        split
        · rename_i hw
          rw [if_pos hw] at hs4
          exact Oper.wpIn_mono hJ' hs4
        · rename_i hw
          rw [if_neg hw] at hs4
          exact ⟨hs4.1, hJ' _ _ hs4.2⟩
      have him : i < m := by
        rcases Nat.lt_or_ge i m with h1 | h1
        · exact h1
        · rcases hsuf' i o hcl h1 ho' he i0 (by omega) with ⟨h3, _⟩ | h3
          · exact absurd h3 him2
          · rw [hd0] at h3; cases h3
      obtain ⟨c, hc⟩ : ∃ c, cs[i]? = some c := ⟨cs[i]'(by omega), List.getElem?_eq_getElem (by omega)⟩
      have hslot : ∀ d, (∃ j o' , j < m ∧ l[j]? = some o' ∧ o'.dst = some d ∧ D j = true) ∨ (∀ j o', j < m → l[j]? = some o' → o'.dst ≠ some d) → Rel g ((new ++ fr).get d) (a.tmps.getD d undef) := by
        rintro d (⟨j, o', hj, ho1, hd1, hD1⟩ | hno)
        · obtain ⟨c', hc'⟩ : ∃ c, cs[j]? = some c := ⟨cs[j]'(by omega), List.getElem?_eq_getElem (by omega)⟩
          rw [hB j o' c' d hj ho1 hc' hd1]
          exact hfD j o' c' d hj hD1 ho1 hc' hd1
        · rw [hA d hno]; exact hf0 d hno
      have hops : ∀ x ∈ o.op.operands, Rel g ((new ++ fr).ev x) (a.eval x) := by
        intro x hx
        cases x with
        | const v => exact rel_const g v
        | global q => exact .pv (.b rfl)
        | func f => exact .fn (by simp) (by simp) (fun i c h => by simp at h) (fun i c h => by simp at h)
        | tmp t =>
          refine hslot t ?_
          by_cases hex : ∃ j o', j < m ∧ l[j]? = some o' ∧ o'.dst = some t
          · obtain ⟨j, o', hj, ho1, hd1⟩ := hex
            have h1 := hdat o (hmem i o him ho') t (by simp only [tmpsOf, List.mem_filterMap]; exact ⟨.tmp t, by simpa using hx, rfl⟩) j (by simpa using hj)
            simp only [Bool.or_eq_true, bne_iff_ne, ne_eq] at h1
            rcases h1 with h1 | h1
            · exact absurd (by rw [ho1]; simpa using hd1) h1
            · exact .inl ⟨j, o', hj, ho1, hd1, hdir he h1⟩
          · exact .inr fun j o' hj ho1 hd1 => hex ⟨j, o', hj, ho1, hd1⟩
      have hguard : ∀ j want d, o.guard = some (j, want) → (l.toArray[j]?).bind (·.dst) = some d → Rel g ((new ++ fr).get d) (a.tmps.getD d undef) := by
        intro j want d hg hj
        have h1 := hgrd o (hmem i o him ho')
        rw [hg] at h1
        have hDj := hdir he h1
        have hjm : j < m := by
          rcases Nat.lt_or_ge j m with h2 | h2
          · exact h2
          · rw [hge j h2] at hDj; cases hDj
        cases hoj : l[j]? with
        | none => rw [List.getElem?_toArray, hoj] at hj; cases hj
        | some o' =>
          rw [List.getElem?_toArray, hoj] at hj
          exact hslot d (.inl ⟨j, o', hjm, hoj, by simpa using hj, hDj⟩)
      -- the state behind the operation
      have hafter : ∀ (g' : G) (v : Value) (d : Nat), o.dst = some d → Old (fun _ => False) g g' → Sok E.S E.g0 g' (objs (upd D i) 0 az ++ σ) → (∀ c v, Rel g c v → (∀ k, k ∈ idsOf az → az[i]?.bind (fun x => x.map (·.1)) = some k → c.has k = false) → Rel g' c v) → Rel g' c v → JDF E l m f of cs az fr σ K (upd D i) (a.put o.dst v) g'.w := by
        intro g' v d hd hold hso' hmono0 hv
        refine ⟨hcl', ?_⟩
        have hdN : d < E.N := by
          rw [List.all_eq_true] at hN
          have := hN o (hmem i o him ho')
          rw [hd] at this
          exact Nat.le_of_ble_eq_true (by simpa using this)
        have hget : ∀ d', (a.put o.dst v).tmps.getD d' undef = if d = d' then v else a.tmps.getD d' undef := by
          intro d'
          rw [hd]
          simp only [Act.put]
          rw [getD_set_eq]
          by_cases h1 : d = d'
          · rw [if_pos ⟨h1, by omega⟩, if_pos h1]
          · rw [if_neg (fun x => h1 x.1), if_neg h1]
        have hsz' : (a.put o.dst v).tmps.size = E.N := by rw [hd]; simp [Act.put, hsz]
        have hdf' : DokE E g'.w (a.put o.dst v).defers := by rw [hd]; exact hdf.mono hold.ext
        have hF0 : ∀ d', (∀ i o, i < m → l[i]? = some o → o.dst ≠ some d') → Rel g' (fr.get d') ((a.put o.dst v).tmps.getD d' undef) := by
          intro d' hno
          rw [hget, if_neg (by rintro rfl; exact hno i o him ho' hd)]
          exact hmono0 _ _ (hf0 d' hno) (fun k hk _ => by
            cases hx : (fr.get d').has k with
            | false => rfl
            | true => have := Fr.has_get hx; rw [(hids' k hk).1] at this; cases this)
        have hFD : ∀ i' o' c' d', i' < m → upd D i i' = true → l[i']? = some o' → cs[i']? = some c' → o'.dst = some d' → Rel g' c' ((a.put o.dst v).tmps.getD d' undef) := by
          intro i' o' c' d' hi' hD' h1 h2 h3
          by_cases hii : i' = i
          · subst hii
            rw [ho'] at h1; cases h1
            rw [hc] at h2; cases h2
            rw [hd] at h3; cases h3
            rw [hget, if_pos rfl]
            exact hv
          · have hD1 : D i' = true := by unfold upd at hD'; rwa [if_neg hii] at hD'
            have hne : d ≠ d' := by
              rintro rfl
              exact hdist' i' i o' o hi' him h1 ho' hii (h3.trans hd.symm)
            rw [hget, if_neg hne]
            refine hmono0 _ _ (hfD i' o' c' d' hi' hD1 h1 h2 h3) (fun k hk hki => ?_)
            obtain ⟨x, hx⟩ : ∃ x, az[i']? = some x := ⟨az[i']'(by omega), List.getElem?_eq_getElem (by omega)⟩
            refine hcs' i' c' x h2 hx k hk (fun id ds hxe hik => ?_)
            subst hxe; subst hik
            cases hai : az[i]? with
            | none => rw [hai] at hki; cases hki
            | some y =>
              rw [hai] at hki
              cases y with
              | none => cases hki
              | some y =>
                obtain ⟨id2, ds2⟩ := y
                simp at hki; subst hki
                exact hii (ids_dist hdist2 hx hai)
        have hge' : ∀ i', m ≤ i' → upd D i i' = false := by
          intro i' hi'
          unfold upd
          rw [if_neg (by omega)]
          exact hge i' hi'
        by_cases hex : ∃ i', i' < m ∧ upd D i i' = false
        · exact .inl ⟨g', rfl, hge', hex, hsz', hdf', hso', hF0, hFD⟩
        · refine .inr (.inl ⟨m, Nat.le_refl _, fun i' _ => ⟨fun h1 => ?_, fun h1 => ?_⟩, hm, h.go g' _ ⟨fun d' => ?_, hsz', hdf', by
            have e : objs (upd D i) 0 az = objs (fun _ => true) 0 az := objs_same az 0 (fun j x hj => by
              rw [Nat.zero_add]
              have hjm : j < m := by have := (List.getElem?_eq_some_iff.1 hj).1; omega
              cases h3 : upd D i j with
              | true => rfl
              | false => exact absurd ⟨j, hjm, h3⟩ hex)
            rw [← hσ, ← e]; exact hso'⟩⟩)
          · rcases Nat.lt_or_ge i' m with h2 | h2
            · exact h2
            · rw [hge' i' h2] at h1; cases h1
          · cases h2 : upd D i i' with
            | true => rfl
            | false => exact absurd ⟨i', h1, h2⟩ hex
          · by_cases hex2 : ∃ j o', j < m ∧ l[j]? = some o' ∧ o'.dst = some d'
            · obtain ⟨j, o', hj, h1, h2⟩ := hex2
              obtain ⟨c', hc'⟩ : ∃ c, cs[j]? = some c := ⟨cs[j]'(by omega), List.getElem?_eq_getElem (by omega)⟩
              rw [hB j o' c' d' hj h1 hc' h2]
              refine hFD j o' c' d' hj ?_ h1 hc' h2
              cases h3 : upd D i j with
              | true => rfl
              | false => exact absurd ⟨j, hj, h3⟩ hex
            · rw [hA d' (fun j o' hj h1 h2 => hex2 ⟨j, o', hj, h1, h2⟩)]
              exact hF0 d' (fun j o' hj h1 h2 => hex2 ⟨j, o', hj, h1, h2⟩)
      obtain ⟨d, hd⟩ : ∃ d, o.dst = some d := by
        have := hsome o (hmem i o him ho')
        cases hd : o.dst with
        | none => rw [hd] at this; cases this
        | some d => exact ⟨d, rfl⟩
      unfold wpOpIn
      rw [ho]
      simp only
      have hyes : GuardYes l.toArray (new ++ fr) o → Region.wanted o (yielded l.toArray a.tmps) = true := by
        intro hg
        cases hg with
        | plain h1 => simp [Region.wanted, h1]
        | @yes j d' want t h1 h2 h3 h4 =>
          have hr := hguard j want d' h1 h2
          rw [h3] at hr
          have hy : yielded l.toArray a.tmps j = some t := by
            unfold yielded
            rw [h2]
            simp only [Option.bind_some]
            have h5 := rel_bool hr
            cases hx : a.tmps[d']? with
            | none => rw [Array.getD_eq_getD_getElem?, hx] at h5; simp [undef] at h5
            | some x => rw [Array.getD_eq_getD_getElem?, hx] at h5; simp at h5; rw [h5]
          have h6 : (yielded l.toArray a.tmps j == some want) = true := by rw [hy, h4]; cases want <;> rfl
          simp only [Region.wanted, h1, h6]
      have hsame : az[i]? = some none → objs (upd D i) 0 az = objs D 0 az := fun hn => objs_same az 0 (fun j x hj => by
        rw [Nat.zero_add]
        unfold upd
        rw [if_neg (by rintro rfl; rw [hn] at hj; cases hj)])
      rcases hp.get (i := i) (by rw [htake i him]; exact ho') hc with ⟨hg, hop, has⟩ | ⟨hg, rfl, has⟩ | ⟨hg, id, ds, rfl, hop, has⟩
      · have hw := hyes hg
        simp only [hw, if_true]
        exact hop.go g a _ _ hops (hso.le (hsub D)) fun g' v h1 h2 h3 h4 => hafter g' v d hd h1 (by rw [hsame has]; exact hso.grow h1 h2 (fun k _ => by rw [h3])) (fun c v hr _ => hr.mono h1.ext (fun k _ => by rw [h3])) h4
      · have hw : Region.wanted o (yielded l.toArray a.tmps) = false := by
          cases hg with
          | @no j d' want t h1 h2 h3 h4 =>
            have hr := hguard j want d' h1 h2
            rw [h3] at hr
            have hy : yielded l.toArray a.tmps j = some t := by
              unfold yielded
              rw [h2]
              simp only [Option.bind_some]
              have h5 := rel_bool hr
              cases hx : a.tmps[d']? with
              | none => rw [Array.getD_eq_getD_getElem?, hx] at h5; simp [undef] at h5
              | some x => rw [Array.getD_eq_getD_getElem?, hx] at h5; simp at h5; rw [h5]
            have h6 : (yielded l.toArray a.tmps j == some want) = false := by rw [hy, h4]; cases want <;> rfl
            simp only [Region.wanted, h1, h6]
          | @none j d' want h1 h2 h3 =>
            have hr := hguard j want d' h1 h2
            rw [h3] at hr
            have hy : yielded l.toArray a.tmps j = none := by
              unfold yielded
              rw [h2]
              simp only [Option.bind_some]
              cases hx : a.tmps[d']? with
              | none => rfl
              | some x => rw [Array.getD_eq_getD_getElem?, hx] at hr; simp only [Option.getD_some] at hr; cases hr; rfl
            have h6 : (yielded l.toArray a.tmps j == some want) = false := by rw [hy]; rfl
            simp only [Region.wanted, h1, h6]
        simp only [hw]
        exact ⟨fun _ _ => trivial, hafter g undef d hd (Old.refl _ g) (by rw [hsame has]; exact hso) (fun c v hr _ => hr) (.tup rfl (fun i c hi => by simp at hi))⟩
      · have hw := hyes hg
        simp only [hw, if_true]
        obtain ⟨vs, t, q1, q2, q3, q4⟩ := hop.go
        have hidm := idsOf_mem has
        have hst1 : St E g a [] (objs D 0 az ++ σ) := ⟨fun _ => .any _, hsz, hdf, hso⟩
        have hst2 := hst1.box id rfl (objs_has (hids' id hidm).2.1 az 0 (fun j id' c hj => hcells' j id' c hj id hidm)) t q1 q2 (q3 g) (hcells' i id ds has id hidm)
        have hold := old_alloc g vs t 0 id (.blk g.w.heap.size)
        refine q4 g a _ _ (hafter _ _ d hd hold ?_ ?_ (.ptr (if_pos rfl)))
        · refine hst2.so.le fun o' ob ho1 => ?_
          rw [Sto.get_cons]
          rcases objs_cases (σ := σ) (D := upd D i) az hdist2 o' with ⟨j, c', h1, h2, h3⟩ | ⟨h1, h2⟩
          · by_cases hji : j = i
            · subst hji
              rw [has] at h2
              simp at h2
              obtain ⟨rfl, rfl⟩ := h2
              rw [if_pos rfl, ← ho1, h3]
            · have hne : id ≠ o' := by rintro rfl; exact hji (ids_dist hdist2 h2 has)
              rw [if_neg hne, ← ho1, h3]
              have hDj : D j = true := by unfold upd at h1; rwa [if_neg hji] at h1
              exact objs_some az 0 j hdist2 h2 (by simpa using hDj)
          · have hne : id ≠ o' := by
              rintro rfl
              have := h1 i ds has
              simp [upd] at this
            rw [if_neg hne, ← ho1, h2]
            refine objs_none az 0 (fun j c' hj => ?_)
            rw [Nat.zero_add]
            have h3 := h1 j c' hj
            unfold upd at h3
            split at h3
            · cases h3
            · exact h3
        · intro c v hr hk
          refine hr.mono hold.ext (fun k hck => if_neg ?_)
          rintro rfl
          have := hk k hidm (by rw [has]; rfl)
          rw [this] at hck; cases hck
    · have hil : i < l.length := (List.getElem?_eq_some_iff.1 ho').1
      have his : s ≤ i := by
        rcases Nat.lt_or_ge i s with h1 | h1
        · rw [(hs2 i hil).2 h1] at hDi; cases hDi
        · exact h1
      have hsi : i = s := by
        rcases Nat.lt_or_ge s i with h1 | h1
        · rcases hsuf' i o hcl (by omega) ho' he s h1 with ⟨h3, h4⟩ | h3
          · omega
          · have := (hs2 s (by omega)).1 h3
            omega
        · omega
      subst hsi
      have hdrop : l.drop i = o :: l.drop (i + 1) := by
        rw [List.drop_eq_getElem_cons hil]
        congr 1
        exact (List.getElem?_eq_some_iff.1 ho').2
      rw [hdrop] at hs4
      unfold wpOpIn
      rw [ho]
      simp only [wpListIn] at hs4 ⊢
      have hJ' : ∀ a' w', wpListIn (fen E.rd) 0 E.P l.toArray (Ends E K) (l.drop (i + 1)) a' w' → JDF E l m f of cs az fr σ K (upd D i) a' w' := by
        intro a' w' hw'
        refine ⟨hcl', .inr (.inl ⟨i + 1, by omega, fun i' hi' => ?_, by omega, hw'⟩)⟩
        unfold upd
        split
        · rename_i hii; subst hii; simp
        · rename_i hii
          rw [hs2 i' hi']
          omega
      split
      · rename_i hw
        rw [if_pos hw] at hs4
        exact Oper.wpIn_mono hJ' hs4
      · rename_i hw
        rw [if_neg hw] at hs4
        exact ⟨hs4.1, hJ' _ _ hs4.2⟩
    · have hil : i < l.length := (List.getElem?_eq_some_iff.1 ho').1
      have hif : i = f := by
        rcases Nat.lt_or_ge i (m + 1) with h1 | h1
        · by_cases h3 : i = f
          · exact h3
          · have := (hs2 i hil).2 ⟨h1, h3⟩
            rw [hDi] at this; cases this
        · rcases hsuf' i o hcl (by omega) ho' he f (by omega) with ⟨h3, _⟩ | h3
          · omega
          · exact absurd rfl ((hs2 f (by omega)).1 h3).2
      subst hif
      have eo : o = of := by rw [ho'] at hf; cases hf; rfl
      subst eo
      have hml : m < l.length := (List.getElem?_eq_some_iff.1 hom).1
      unfold wpOpIn
      rw [ho]
      simp only [wpListIn] at hs4 ⊢
      have hJ' : ∀ a' w', wpListIn (fen E.rd) 0 E.P l.toArray (Ends E K) (l.drop (m + 1)) a' w' → JDF E l m i o cs az fr σ K (upd D i) a' w' := by
        intro a' w' hw'
        refine ⟨hcl', .inr (.inl ⟨m + 1, by omega, fun i' hi' => ?_, by omega, hw'⟩)⟩
        unfold upd
        split
        · rename_i hii; subst hii; simp; omega
        · rename_i hii
          rw [hs2 i' hi']
          constructor
          · rintro ⟨h3, _⟩; exact h3
          · intro h3; exact ⟨h3, hii⟩
      split
      · rename_i hw
        rw [if_pos hw] at hs4
        exact Oper.wpIn_mono hJ' hs4
      · rename_i hw
        rw [if_neg hw] at hs4
        exact ⟨hs4.1, hJ' _ _ hs4.2⟩
end Go.Proofs.Ytpclhpncmlbccaa

/- The calculus: the steps of a walk that are chosen or told, in short forms. No program is named. -/
namespace Go.Proofs.Ytpclhpncmlbccaa
open Go.RowKit

mutual
/-- does it say whether a slice is nil? -/
def AV.strong : AV → Bool
  | .pv (.sl (some _) _) => true
  | .agg cs => AV.strongL cs
  | .tup cs => AV.strongL cs
  | _ => false
def AV.strongL : List AV → Bool
  | [] => false
  | c :: cs => c.strong || AV.strongL cs
end
def Fr.sel (fr : Fr) (p : Nat × AV) : Nat × AV := (p.1, bif p.2.strong then fr.get p.1 else (fr.get p.1).weak)
theorem frw {fr : Fr} : ∀ {fr' : Fr}, fr'.map fr.sel = fr' → FrLe fr fr'
  | [], _ => frLe_nil
  | (k, a) :: r, h => by
    simp only [List.map_cons, List.cons.injEq] at h
    obtain ⟨h1, h2⟩ := h
    have h3 : (bif a.strong then fr.get k else (fr.get k).weak) = a := congrArg Prod.snd h1
    cases hs : a.strong with
    | true => rw [hs] at h3; exact frLe_cons h3 (frw h2)
    | false => rw [hs] at h3; exact frLe_weak h3 (frw h2)
def Sto.sel (σ : Sto) (p : Nat × AO) : Option AO := match p.2 with
  | .cells cs => bif AV.strongL cs then σ.get p.1 else (match σ.get p.1 with
    | some (.cells ds) => some (.cells (AV.weakL ds))
    | _ => none)
  | _ => σ.get p.1
theorem stw {σ : Sto} : ∀ {σ' : Sto}, σ'.map σ.sel = σ'.map (fun p => some p.2) → StoLe σ σ'
  | [], _ => stoLe_nil
  | (k, a) :: r, h => by
    simp only [List.map_cons, List.cons.injEq] at h
    obtain ⟨h1, h2⟩ := h
    unfold Sto.sel at h1
    split at h1
    · rename_i cs hc
      dsimp only at hc
      subst hc
      cases hs : AV.strongL cs with
      | true => rw [hs] at h1; exact stoLe_cons h1 (stw h2)
      | false =>
        rw [hs] at h1
        simp only [cond_false] at h1
        split at h1
        · rename_i ds hd
          simp only [Option.some.injEq, AO.cells.injEq] at h1
          exact stoLe_weak hd h1 (stw h2)
        · cases h1
    · exact stoLe_cons h1 (stw h2)
theorem kpw {fr : Fr} : ∀ {l : Fr}, l.map (fun p => fr.get p.1) = l.map (·.2) → Keep fr l
  | [], _ => .nil
  | (k, a) :: r, h => by
    simp only [List.map_cons, List.cons.injEq] at h
    exact .cons h.1 (kpw h.2)
theorem hdw {σ : Sto} {base : Nat} {T : Array Value} : ∀ {l : Fr}, l.map (fun p => σ.get (base + p.1)) = l.map (fun p => some (.hold p.2 (T.getD p.1 undef))) → Held σ base T l
  | [], _ => .nil
  | (k, a) :: r, h => by
    simp only [List.map_cons, List.cons.injEq] at h
    exact .cons h.1 (hdw h.2)

section
variable {E : Env} {fr : Fr} {σ : Sto} {k : KS} {ops : Array Oper} {l : List Oper} {R : Type} {r : R} {A B : Option R} {t : Bool}
theorem hO (h : (GS.ops ops l fr σ k).holds E) : AWPL E ops l fr σ (k.post E) := h
theorem hC {c : Code} (h : (GS.code c fr σ k).holds E) : AWP E c fr σ (k.post E) := h
theorem hB {K : Post} {c : Code} (hK : Mono K) (h : (GS.code c fr σ (.base K hK)).holds E) : AWP E c fr σ K := h
theorem hA {e : Exit} (h : (GS.at e fr σ k).holds E) : k.post E e fr σ := h
theorem St.relit {g : G} {a : Act} (h : St E g a fr σ) {d : Nat} (hd : fr.get d = .pv (.b (.bool t))) : St E g a ((d, .pv (.b (.bool t))) :: fr) σ := h.reslot (by rw [← hd]; exact h.fr d)
/-- a condition that is known -/
theorem kn (d : Nat) {b : Bool} (hc : t = b) (hd : fr.get d = .pv (.b (.bool t))) (h : (GS.ops ops l ((d, .pv (.b (.bool b))) :: fr) σ k).holds E) : (GS.ops ops l fr σ k).holds E := by
  subst hc
  exact ⟨fun g a hs => h.go g a (hs.relit hd)⟩
theorem knC (d : Nat) {b : Bool} {c : Code} (hc : t = b) (hd : fr.get d = .pv (.b (.bool t))) (h : (GS.code c ((d, .pv (.b (.bool b))) :: fr) σ k).holds E) : (GS.code c fr σ k).holds E := by
  subst hc
  exact ⟨fun g a hs => h.go g a (hs.relit hd)⟩
/-- both ways -/
theorem bs (d : Nat) (hr : (bif t then A else B) = some r) (hd : fr.get d = .pv (.b (.bool t))) (hT : t = true → A = some r → (GS.ops ops l ((d, .pv (.b (.bool true))) :: fr) σ k).holds E) (hF : t = false → B = some r → (GS.ops ops l ((d, .pv (.b (.bool false))) :: fr) σ k).holds E) : (GS.ops ops l fr σ k).holds E := by
  cases t with
  | true => exact kn d rfl hd (hT rfl hr)
  | false => exact kn d rfl hd (hF rfl hr)
theorem ac (d : Nat) {x y : Code} (hr : (bif t then A else B) = some r) (hd : fr.get d = .pv (.b (.bool t))) (hT : t = true → A = some r → (GS.code x ((d, .pv (.b (.bool true))) :: fr) σ k).holds E) (hF : t = false → B = some r → (GS.code y ((d, .pv (.b (.bool false))) :: fr) σ k).holds E) : (GS.code (.cond (.tmp d) x y) fr σ k).holds E :=
  awp_cond (t := t) hd (fun h => by subst h; exact ⟨fun g a hs => (hT rfl hr).go g a (hs.relit hd)⟩) (fun h => by subst h; exact ⟨fun g a hs => (hF rfl hr).go g a (hs.relit hd)⟩)
/-- several ways lead to the rest -/
theorem jb {J : Type} {X : Option J} {f : J → Option R} {x y : Code} (hr : X.bind f = some r) (frs : J → Fr) (stos : J → Sto) (hx : ∀ j, X = some j → (GS.code x fr σ (.jo frs stos (fun z => j = z) k)).holds E) (hy : ∀ j, f j = some r → (GS.code y (frs j) (stos j) k).holds E) : (GS.code (.seq x y) fr σ k).holds E := by
  obtain ⟨j, h1, h2⟩ := bind_some hr
  exact awp_join frs stos (fun z => j = z) (hx j h1) (fun _ hz => hz ▸ hy j h2)
theorem jk {J : Type} {x y : Code} (frs : J → Fr) (stos : J → Sto) (M : J → Prop) (hx : (GS.code x fr σ (.jo frs stos M k)).holds E) (hy : ∀ j, M j → (GS.code y (frs j) (stos j) k).holds E) : (GS.code (.seq x y) fr σ k).holds E :=
  awp_join frs stos M hx hy
theorem jn {J : Type} {frs : J → Fr} {stos : J → Sto} {M : J → Prop} (j : J) (hm : M j) (hf : (frs j).map fr.sel = frs j) (hs : (stos j).map σ.sel = (stos j).map (fun p => some p.2)) : (GS.at .normal fr σ (.jo frs stos M k)).holds E := ⟨j, hm, frw hf, stw hs⟩
theorem ct {J : Type} {X : Option J} {f : J → Option R} {o : Oper} (hr : X.bind f = some r) (frs : J → Fr) (stos : J → Sto)
    (hx : ∀ j, X = some j → (∀ fr' σ', (frs j).map fr'.sel = frs j → (stos j).map σ'.sel = (stos j).map (fun p => some p.2) → AWPL E ops l fr' σ' (k.post E)) → (GS.ops ops (o :: l) fr σ k).holds E) (hy : ∀ j, f j = some r → (GS.ops ops l (frs j) (stos j) k).holds E) : (GS.ops ops (o :: l) fr σ k).holds E := by
  obtain ⟨j, h1, h2⟩ := bind_some hr
  exact hx j h1 (fun fr' σ' hf hs => awpl_le (frw hf) (stw hs) (hy j h2))
/-- a loop -/
def isN : Exit → Bool
  | .normal => true
  | _ => false
theorem al {A B : Type} {c : Code} {body : A → Option (Step A B)} {s : A} {f : B → Option R} (hr : (iter body s).bind f = some r) (frs : A → Fr) (stos : A → Sto) (e0 : B → Exit) (fr0 : B → Fr) (σ0 : B → Sto) (hf : (frs s).map fr.sel = frs s) (hs : (stos s).map σ.sel = (stos s).map (fun p => some p.2))
    (h : ∀ s x, body s = some x → (GS.code c (frs s) (stos s) (.base (RoundK frs stos (fun b => At (e0 b) (fr0 b) (σ0 b)) x) mono_round)).holds E)
    (hK : ∀ b, f b = some r → (GS.at (e0 b) (fr0 b) (σ0 b) k).holds E) : (GS.code (.loop c) fr σ k).holds E := by
  obtain ⟨b, h1, h2⟩ := bind_some hr
  exact awp_loop body frs stos (fun b => At (e0 b) (fr0 b) (σ0 b)) (fun s x hx => h s x hx) s h1 (frw hf) (stw hs) (fun e fr σ ⟨he, hf, hs⟩ => by
    subst he
    exact k.mono E _ _ _ _ _ hf hs (hK b h2))
theorem al1 {A B : Type} {c : Code} {body : A → Option (Step A B)} {s : A} {f : B → Option R} (hr : (iter body s).bind f = some r) (frs : A → Fr) (stos : A → Sto) (e0 : Exit) (fr0 : B → Fr) (σ0 : B → Sto) (hf : (frs s).map fr.sel = frs s) (hs : (stos s).map σ.sel = (stos s).map (fun p => some p.2))
    (h : ∀ s x, body s = some x → (GS.code c (frs s) (stos s) (.base (RoundK frs stos (fun b => At ((fun _ => e0) b) (fr0 b) (σ0 b)) x) mono_round)).holds E)
    (hK : ∀ b, f b = some r → (GS.at e0 (fr0 b) (σ0 b) k).holds E) : (GS.code (.loop c) fr σ k).holds E := al hr frs stos (fun _ => e0) fr0 σ0 hf hs h hK
theorem al2 {A B C : Type} {c : Code} {body : A → Option (Step A (B ⊕ C))} {s : A} {f : B → Option R} {g : C → Option R} (hr : (iter body s).bind (Sum.elim f g) = some r) (frs : A → Fr) (stos : A → Sto) (e1 : Exit) (fr1 : B → Fr) (σ1 : B → Sto) (e2 : Exit) (fr2 : C → Fr) (σ2 : C → Sto) (hf : (frs s).map fr.sel = frs s) (hs : (stos s).map σ.sel = (stos s).map (fun p => some p.2))
    (h : ∀ s x, body s = some x → (GS.code c (frs s) (stos s) (.base (RoundK frs stos (fun b => At (Sum.elim (fun _ => e1) (fun _ => e2) b) (Sum.elim fr1 fr2 b) (Sum.elim σ1 σ2 b)) x) mono_round)).holds E)
    (hK1 : ∀ b, f b = some r → (GS.at e1 (fr1 b) (σ1 b) k).holds E) (hK2 : ∀ b, g b = some r → (GS.at e2 (fr2 b) (σ2 b) k).holds E) : (GS.code (.loop c) fr σ k).holds E :=
  al hr frs stos _ _ _ hf hs h (fun b hb => by cases b with | inl b => exact hK1 b hb | inr b => exact hK2 b hb)
theorem al3 {A B C D : Type} {c : Code} {body : A → Option (Step A (B ⊕ C ⊕ D))} {s : A} {f : B → Option R} {g : C → Option R} {g3 : D → Option R} (hr : (iter body s).bind (Sum.elim f (Sum.elim g g3)) = some r) (frs : A → Fr) (stos : A → Sto) (e1 : Exit) (fr1 : B → Fr) (σ1 : B → Sto) (e2 : Exit) (fr2 : C → Fr) (σ2 : C → Sto) (e3 : Exit) (fr3 : D → Fr) (σ3 : D → Sto) (hf : (frs s).map fr.sel = frs s) (hs : (stos s).map σ.sel = (stos s).map (fun p => some p.2))
    (h : ∀ s x, body s = some x → (GS.code c (frs s) (stos s) (.base (RoundK frs stos (fun b => At (Sum.elim (fun _ => e1) (Sum.elim (fun _ => e2) (fun _ => e3)) b) (Sum.elim fr1 (Sum.elim fr2 fr3) b) (Sum.elim σ1 (Sum.elim σ2 σ3) b)) x) mono_round)).holds E)
    (hK1 : ∀ b, f b = some r → (GS.at e1 (fr1 b) (σ1 b) k).holds E) (hK2 : ∀ b, g b = some r → (GS.at e2 (fr2 b) (σ2 b) k).holds E) (hK3 : ∀ b, g3 b = some r → (GS.at e3 (fr3 b) (σ3 b) k).holds E) : (GS.code (.loop c) fr σ k).holds E :=
  al hr frs stos _ _ _ hf hs h (fun b hb => by rcases b with b | b | b; exact hK1 b hb; exact hK2 b hb; exact hK3 b hb)
theorem atc {A B : Type} {frs : A → Fr} {stos : A → Sto} {e0 : B → Exit} {fr0 : B → Fr} {σ0 : B → Sto} {s : A} {hm : Mono (RoundK frs stos (fun b => At (e0 b) (fr0 b) (σ0 b)) (.cont s))} (hf : (frs s).map fr.sel = frs s) (hs : (stos s).map σ.sel = (stos s).map (fun p => some p.2)) : (GS.at .normal fr σ (.base (RoundK frs stos (fun b => At (e0 b) (fr0 b) (σ0 b)) (.cont s)) hm)).holds E := ⟨rfl, frw hf, stw hs⟩
theorem ato {A B : Type} {e : Exit} {frs : A → Fr} {stos : A → Sto} {e0 : B → Exit} {fr0 : B → Fr} {σ0 : B → Sto} {b : B} {hm : Mono (RoundK frs stos (fun b => At (e0 b) (fr0 b) (σ0 b)) (.out b))} (he : e = e0 b) (hn : isN e = false) (hf : (fr0 b).map fr.sel = fr0 b) (hs : (σ0 b).map σ.sel = (σ0 b).map (fun p => some p.2)) : (GS.at e fr σ (.base (RoundK frs stos (fun b => At (e0 b) (fr0 b) (σ0 b)) (.out b)) hm)).holds E :=
  ⟨fun h => (by rw [h] at hn; cases hn), he, frw hf, stw hs⟩
/-- results -/
def resOf (T : Tab) (fr : Fr) (σ : Sto) : List ResultVar → Option (List AV)
  | [] => some []
  | .tmp t :: r => (match (fr.get t).force, resOf T fr σ r with | some c, some cs => some (c :: cs) | _, _ => none)
  | .cell a t :: r => (match fr.get a, T.get t with
    | .ptr o 0, some row => (match σ.get o with
      | some (.cells ds) => bif dAgg row.desc then (bif Nat.ble row.size ds.length then (match forceL (ds.take row.size), resOf T fr σ r with | some l, some cs => some (.agg l :: cs) | _, _ => none) else none)
        else (match ds[0]?, resOf T fr σ r with | some c, some cs => some (c :: cs) | _, _ => none)
      | _ => none)
    | _, _ => none)
theorem resOf_ok {P : Program} {T : Tab} (hT : TabOk P T) : ∀ {l : List ResultVar} {cs : List AV}, resOf T fr σ l = some cs → ResL P fr σ l cs
  | [], _, h => by simp [resOf] at h; subst h; exact .nil
  | .tmp t :: l, _, h => by
    unfold resOf at h
    split at h
    · rename_i h1 h2; cases h; exact .cons (res_tmp (AV.force_eq h1)) (resOf_ok hT h2)
    · cases h
  | .cell a t :: l, _, h => by
    unfold resOf at h
    split at h
    · rename_i o row ha hr
      have ht := (hT _ _ hr).ty
      split at h
      · rename_i ds ho
        cases hd : dAgg row.desc with
        | true =>
          rw [hd] at h
          simp only [cond_true] at h
          cases hn : Nat.ble row.size ds.length with
          | false => rw [hn] at h; cases h
          | true =>
            rw [hn] at h
            simp only [cond_true] at h
            split at h
            · rename_i h1 h2; cases h; rw [← forceL_eq h1]; exact .cons (res_cellN ha ho ht hd hn) (resOf_ok hT h2)
            · cases h
        | false =>
          rw [hd] at h
          simp only [cond_false] at h
          split at h
          · rename_i h1 h2; cases h; exact .cons (res_cell ha ho ht hd h1) (resOf_ok hT h2)
          · cases h
      · cases h
    · cases h
theorem kr {P : Program} {T : Tab} (hT : TabOk P T) {e : Exit} {fn : Func} {cs : List AV} {r : AV} {hm : Mono (Kret P fn r)} (he : isN e = true ∨ e = .ret) (h : resOf T fr σ fn.results.toList = some cs) (hr : retAV cs = r) : (GS.at e fr σ (.base (Kret P fn r) hm)).holds E :=
  ⟨by cases e <;> simp_all [isN], cs, resOf_ok hT h, hr⟩
/-- the contract of a function -/
theorem rf {P : Program} {f : FuncId} {fn : Func} {c : Code} (hok : FnOk P f fn c) {args : List AV} {r : AV} (hN : Nat.ble args.length fn.ntmps = true) (hr : ∀ k, r.has k = false)
    (h : ∀ g0 (hg : Gl g0), (GS.code c (frameFrom 0 args) [] (.base (Kret P fn r) mono_kret)).holds ⟨P, none, g0, fn.ntmps, false, hg, fun _ => False, fun _ _ h => h⟩) : Run P f args r := run_of_awp hok hN hr h
end

section
variable {E : Env} {fr : Fr} {σ : Sto} {k : KS} {ops : Array Oper} {rest : List Oper} {ty : TypeId} {pos : String} {af : Array Edge} {x y z : Operand} {t t' t2 e : TypeId}
variable {α : Type} {F : α → List PV} {l xs r' v : List α} {nl : Option Bool} {k1 k2 : IntKind} {d r lim size : Nat} {n p q : Int} {mu : Bool} {b2 : Nat} {z1 z2 : Value} {td : TypeDesc} {T : Tab} {c : AV}
/-- the guard is known to hold -/
theorem ug {dst : Option Tmp} {op : Op} {j d : Nat} {want b : Bool} (hj : (ops[j]?).bind (·.dst) = some d) (hv : fr.get d = .pv (.b (.bool b))) (ht : b = want)
    (h : (GS.ops ops (⟨dst, op, ty, pos, af, none⟩ :: rest) fr σ k).holds E) : (GS.ops ops (⟨dst, op, ty, pos, af, some (j, want)⟩ :: rest) fr σ k).holds E :=
  ⟨fun g a hs => by
    have hy := yielded_of hs hj hv
    have hw : Region.wanted ⟨dst, op, ty, pos, af, some (j, want)⟩ (yielded ops a.tmps) = true := by simp [Region.wanted, hy, ht]
    have h0 := h.go g a hs
    have hw0 : Region.wanted ⟨dst, op, ty, pos, af, none⟩ (yielded ops a.tmps) = true := by simp [Region.wanted]
    simp only [wpListIn, hw, hw0, if_true] at h0 ⊢
    exact h0⟩
theorem wo {o : Oper} {fr' : Fr} {σ' : Sto} (ho : OpTo E o fr σ fr' σ') (hg : o.guard = none) (h : (GS.ops ops rest fr' σ' k).holds E) : (GS.ops ops (o :: rest) fr σ k).holds E := awpl_op hg ho h
theorem wq {o : Oper} (h : EvQ E.P o fr.ev σ c) (hg : o.guard = none) (hd : o.dst = some d) (hN : Nat.ble (d + 1) E.N = true) (hq : (GS.ops ops rest ((d, c) :: fr) σ k).holds E) : (GS.ops ops (o :: rest) fr σ k).holds E := awpl_op hg (opTo_q hd hN h) hq
theorem cl {f : FuncId} {d : Nat} {xs : List Operand} {ats : Array TypeId} {args : List AV} {r : AV} (hr : Run E.P f args r) (hN : Nat.ble (d + 1) E.N = true) (ha : xs.map (fun x => (fr.ev x).weak) = args) (h : (GS.ops ops rest ((d, r) :: fr) σ k).holds E) :
    (GS.ops ops (⟨some d, .call ⟨.value (.func f), xs.toArray, ats⟩, ty, pos, af, none⟩ :: rest) fr σ k).holds E := awpl_op rfl (opTo_call hr hN ha) h
/-- the row of a slice's type, and that of its elements -/
def Tab.sl (T : Tab) (t : TypeId) : Option (TypeId × TyRow) := match T.get t with
  | some ⟨_, _, _, .slice e, _⟩ => (match T.get e with | some r => some (e, r) | none => none)
  | _ => none
theorem Tab.sl_ok {P : Program} (hT : TabOk P T) {row : TyRow} (h : T.sl t = some (e, row)) : (∃ ss sb sz, TyOk P t ss sb sz (.slice e)) ∧ TyOk P e row.size row.bytes row.zero row.desc := by
  unfold Tab.sl at h
  split at h
  · rename_i h1
    split at h
    · rename_i h2
      cases h
      exact ⟨⟨_, _, _, (hT _ _ h1).ty⟩, (hT _ _ h2).ty⟩
    · cases h
  · cases h
def Tab.st (T : Tab) (t : TypeId) : Bool := match T.get t with
  | some ⟨_, _, _, .string, _⟩ => true
  | _ => false
theorem Tab.st_ok {P : Program} (hT : TabOk P T) (h : T.st t = true) : ∃ ss sb sz, TyOk P t ss sb sz .string := by
  unfold Tab.st at h
  split at h
  · rename_i h1; exact ⟨_, _, _, (hT _ _ h1).ty⟩
  · cases h
variable {row : TyRow}
theorem wi {a : α} (hT : TabOk E.P T) (hi : idx l n = some a) (hs : T.sl t = some (e, row)) (hx : fr.ev x = .pv (.sl nl (l.map F))) (hy : fr.ev y = .pv (.b (.int k1 n))) (hz : (F a).length = row.size) (hN : Nat.ble (d + 1) E.N = true) (hq : (GS.ops ops rest ((d, .ep (F a)) :: fr) σ k).holds E) :
    (GS.ops ops (⟨some d, .indexAddr t x y, ty, pos, af, none⟩ :: rest) fr σ k).holds E := by
  obtain ⟨⟨_, _, _, h1⟩, h2⟩ := Tab.sl_ok hT hs
  exact awpl_op rfl (opTo_q rfl hN (ev_idx hx hy h1 h2 hz hi)) hq
theorem wih {a : α} (hT : TabOk E.P T) (hi : idx l n = some a) (hs : T.sl t = some (e, row)) (hx : fr.ev x = .hs r 0) (hy : fr.ev y = .pv (.b (.int k1 n))) (hr : σ.get r = some (.row e mu row.size (l.map F))) (hN : Nat.ble (d + 1) E.N = true) (hq : (GS.ops ops rest ((d, .hp r n.toNat 0) :: fr) σ k).holds E) :
    (GS.ops ops (⟨some d, .indexAddr t x y, ty, pos, af, none⟩ :: rest) fr σ k).holds E := by
  obtain ⟨⟨_, _, _, h1⟩, h2⟩ := Tab.sl_ok hT hs
  exact awpl_op rfl (opTo_q rfl hN (ev_hidx hx hy hr h1 h2 hi)) hq
theorem ws {s : Str} {b : UInt8} (hT : TabOk E.P T) (hi : idx s n = some b) (hs : T.st t = true) (hx : (fr.ev x).str? = some s) (hy : fr.ev y = .pv (.b (.int k1 n))) (hN : Nat.ble (d + 1) E.N = true) (hq : (GS.ops ops rest ((d, .u8 b) :: fr) σ k).holds E) :
    (GS.ops ops (⟨some d, .index t x y, ty, pos, af, none⟩ :: rest) fr σ k).holds E := by
  obtain ⟨_, _, _, h1⟩ := Tab.st_ok hT hs
  exact awpl_op rfl (opTo_q rfl hN (ev_sidx (AV.str?_eq hx) hy h1 hi)) hq
theorem wc {a b s : Str} (hi : cat a b = some s) (hx : (fr.ev x).str? = some a) (hy : (fr.ev y).str? = some b) (hN : Nat.ble (d + 1) E.N = true) (hq : (GS.ops ops rest ((d, .s s) :: fr) σ k).holds E) :
    (GS.ops ops (⟨some d, .binOp .add t x y t', ty, pos, af, none⟩ :: rest) fr σ k).holds E := awpl_op rfl (opTo_q rfl hN (ev_cat (AV.str?_eq hx) (AV.str?_eq hy) hi)) hq
/-- len of a slice -/
theorem wn (hT : TabOk E.P T) (hs : T.sl t = some (e, row)) (hx : fr.ev x = .pv (.sl nl (l.map F))) (hN : Nat.ble (d + 1) E.N = true) (hq : (GS.ops ops rest ((d, .i l.length) :: fr) σ k).holds E) :
    (GS.ops ops (⟨some d, .call ⟨.builtin .len, #[x], #[t]⟩, ty, pos, af, none⟩ :: rest) fr σ k).holds E := by
  obtain ⟨⟨_, _, _, h1⟩, h2⟩ := Tab.sl_ok hT hs
  exact awpl_op rfl (opTo_q rfl hN (ev_llen hx h1.u)) hq
theorem wnh (hT : TabOk E.P T) (hs : T.sl t = some (e, row)) (hx : fr.ev x = .hs r 0) (hr : σ.get r = some (.row e mu size (l.map F))) (hN : Nat.ble (d + 1) E.N = true) (hq : (GS.ops ops rest ((d, .i l.length) :: fr) σ k).holds E) :
    (GS.ops ops (⟨some d, .call ⟨.builtin .len, #[x], #[t]⟩, ty, pos, af, none⟩ :: rest) fr σ k).holds E := by
  obtain ⟨⟨_, _, _, h1⟩, h2⟩ := Tab.sl_ok hT hs
  exact awpl_op rfl (opTo_q rfl hN (ev_hlen hx hr h1.u)) hq
/-- a byte as an int -/
def Tab.ub (T : Tab) (t t' : TypeId) : Bool := match T.get t, T.get t' with
  | some ⟨_, _, _, .int .u8, _⟩, some ⟨_, _, _, .int .i64, _⟩ => true
  | _, _ => false
theorem wu {b : UInt8} (hT : TabOk E.P T) (hs : T.ub t t' = true) (hx : fr.ev x = .u8 b) (hN : Nat.ble (d + 1) E.N = true) (hq : (GS.ops ops rest ((d, .i b.toNat) :: fr) σ k).holds E) :
    (GS.ops ops (⟨some d, .convert t t' x, ty, pos, af, none⟩ :: rest) fr σ k).holds E := by
  unfold Tab.ub at hs
  split at hs
  · rename_i h1 h2; exact awpl_op rfl (opTo_q rfl hN (ev_u8int hx (hT _ _ h1).ty (hT _ _ h2).ty)) hq
  · cases hs
/-- a byte as a rune -/
def Tab.ur (T : Tab) (t t' : TypeId) : Bool := match T.get t, T.get t' with
  | some ⟨_, _, _, .int .u8, _⟩, some ⟨_, _, _, .int .i32, _⟩ => true
  | _, _ => false
theorem wur {b : UInt8} (hT : TabOk E.P T) (hs : T.ur t t' = true) (hx : fr.ev x = .u8 b) (hN : Nat.ble (d + 1) E.N = true) (hq : (GS.ops ops rest ((d, .pv (.b (.int .i32 (b.toNat : Int)))) :: fr) σ k).holds E) :
    (GS.ops ops (⟨some d, .convert t t' x, ty, pos, af, none⟩ :: rest) fr σ k).holds E := by
  unfold Tab.ur at hs
  split at hs
  · rename_i h1 h2; exact awpl_op rfl (opTo_q rfl hN (ev_u8i32 hx (hT _ _ h1).ty (hT _ _ h2).ty)) hq
  · cases hs
/-- a range over a text -/
theorem wr {s : Str} (id : Nat) (hT : TabOk E.P T) (hs : T.st t = true) (hx : (fr.ev x).str? = some s) (hf : (fr.has id || σ.has id) = false) (hN : Nat.ble (d + 1) E.N = true) (hq : (GS.ops ops rest ((d, .ptr id 0) :: fr) ((id, .it (strB s) 0) :: σ) k).holds E) :
    (GS.ops ops (⟨some d, .range t x, ty, pos, af, none⟩ :: rest) fr σ k).holds E := by
  obtain ⟨_, _, _, h1⟩ := Tab.st_ok hT hs
  simp only [Bool.or_eq_false_iff] at hf
  exact awpl_op rfl (opTo_range id hN (AV.str?_eq hx) h1 hf.1 hf.2) hq
theorem wnx {R : Type} {A B : Option R} {rr : R} {o i : Nat} {s : Str} (hr : (bif decide (i < s.length) then A else B) = some rr) (hx : fr.ev x = .ptr o 0) (ho : σ.get o = some (.it (strB s) i)) (hN : Nat.ble (d + 1) E.N = true)
    (h1 : decide (i < s.length) = true → A = some rr → (GS.ops ops rest ((d, .tup [.bo true, .i i, .pv (.b (.int .i32 (runeAt s i)))]) :: fr) (σ.upd o (.it (strB s) (i + wideAt s i))) k).holds E)
    (h2 : decide (i < s.length) = false → B = some rr → (GS.ops ops rest ((d, .tup [.bo false]) :: fr) σ k).holds E) :
    (GS.ops ops (⟨some d, .next x true, ty, pos, af, none⟩ :: rest) fr σ k).holds E :=
  awpl_next rfl hN hx ho (fun h => h1 h (by rw [h] at hr; exact hr)) (fun h => h2 h (by rw [h] at hr; exact hr))
section
variable {s w : Str}
theorem wsc (hT : TabOk E.P T) (hr : cut s 0 s.length = some w) (hs : T.st t = true) (hx : (fr.ev x).str? = some s) (hN : Nat.ble (d + 1) E.N = true) (hq : (GS.ops ops rest ((d, .s w) :: fr) σ k).holds E) :
    (GS.ops ops (⟨some d, .slice t x none none none, ty, pos, af, none⟩ :: rest) fr σ k).holds E := by
  obtain ⟨_, _, _, h1⟩ := Tab.st_ok hT hs
  exact awpl_op rfl (opTo_q rfl hN (ev_scut (AV.str?_eq hx) h1 hr)) hq
theorem wscL (hT : TabOk E.P T) (hr : cut s p s.length = some w) (hs : T.st t = true) (hx : (fr.ev x).str? = some s) (hy : fr.ev y = .pv (.b (.int k1 p))) (hN : Nat.ble (d + 1) E.N = true) (hq : (GS.ops ops rest ((d, .s w) :: fr) σ k).holds E) :
    (GS.ops ops (⟨some d, .slice t x (some y) none none, ty, pos, af, none⟩ :: rest) fr σ k).holds E := by
  obtain ⟨_, _, _, h1⟩ := Tab.st_ok hT hs
  exact awpl_op rfl (opTo_q rfl hN (ev_scutL (AV.str?_eq hx) hy h1 hr)) hq
theorem wscH (hT : TabOk E.P T) (hr : cut s 0 q = some w) (hs : T.st t = true) (hx : (fr.ev x).str? = some s) (hy : fr.ev z = .pv (.b (.int k1 q))) (hN : Nat.ble (d + 1) E.N = true) (hq : (GS.ops ops rest ((d, .s w) :: fr) σ k).holds E) :
    (GS.ops ops (⟨some d, .slice t x none (some z) none, ty, pos, af, none⟩ :: rest) fr σ k).holds E := by
  obtain ⟨_, _, _, h1⟩ := Tab.st_ok hT hs
  exact awpl_op rfl (opTo_q rfl hN (ev_scutH (AV.str?_eq hx) hy h1 hr)) hq
theorem wscLH (hT : TabOk E.P T) (hr : cut s p q = some w) (hs : T.st t = true) (hx : (fr.ev x).str? = some s) (hy : fr.ev y = .pv (.b (.int k1 p))) (hz : fr.ev z = .pv (.b (.int k2 q))) (hN : Nat.ble (d + 1) E.N = true) (hq : (GS.ops ops rest ((d, .s w) :: fr) σ k).holds E) :
    (GS.ops ops (⟨some d, .slice t x (some y) (some z) none, ty, pos, af, none⟩ :: rest) fr σ k).holds E := by
  obtain ⟨_, _, _, h1⟩ := Tab.st_ok hT hs
  exact awpl_op rfl (opTo_q rfl hN (ev_scutLH (AV.str?_eq hx) hy hz h1 hr)) hq
end
theorem wl (hT : TabOk E.P T) (hr : cut l 0 l.length = some v) (hs : T.sl t = some (e, row)) (hx : fr.ev x = .pv (.sl nl (l.map F))) (hF : ∀ x, (F x).length = row.size) (hN : Nat.ble (d + 1) E.N = true) (hq : (GS.ops ops rest ((d, .l F v) :: fr) σ k).holds E) :
    (GS.ops ops (⟨some d, .slice t x none none none, ty, pos, af, none⟩ :: rest) fr σ k).holds E := by
  obtain ⟨⟨_, _, _, h1⟩, h2⟩ := Tab.sl_ok hT hs
  exact awpl_op rfl (opTo_q rfl hN (ev_cut hx h1 h2 hF hr)) hq
theorem wlL (hT : TabOk E.P T) (hr : cut l p l.length = some v) (hs : T.sl t = some (e, row)) (hx : fr.ev x = .pv (.sl nl (l.map F))) (hy : fr.ev y = .pv (.b (.int k1 p))) (hF : ∀ x, (F x).length = row.size) (hN : Nat.ble (d + 1) E.N = true) (hq : (GS.ops ops rest ((d, .l F v) :: fr) σ k).holds E) :
    (GS.ops ops (⟨some d, .slice t x (some y) none none, ty, pos, af, none⟩ :: rest) fr σ k).holds E := by
  obtain ⟨⟨_, _, _, h1⟩, h2⟩ := Tab.sl_ok hT hs
  exact awpl_op rfl (opTo_q rfl hN (ev_cutL hx hy h1 h2 hF hr)) hq
theorem wlH (hT : TabOk E.P T) (hr : cut l 0 q = some v) (hs : T.sl t = some (e, row)) (hx : fr.ev x = .pv (.sl nl (l.map F))) (hy : fr.ev z = .pv (.b (.int k1 q))) (hF : ∀ x, (F x).length = row.size) (hN : Nat.ble (d + 1) E.N = true) (hq : (GS.ops ops rest ((d, .l F v) :: fr) σ k).holds E) :
    (GS.ops ops (⟨some d, .slice t x none (some z) none, ty, pos, af, none⟩ :: rest) fr σ k).holds E := by
  obtain ⟨⟨_, _, _, h1⟩, h2⟩ := Tab.sl_ok hT hs
  exact awpl_op rfl (opTo_q rfl hN (ev_cutH hx hy h1 h2 hF hr)) hq
theorem wlLH (hT : TabOk E.P T) (hr : cut l p q = some v) (hs : T.sl t = some (e, row)) (hx : fr.ev x = .pv (.sl nl (l.map F))) (hy : fr.ev y = .pv (.b (.int k1 p))) (hz : fr.ev z = .pv (.b (.int k2 q))) (hF : ∀ x, (F x).length = row.size) (hN : Nat.ble (d + 1) E.N = true) (hq : (GS.ops ops rest ((d, .l F v) :: fr) σ k).holds E) :
    (GS.ops ops (⟨some d, .slice t x (some y) (some z) none, ty, pos, af, none⟩ :: rest) fr σ k).holds E := by
  obtain ⟨⟨_, _, _, h1⟩, h2⟩ := Tab.sl_ok hT hs
  exact awpl_op rfl (opTo_q rfl hN (ev_cutLH hx hy hz h1 h2 hF hr)) hq
def rowFit (row : TyRow) (lim : Nat) : Bool := Nat.beq row.zero.cells.size row.size && Nat.ble 1 row.size && (Nat.ble (lim * row.bytes) 140737488355328 && Nat.ble lim 9223372036854775807)
theorem wa (hT : TabOk E.P T) (h : app lim l xs = some r') (hs : T.sl t = some (e, row)) (hx : fr.ev x = .hs r 0) (hr : σ.get r = some (.row e mu row.size (l.map F))) (hy : fr.ev y = .pv (.sl nl (xs.map F))) (hF : ∀ x, (F x).length = row.size) (hfit : rowFit row lim = true) (hN : Nat.ble (d + 1) E.N = true) (hq : (GS.ops ops rest ((d, .hs r 0) :: fr.clr r) ((σ.clr r).upd r (.row e mu row.size (r'.map F))) k).holds E) :
    (GS.ops ops (⟨some d, .call ⟨.builtin .append, #[x, y], #[t, t]⟩, ty, pos, af, none⟩ :: rest) fr σ k).holds E := by
  obtain ⟨⟨_, _, _, h1⟩, h2⟩ := Tab.sl_ok hT hs
  simp only [rowFit, Bool.and_eq_true] at hfit
  exact awpl_op rfl (opTo_append hN hx hr hy h1 h2 hfit.1.1 hfit.1.2 hF (by simp only [Bool.and_eq_true]; exact hfit.2) h) hq
theorem wa0 (r : Nat) (hT : TabOk E.P T) (h : app lim [] xs = some r') (hs : T.sl t = some (e, row)) (hx : fr.ev x = .pv (.sl (some true) [])) (hy : fr.ev y = .pv (.sl nl (xs.map F))) (hF : ∀ x, (F x).length = row.size) (hfit : rowFit row lim = true) (hf : (fr.has r || σ.has r) = false) (hN : Nat.ble (d + 1) E.N = true) (hq : (GS.ops ops rest ((d, .hs r 0) :: fr.clr r) ((Sto.clr r ((r, .row e false row.size []) :: σ)).upd r (.row e false row.size (r'.map F))) k).holds E) :
    (GS.ops ops (⟨some d, .call ⟨.builtin .append, #[x, y], #[t, t]⟩, ty, pos, af, none⟩ :: rest) fr σ k).holds E := by
  obtain ⟨⟨_, _, _, h1⟩, h2⟩ := Tab.sl_ok hT hs
  simp only [rowFit, Bool.and_eq_true] at hfit
  simp only [Bool.or_eq_false_iff] at hf
  exact awpl_op rfl (opTo_append0 r hN hx hy h1 h2 hfit.1.1 hfit.1.2 hF (by simp only [Bool.and_eq_true]; exact hfit.2) hf.1 hf.2 h) hq
def Tab.bs (T : Tab) (t t2 : TypeId) : Bool := match T.get t with
  | some ⟨_, _, _, .slice e, _⟩ => (match T.get e with | some ⟨_, _, _, .int .u8, _⟩ => T.st t2 | _ => false)
  | _ => false
theorem wb {s : Str} (hT : TabOk E.P T) (hs : T.bs t t2 = true) (hx : fr.ev x = .pv (.sl nl (s.map cU))) (hN : Nat.ble (d + 1) E.N = true) (hq : (GS.ops ops rest ((d, .s s) :: fr) σ k).holds E) :
    (GS.ops ops (⟨some d, .convert t t2 x, ty, pos, af, none⟩ :: rest) fr σ k).holds E := by
  unfold Tab.bs at hs
  split at hs
  · rename_i h1
    split at hs
    · rename_i h2
      obtain ⟨_, _, _, h3⟩ := Tab.st_ok hT hs
      exact awpl_op rfl (opTo_q rfl hN (ev_bytes2s hx (hT _ _ h1).ty (hT _ _ h2).ty h3)) hq
    · cases hs
  · cases hs
/-- a slice's literal -/
theorem wz (F : α → List PV) (l : List α) {m : Nat} {ps : List (Nat × Operand)} (hT : TabOk E.P T) (hs : T.sl t = some (e, row)) (hzs : (Nat.beq row.zero.cells.size row.size && Nat.ble 1 row.size && row.zero.cells.toList.all cellV) = true) (hF : ∀ x, (F x).length = row.size) (hln : (Nat.beq l.length m && Nat.ble (m * row.size) 16777216) = true)
    (hc : fillA (fun i => some (i * row.size, row.size)) (List.replicate (m * row.size) .any) (ps.map fun p => (p.1, (fr.ev p.2).weak)) = some (l.flatMap fun x => (F x).map AV.pv)) (hN : Nat.ble (d + 1) E.N = true) (hq : (GS.ops ops rest ((d, .l F l) :: fr) σ k).holds E) :
    (GS.ops ops (⟨some d, .buildSlice t m ps.toArray, ty, pos, af, none⟩ :: rest) fr σ k).holds E := by
  obtain ⟨⟨_, _, _, h1⟩, h2⟩ := Tab.sl_ok hT hs
  exact awpl_op rfl (opTo_g rfl hN (opG_lit h1 h2 hzs hF hln hc)) hq
/-- a region that draws its order -/
theorem dr {id : Nat} {l : List Oper} (m : Nat) (new : Fr) {cs : List AV} (hmix : E.P.follows .mixedOrders = true) (hok : drawOk l m = true) (hm : Nat.ble m l.length = true) (hN : ((l.take m).all fun o => o.dst.all fun d => Nat.ble (d + 1) E.N) = true)
    (hp : Pres E l.toArray (new ++ fr) σ (l.take m) cs) (hnew : newOf (l.take m) cs [] = new) (h : (GS.ops l.toArray (l.drop m) (new ++ fr) σ k).holds E) : (GS.code (.region id l.toArray true) fr σ k).holds E := awp_drawn m new hmix hok hm hN hp hnew h
theorem pq {o : Oper} {l : List Oper} {cs : List AV} (hT : TabOk E.P T) (hq : qval T fr.ev σ o.op = some c) (hg : GuardYes ops fr o) (hr : Pres E ops fr σ l cs) : Pres E ops fr σ (o :: l) (c :: cs) := .run hg (opG_q (qval_ok hT hq)) hr
theorem drA {id : Nat} {l : List Oper} (m : Nat) (new : Fr) {cs : List AV} {az : Objs} {σ' : Sto} (hmix : E.P.follows .mixedOrders = true) (hok : drawOk l m = true) (hm : Nat.ble m l.length = true) (hN : ((l.take m).all fun o => o.dst.all fun d => Nat.ble (d + 1) E.N) = true)
    (hp : PresA E l.toArray (new ++ fr) σ (l.take m) cs az) (hfree : freeOk fr σ cs az = true) (hσ : objs (fun _ => true) 0 az ++ σ = σ') (hnew : newOf (l.take m) cs [] = new) (h : (GS.ops l.toArray (l.drop m) (new ++ fr) σ' k).holds E) : (GS.code (.region id l.toArray true) fr σ k).holds E := awp_drawnA m new hmix hok hm hN hp hfree hσ hnew h
/-- one operation floats -/
theorem drF {id : Nat} {l : List Oper} (m f : Nat) {of om : Oper} (new new2 : Fr) {cs : List AV} {az : Objs} {σ' : Sto} (frJ : Fr) (σJ : Sto) (hmix : E.P.follows .mixedOrders = true) (hok : drawOkF l m f = true) (hf : l[f]? = some of) (hom : l[m]? = some om) (hfm : Nat.ble (f + 1) m = true) (hm : Nat.ble m l.length = true) (hN : ((l.take m).all fun o => o.dst.all fun d => Nat.ble (d + 1) E.N) = true)
    (hp : PresA E l.toArray (new ++ fr) σ (l.take m) cs az) (hfree : freeOk fr σ cs az = true) (hazf : az[f]? = some none) (hσ : objs (fun _ => true) 0 az ++ σ = σ') (hnew : newOf (l.take m) cs [] = new) (hnew2 : newOf (l.take m) (cs.set f .any) [] = new2)
    (ha : (∀ fr' σ'', frJ.map fr'.sel = frJ → σJ.map σ''.sel = σJ.map (fun p => some p.2) → AWPL E l.toArray (l.drop (m + 1)) fr' σ'' (k.post E)) → (GS.ops l.toArray (om :: l.drop (m + 1)) (new ++ fr) σ' k).holds E)
    (hb : (∀ fr' σ'', frJ.map fr'.sel = frJ → σJ.map σ''.sel = σJ.map (fun p => some p.2) → AWPL E l.toArray (l.drop (m + 1)) fr' σ'' (k.post E)) → (GS.ops l.toArray (om :: of :: l.drop (m + 1)) (new2 ++ fr) σ' k).holds E)
    (hy : (GS.ops l.toArray (l.drop (m + 1)) frJ σJ k).holds E) : (GS.code (.region id l.toArray true) fr σ k).holds E := by
  have H : ∀ fr' σ'', frJ.map fr'.sel = frJ → σJ.map σ''.sel = σJ.map (fun p => some p.2) → AWPL E l.toArray (l.drop (m + 1)) fr' σ'' (k.post E) := fun fr' σ'' h1 h2 => awpl_le (frw h1) (stw h2) hy
  have h1 : AWPL E l.toArray (om :: l.drop (m + 1)) (new ++ fr) σ' (k.post E) := ha H
  have hml : m < l.length := (List.getElem?_eq_some_iff.1 hom).1
  have hd : l.drop m = om :: l.drop (m + 1) := by
    rw [List.drop_eq_getElem_cons hml]
    congr 1
    exact (List.getElem?_eq_some_iff.1 hom).2
  rw [← hd] at h1
  exact awp_drawnF m f new new2 hmix hok hf hom hfm hm hN hp hfree hazf hσ hnew hnew2 h1 (hb H)
theorem pqA {o : Oper} {l : List Oper} {cs : List AV} {az : Objs} (hT : TabOk E.P T) (hq : qval T fr.ev σ o.op = some c) (hg : GuardYes ops fr o) (hr : PresA E ops fr σ l cs az) : PresA E ops fr σ (o :: l) (c :: cs) (none :: az) := .run hg (opG_q (qval_ok hT hq)) hr
theorem pnA {d : Nat} {gu : Option (Nat × Bool)} {l : List Oper} {cs ds : List AV} {az : Objs} (id : Nat) (hT : TabOk E.P T) (ht : T.get t = some row) (hz : forceL (row.zero.cells.toList.map constAV) = some ds) (hz2 : row.zero.cells.toList.all cellV = true) (hg : GuardYes ops fr ⟨some d, .alloc t, ty, pos, af, gu⟩) (hr : PresA E ops fr σ l cs az) : PresA E ops fr σ (⟨some d, .alloc t, ty, pos, af, gu⟩ :: l) (.ptr id 0 :: cs) (some (id, ds) :: az) :=
  .new id hg (opNew_alloc (hT _ _ ht).ty (forceL_eq hz) hz2) hr
/-- calls in place -/
theorem mono_inl {d : Nat} {fn : Func} {base sid : Nat} {T : Array Value} {ds : List Deferred} {K : Post} : Mono (InlK E ops rest d fn base sid T ds K) := fun e fr σ fr' σ' hf hs ⟨h1, fr2, σ2, cs, fr'', σ'', h2, h3, h4⟩ => ⟨h1, fr2, σ2, cs, fr'', σ'', frLe_trans hf h2, stoLe_trans hs h3, h4⟩
theorem mono_itr {base sid lid b : Nat} {L : Loop} {T : Array Value} {ds : List Deferred} {K : Post} : Mono (ItrK E base sid lid b L T ds K) := fun e fr σ fr' σ' _ hs ⟨h1, σ2, L', fr'', σ'', h2, h3⟩ => ⟨h1, σ2, L', fr'', σ'', stoLe_trans hs h2, h3⟩
theorem mono_rnd {d base2 sid2 lid b : Nat} {L : Loop} {T : Array Value} {ds : List Deferred} {K : Post} : Mono (RndK E ops rest d base2 sid2 lid b L T ds K) := fun e fr σ fr' σ' _ hs ⟨L', t, σ2, fr'', σ'', h1, h2, h3⟩ => ⟨L', t, σ2, fr'', σ'', h1, stoLe_trans hs h2, h3⟩
theorem mono_asg {lid b : Nat} {L : Loop} {body : Code} {K : Post} : Mono (AsgK E lid b L body K) := fun e fr σ fr' σ' hf hs ⟨h1, fr2, σ2, h2, h3, h4⟩ => ⟨h1, fr2, σ2, frLe_trans hf h2, stoLe_trans hs h3, h4⟩
theorem il {d f : Nat} {fn : Func} {c : Code} {fx : Operand} {xs : List Operand} {ats : Array TypeId} {first cap args : List AV} (base sid : Nat) (keep : Fr) (hf : fr.ev fx = .fn (.func f) first cap) (hok : FnOk E.P f fn c)
    (hN : (Nat.ble (d + 1) E.N && Nat.ble args.length fn.ntmps) = true) (ha : first ++ xs.map fr.ev ++ cap = args) (hk : keep.map (fun p => fr.get p.1) = keep.map (·.2))
    (h : ∀ (T : Array Value) (ds : List Deferred), (GS.code c (frameFrom 0 args) ((sid, .sus E.g0.w.heap.size ds) :: (holds base T keep ++ σ)) (.base (InlK E ops rest d fn base sid T ds (k.post E)) mono_inl)).holds ⟨E.P, none, E.g0, fn.ntmps, true, E.gl, E.S, E.sg⟩) :
    (GS.ops ops (⟨some d, .call ⟨.value fx, xs.toArray, ats⟩, ty, pos, af, none⟩ :: rest) fr σ k).holds E :=
  awpl_inl base sid keep (wanted_plain rfl) hf hok hN ha (kpw hk) fun T ds _ => h T ds
theorem ie {E' : Env} {d : Nat} {fn : Func} {base sid : Nat} {Tm : Array Value} {ds : List Deferred} {e : Exit} {hm : Mono (InlK E ops rest d fn base sid Tm ds (k.post E))} (hT : TabOk E.P T) (cs : List AV) (fr'' : Fr) (σ'' : Sto) (he : isN e = true ∨ e = .ret) (hr : resOf T fr σ fn.results.toList = some cs) (hh : fr''.map (fun p => σ.get (base + p.1)) = fr''.map (fun p => some (.hold p.2 (Tm.getD p.1 undef)))) (hsu : σ.get sid = some (.sus E.g0.w.heap.size ds)) (hle : σ''.map σ.sel = σ''.map (fun p => some p.2))
    (h : AWPL E ops rest ((d, retAV cs) :: fr'') σ'' (k.post E)) : (GS.at e fr σ (.base (InlK E ops rest d fn base sid Tm ds (k.post E)) hm)).holds E' :=
  inlK (by cases e <;> simp_all [isN]) frLe_refl stoLe_refl (resOf_ok hT hr) (hdw hh) hsu (stw hle) h
end
end Go.Proofs.Ytpclhpncmlbccaa

/- The abstract calculus: a part of an owned row is taken out in place. No program is named. -/
namespace Go.Proofs.Ytpclhpncmlbccaa
open Go.RowKit Go.Lib

variable {E : Env} {fr : Fr} {σ : Sto} {K : Post} {P : Program} {ρ : Operand → AV}
variable {dst : Option Tmp} {ty : TypeId} {pos : String} {af : Array Edge} {gu : Option (Nat × Bool)}
section
variable {α : Type} {F : α → List PV} {l xs r' : List α} {r size bytes sb ss k lim : Nat} {e t : TypeId} {mu : Bool} {zero sz : Value} {d : TypeDesc} {x y z : Operand} {nl : Option Bool}

/-- row[:hi], the row as it was -/
theorem ev_hpre {q : Int} {k1 : IntKind} {v : List α} (hx : ρ x = .hs r 0) (hr : σ.get r = some (.row e mu size (l.map F))) (hy : ρ y = .pv (.b (.int k1 q)))
    (ht : TyOk P t ss sb sz (.slice e)) (he : TyOk P e size bytes zero d) (hv : cut l 0 q = some v) : EvQ P ⟨dst, .slice t x none (some y) none, ty, pos, af, gu⟩ ρ σ (.hpre r q.toNat) :=
  ⟨fun c => by simp, fun g ρv hh hs => by
    have h1 := hh x (by simp [Op.operands])
    have h2 := hh y (by simp [Op.operands])
    rw [hx] at h1
    rw [hy] at h2
    have e2 := rel_b h2
    obtain ⟨h0, h01, h02, _⟩ := cut_spec hv
    obtain ⟨old, ho1, ev, ho3⟩ := (hs r _ hr).old h1
    obtain ⟨a0, old⟩ := old
    have hrun : ∀ ad cap, ρv x = .slice ad l.length cap → l.length ≤ cap → (execOp ρv ⟨dst, .slice t x none (some y) none, ty, pos, af, gu⟩).run P g.w =
        .ok (.value (.slice (if cap = (0 : Int).toNat then ad else ad.map (·.add ((0 : Int).toNat * size))) (q.toNat - (0 : Int).toNat) (cap - (0 : Int).toNat))) g.w := by
      intro ad cap ev hcap
      show Sem.run P (do let v ← Instr.sliceAt t (ρv x) (Option.map ρv none) ((some y).map ρv) none; pure (Next.value v)) g.w = _
      have hb := run_sliceBounds (P := P) (w := g.w) (len := l.length) (cap := cap) (lo := Option.map ρv none) (hi := (some y).map ρv) (a := 0) (b := q) hcap (.inl ⟨rfl, rfl⟩) (.inr ⟨k1, by simp [e2]⟩) h0 h01 h02
      rw [ev]
      simp only [Instr.sliceAt, underlying, program, Sem.run_bind, Sem.run, ht.u, Result.andThen_ok, Sem.run_pure, Instr.slice, hb, he.sizeOf]
    cases old with
    | none =>
      obtain ⟨hl, rfl⟩ := ho3
      have hq : q.toNat = 0 := by simp at h02; omega
      refine ⟨_, hrun a0 0 ev (by simp), ?_⟩
      rw [hq]; simp only [Int.toNat_zero, if_true, Nat.sub_zero]
      exact .hpreNil _ hl
    | some o =>
      obtain ⟨b, off, cap, cur⟩ := o
      obtain ⟨hb, hcs, hnc, hcm, ad, rfl, had⟩ := ho1
      refine ⟨_, hrun (some ad) cap ev hnc, ?_⟩
      simp only [Int.toNat_zero, Nat.sub_zero, Nat.zero_mul]
      split
      · exact .hpre ho3.1 (by omega) (fun hc => by omega)
      · refine .hpre ho3.1 (by omega) (fun hc => ?_)
        rw [had (by omega)]; show Addr.add _ _ = _; rw [addr_add, Nat.add_zero]⟩
/-- bounds that are given, within the capacity -/
theorem run_sliceBounds2 {w : World} {len cap : Nat} {a b : Int} {k1 k2 : IntKind} (h0 : 0 ≤ a) (h1 : a ≤ b) (h2 : b ≤ cap) :
    (Instr.sliceBounds true len cap (some (.int k1 a)) (some (.int k2 b)) none).run P w = .ok (a.toNat, b.toNat, cap) w := by
  have a1 : 0 ≤ b ∧ b ≤ (cap : Int) := ⟨by omega, by omega⟩
  have a2 : 0 ≤ a ∧ a ≤ b := ⟨by omega, by omega⟩
  have a3 : max b 0 = b := by omega
  simp [Instr.sliceBounds, Instr.sliceBound, asIntOf, a1, a2, a3]
theorem run_sliceBounds3 {w : World} {len cap : Nat} {a b c : Int} {k1 k2 k3 : IntKind} (h0 : 0 ≤ a) (h1 : a ≤ b) (h2 : b ≤ c) (h3 : c ≤ cap) :
    (Instr.sliceBounds true len cap (some (.int k1 a)) (some (.int k2 b)) (some (.int k3 c))).run P w = .ok (a.toNat, b.toNat, c.toNat) w := by
  have a1 : 0 ≤ c ∧ c ≤ (cap : Int) := ⟨by omega, by omega⟩
  have a2 : 0 ≤ b ∧ b ≤ c := ⟨by omega, by omega⟩
  have a3 : 0 ≤ a ∧ a ≤ b := ⟨by omega, by omega⟩
  have a4 : max c 0 = c := by omega
  have a5 : max b 0 = b := by omega
  simp [Instr.sliceBounds, Instr.sliceBound, asIntOf, a1, a2, a3, a4, a5]
/-- bounds that are looked at: row[a:b:c] -/
def cut3 (l : List α) (a b c : Int) : Option Unit := if 0 ≤ a ∧ a ≤ b ∧ b ≤ c ∧ c ≤ l.length then some () else none
theorem ev_hcut3 {a b c : Int} {k1 k2 k3 : IntKind} {u : Operand} {v : Unit} (hx : ρ x = .hs r 0) (hr : σ.get r = some (.row e mu size (l.map F))) (hy : ρ y = .pv (.b (.int k1 a))) (hz : ρ z = .pv (.b (.int k2 b))) (hu : ρ u = .pv (.b (.int k3 c)))
    (ht : TyOk P t ss sb sz (.slice e)) (he : TyOk P e size bytes zero d) (hv : cut3 l a b c = some v) : EvQ P ⟨dst, .slice t x (some y) (some z) (some u), ty, pos, af, gu⟩ ρ σ .any :=
  ⟨fun c => by simp, fun g ρv hh hs => by
    have h1 := hh x (by simp [Op.operands])
    have h2 := hh y (by simp [Op.operands])
    have h3 := hh z (by simp [Op.operands])
    have h4 := hh u (by simp [Op.operands])
    rw [hx] at h1
    rw [hy] at h2
    rw [hz] at h3
    rw [hu] at h4
    have e2 := rel_b h2
    have e3 := rel_b h3
    have e4 := rel_b h4
    have hc : 0 ≤ a ∧ a ≤ b ∧ b ≤ c ∧ c ≤ l.length := by
      unfold cut3 at hv; split at hv
      · assumption
      · cases hv
    obtain ⟨c0, c1, c2, c3⟩ := hc
    obtain ⟨old, ho1, ev, ho3⟩ := (hs r _ hr).old h1
    obtain ⟨a0, old⟩ := old
    have hrun : ∀ ad cap, ρv x = .slice ad l.length cap → l.length ≤ cap → ∃ v', (execOp ρv ⟨dst, .slice t x (some y) (some z) (some u), ty, pos, af, gu⟩).run P g.w = .ok (.value v') g.w := by
      intro ad cap ev hcap
      have hb := run_sliceBounds3 (P := P) (w := g.w) (len := l.length) (cap := cap) (k1 := k1) (k2 := k2) (k3 := k3) c0 c1 c2 (by omega)
      refine ⟨.slice (if c.toNat = a.toNat then ad else ad.map (·.add (a.toNat * size))) (b.toNat - a.toNat) (c.toNat - a.toNat), ?_⟩
      show Sem.run P (do let v ← Instr.sliceAt t (ρv x) ((some y).map ρv) ((some z).map ρv) ((some u).map ρv); pure (Next.value v)) g.w = _
      simp only [Option.map_some, e2, e3, e4]
      rw [ev]
      simp only [Instr.sliceAt, underlying, program, Sem.run_bind, Sem.run, ht.u, Result.andThen_ok, Sem.run_pure, Instr.slice, hb, he.sizeOf]
    cases old with
    | none =>
      obtain ⟨hl, rfl⟩ := ho3
      obtain ⟨v', h5⟩ := hrun a0 0 ev (by simp)
      exact ⟨v', h5, .any _⟩
    | some o =>
      obtain ⟨b', off, cap, cur⟩ := o
      obtain ⟨hb, hcs, hnc, hcm, ad, rfl, had⟩ := ho1
      obtain ⟨v', h5⟩ := hrun (some ad) cap ev hnc
      exact ⟨v', h5, .any _⟩⟩
theorem ev_hprelen {n : Nat} (hx : ρ x = .hpre r n) (ht : P.underlying t = some (.slice e)) : EvQ P ⟨dst, .call ⟨.builtin .len, #[x], #[t]⟩, ty, pos, af, gu⟩ ρ σ (.i (n : Int)) :=
  ⟨fun c => by simp, fun g ρv hh _ => by
    have h1 := hh x (by simp [Op.operands, Call.operands])
    rw [hx] at h1
    have hval : ∃ a cap, ρv x = .slice a n cap := by
      generalize ρv x = v at h1
      cases h1 with
      | hpreNil a => exact ⟨_, _, rfl⟩
      | hpre => exact ⟨_, _, rfl⟩
    obtain ⟨a, cap, hval⟩ := hval
    refine ⟨.int .i64 n, ?_, .pv (.b rfl)⟩
    simp [execOp, resolve, invoke, builtin, Builtin.len_, hval, go_sem, underlying, ht, goInt]⟩
/-- the rest of the row behind a part of it -/
def endCut (l : List α) (a b : Int) : Option Unit := if 0 ≤ a ∧ a ≤ b ∧ b = l.length then some () else none
theorem ev_hprest {n : Nat} {a b : Int} {k1 k2 : IntKind} {v : Unit} (hx : ρ x = .hpre r n) (hr : σ.get r = some (.row e mu size (l.map F))) (hy : ρ y = .pv (.b (.int k1 a))) (hz : ρ z = .pv (.b (.int k2 b)))
    (ht : TyOk P t ss sb sz (.slice e)) (he : TyOk P e size bytes zero d) (hv : endCut l a b = some v) : EvQ P ⟨dst, .slice t x (some y) (some z) none, ty, pos, af, gu⟩ ρ σ (.hsub r a.toNat) :=
  ⟨fun c => by simp, fun g ρv hh hs => by
    have h1 := hh x (by simp [Op.operands])
    have h2 := hh y (by simp [Op.operands])
    have h3 := hh z (by simp [Op.operands])
    rw [hx] at h1
    rw [hy] at h2
    rw [hz] at h3
    have e2 := rel_b h2
    have e3 := rel_b h3
    have hc : 0 ≤ a ∧ a ≤ b ∧ b = l.length := by
      unfold endCut at hv; split at hv
      · assumption
      · cases hv
    obtain ⟨c0, c1, c2⟩ := hc
    have hrun : ∀ ad m cap, ρv x = .slice ad m cap → l.length ≤ cap → (execOp ρv ⟨dst, .slice t x (some y) (some z) none, ty, pos, af, gu⟩).run P g.w =
        .ok (.value (.slice (if cap = a.toNat then ad else ad.map (·.add (a.toNat * size))) (b.toNat - a.toNat) (cap - a.toNat))) g.w := by
      intro ad m cap ev hcap
      have hb := run_sliceBounds2 (P := P) (w := g.w) (len := m) (cap := cap) (k1 := k1) (k2 := k2) c0 c1 (by omega)
      show Sem.run P (do let v ← Instr.sliceAt t (ρv x) ((some y).map ρv) ((some z).map ρv) none; pure (Next.value v)) g.w = _
      simp only [Option.map_some, e2, e3]
      rw [ev]
      simp only [Instr.sliceAt, underlying, program, Sem.run_bind, Sem.run, ht.u, Result.andThen_ok, Sem.run_pure, Instr.slice, hb, he.sizeOf]
    have hob := hs r _ hr
    generalize hls : l.map F = ls at hob
    generalize hev : ρv x = vx at h1 hrun
    cases hob with
    | nil hl =>
      obtain rfl : l = [] := by simpa using hls
      cases h1 with
      | hpre h2 => rw [hl] at h2; cases h2
      | hpreNil ax =>
        have ha : a.toNat = 0 := by simp at c2; omega
        have hb : b.toNat = 0 := by simp at c2; omega
        refine ⟨_, hrun ax 0 0 rfl (by simp), ?_⟩
        rw [ha, hb]; simp only [if_true, Nat.sub_zero]
        exact .hsubNil _ hl
    | @row _ _ _ _ b' off cap cur hl hb hn hm hle hzl hu hmu hrel =>
      subst hls
      simp only [List.length_map] at hl hle hu
      cases h1 with
      | hpreNil ax h2 => rw [hl] at h2; cases h2
      | @hpre _ _ _ _ _ _ _ ad h2 hlo ha =>
        rw [hl] at h2
        cases h2
        have hbn : b.toNat = l.length := by omega
        refine ⟨_, hrun (some ad) n cap rfl hle, ?_⟩
        rw [hbn]
        split
        · exact .hsub hl (by omega) (fun hc => by omega)
        · refine .hsub hl (by omega) (fun hc => ?_)
          rw [ha (by omega)]; show Addr.add _ _ = _; rw [addr_add, Nat.add_mul]⟩
/-- elements move to the front -/
def shft (l : List α) (p q : Int) : Option (List α) := if 0 ≤ p ∧ p ≤ q ∧ q ≤ l.length then some (l.take p.toNat ++ l.drop q.toNat ++ l.drop (p.toNat + (l.length - q.toNat))) else none
theorem opTo_shift {p q : Int} {l' : List α} (hN : Nat.ble (k + 1) E.N = true) (hx : fr.ev x = .hpre r p.toNat) (hy : fr.ev y = .hsub r q.toNat) (hr : σ.get r = some (.row e true size (l.map F)))
    (ht : TyOk E.P t ss sb sz (.slice e)) (he : TyOk E.P e size bytes zero d) (hs : Nat.ble 1 size = true) (h : shft l p q = some l') :
    OpTo E ⟨some k, .call ⟨.builtin .append, #[x, y], #[t, t]⟩, ty, pos, af, gu⟩ fr σ ((k, .hpre r (p.toNat + (l.length - q.toNat))) :: fr) (σ.upd r (.row e true size (l'.map F))) :=
  ⟨fun g a K Q hst hK => by
    have hs := Nat.le_of_ble_eq_true hs
    have hc : (0 ≤ p ∧ p ≤ q ∧ q ≤ l.length) ∧ l.take p.toNat ++ l.drop q.toNat ++ l.drop (p.toNat + (l.length - q.toNat)) = l' := by
      unfold shft at h; split at h
      · rename_i h0; cases h; exact ⟨h0, rfl⟩
      · cases h
    obtain ⟨⟨c0, c1, c2⟩, hl'⟩ := hc
    have d1 : p.toNat ≤ q.toNat := by omega
    have d2 : q.toNat ≤ l.length := by omega
    generalize p.toNat = p at *
    generalize q.toNat = q at *
    refine ⟨fun _ _ => trivial, ?_⟩
    rw [Oper.semAt_plain _ _ _ (fun c => by simp)]
    have h1 := hst.ev x
    have h2 := hst.ev y
    rw [hx] at h1
    rw [hy] at h2
    generalize hev : a.eval x = vx at h1
    generalize hey : a.eval y = vy at h2
    obtain ⟨i, hi, hsz, hby, hzero⟩ := he.info
    have hob := hst.so.obj r _ hr
    generalize hls : l.map F = ls at hob
    cases hob with
    | nil hl =>
      obtain rfl : l = [] := by simpa using hls
      have hp0 : p = 0 := by simp at d2; omega
      subst hp0
      have hl0 : l' = [] := by rw [← hl']; simp
      subst hl0
      cases h1 with
      | hpre h3 => rw [hl] at h3; cases h3
      | hpreNil ax =>
        cases h2 with
        | hsub h3 => rw [hl] at h3; cases h3
        | hsubNil ay =>
          have hrun : (Builtin.append_ #[t, t] ty #[.slice ax 0 0, .slice ay 0 0]).run E.P g.w = .ok (.slice ax 0 0) g.w := by
            cases ax <;> cases ay <;> simp [Builtin.append_, run_underlying ht.u, sizeOf, typeInfo, hi, Builtin.lenOf, Builtin.firstCells, loadCells, loadCellsFrom, storeCells]
          rw [run_append_op (x := x) (y := y) (w := g.w) (by rw [hev, hey]; exact hrun), Oper.uponIn_value]
          have hst' := hst.objset (ob := .row e true size (([] : List α).map F)) hr (Ext.refl _ _) rfl rfl rfl rfl (fun _ _ _ => ⟨rfl, rfl⟩) hst.so.wf (hst.so.obj r _ hr) (fun _ => rfl)
          refine hK g _ (hst'.put (Nat.le_of_ble_eq_true hN) ?_)
          have : (0 + (([] : List α).length - q)) = 0 := by simp
          rw [this]
          exact .hpreNil _ hl
    | @row _ _ _ _ b off cap cur hl hb hn hm hle hzl hu hmu hrel =>
      subst hls
      simp only [List.length_map] at hl hle hu
      have hu0 := hmu rfl
      cases h1 with
      | hpreNil ax h3 => rw [hl] at h3; cases h3
      | @hpre _ _ _ _ _ _ _ ad h3 hlo ha =>
        rw [hl] at h3
        cases h3
        cases h2 with
        | hsubNil ay h4 => rw [hl] at h4; cases h4
        | @hsub _ _ _ _ _ _ _ ad2 h4 hlo2 ha2 =>
          rw [hl] at h4
          cases h4
          by_cases hm0 : l.length - q = 0
          · have hl0 : l' = l := by
              rw [← hl', hm0, Nat.add_zero, List.drop_eq_nil_of_le (by omega : l.length ≤ q)]
              simp
            subst hl0
            have hrun : (Builtin.append_ #[t, t] ty #[.slice (some ad) p cap, .slice (some ad2) (l'.length - q) (cap - q)]).run E.P g.w = .ok (.slice (some ad) p cap) g.w := by
              rw [hm0]
              have : p ≤ cap := by omega
              simp [Builtin.append_, run_underlying ht.u, sizeOf, typeInfo, hi, Builtin.lenOf, Builtin.firstCells, loadCells, loadCellsFrom, this, storeCells]
            rw [run_append_op (x := x) (y := y) (w := g.w) (by rw [hev, hey]; exact hrun), Oper.uponIn_value]
            have hst' := hst.objset (ob := .row e true size (l'.map F)) hr (Ext.refl _ _) rfl rfl rfl rfl (fun _ _ _ => ⟨rfl, rfl⟩) hst.so.wf (hst.so.obj r _ hr) (fun _ => rfl)
            refine hK g _ (hst'.put (Nat.le_of_ble_eq_true hN) ?_)
            rw [hm0, Nat.add_zero]
            exact .hpre hl hlo ha
          · have had := ha (by omega)
            subst had
            have had2 := ha2 (by omega)
            subst had2
            generalize hmm : l.length - q = m at *
            have hfitm : (off + q) * size + m * size ≤ cur.size := by
              rw [hn, ← Nat.add_mul]; exact Nat.mul_le_mul_right _ (by omega)
            generalize hnews : ((cur.toList.drop ((off + q) * size)).take (m * size)) = news
            have hnlen : news.length = m * size := by
              rw [← hnews]; simp only [List.length_take, List.length_drop, Array.length_toList]; omega
            have hnget : ∀ k, k < m * size → news[k]? = cur.toList[(off + q) * size + k]? := by
              intro k hk; rw [← hnews, List.getElem?_take_of_lt hk, List.getElem?_drop]
            have hNews : News g.w g.u size F (l.drop q) news := by
              refine ⟨by rw [hnlen, List.length_drop, hmm], fun z hz => hzl _ (List.mem_map_of_mem (List.mem_of_mem_drop hz)), fun i j z c hz hj => ?_⟩
              rw [List.getElem?_drop] at hz
              have hil : q + i < l.length := (List.getElem?_eq_some_iff.1 hz).1
              have hjs : j < size := by rw [← hzl (F z) (List.mem_map_of_mem (List.mem_of_getElem? hz))]; exact (List.getElem?_eq_some_iff.1 hj).1
              have hk : i * size + j < m * size := by
                have : (i + 1) * size ≤ m * size := Nat.mul_le_mul_right _ (by omega)
                rw [Nat.add_mul] at this; omega
              have h5 := hrel (q + i) j (F z) c (by simp [hz]) hj
              have e1 : (off + (q + i)) * size + j = (off + q) * size + (i * size + j) := by rw [← Nat.add_assoc, Nat.add_mul (off + q)]; omega
              rw [e1] at h5
              refine ⟨cur.getD ((off + q) * size + (i * size + j)) undef, ?_, h5⟩
              rw [hnget _ hk, Array.getD_eq_getD_getElem?]
              have : (off + q) * size + (i * size + j) < cur.size := by omega
              simp [this]
            have hsz' : i.size = size := hsz
            have hrun := run_append_room_at (P := E.P) g.w t ty e i ht.u hi b off p cap cur hb ⟨b, (off + q) * size, none⟩ m (cap - q) news (by rw [hnlen, hsz'])
              (fun j u hj => by
                have hk : j < m * size := by rw [← hnlen]; exact (List.getElem?_eq_some_iff.1 hj).1
                rw [addr_add]
                simp only [World.cell?, hb]
                rw [hnget _ hk] at hj
                simpa using hj) hNews.one (by omega) (by rw [hnlen, hsz', hn, ← Nat.add_mul]; exact Nat.mul_le_mul_right _ (by omega))
            rw [hsz'] at hrun
            rw [run_append_op (x := x) (y := y) (w := g.w) (by rw [hev, hey]; exact hrun), Oper.uponIn_value]
            generalize hP : (off + p) * size = pp at *
            generalize hcs : (cur.toList.take pp ++ news ++ cur.toList.drop (pp + news.length)) = cells at *
            have hfit : pp + news.length ≤ cur.size := by
              rw [hnlen, ← hP, hn, ← Nat.add_mul]; exact Nat.mul_le_mul_right _ (by omega)
            have hclen : cells.length = cur.size := by rw [← hcs]; simp; omega
            have hget : ∀ q, q < cur.size → cells[q]? = if pp ≤ q ∧ q < pp + news.length then news[q - pp]? else cur.toList[q]? := by
              intro q hq
              rw [← hcs, List.append_assoc]
              rcases Nat.lt_or_ge q pp with h2 | h2
              · rw [if_neg (by omega), List.getElem?_append_left (by simp; omega), List.getElem?_take_of_lt h2]
              · rw [List.getElem?_append_right (by simp; omega)]
                simp only [List.length_take, Array.length_toList, show min pp cur.size = pp by omega]
                rcases Nat.lt_or_ge q (pp + news.length) with h3 | h3
                · rw [if_pos ⟨h2, h3⟩, List.getElem?_append_left (by omega)]
                · rw [if_neg (by omega), List.getElem?_append_right (by omega), List.getElem?_drop]
                  congr 1
                  omega
            have hheap : ∀ k, k ≠ b → (g.w.setRow b cells.toArray).heap[k]? = g.w.heap[k]? := fun k hk => by
              simp only [World.setRow, Array.getElem?_modify]; rw [if_neg (Ne.symm hk)]
            have hnewb := setRow_heap g.w b cur cells.toArray e _ hb
            have hsz : (g.w.setRow b cells.toArray).heap.size = g.w.heap.size := by simp [World.setRow]
            have hxx : Ext g.w g.u (g.w.setRow b cells.toArray) g.u := ⟨Nat.le_of_eq hsz.symm, fun _ _ => Nat.le_refl _, fun k i hk hi => by
              by_cases hkb : k = b
              · subst hkb; omega
              · simp only [World.cell?]; rw [hheap k hkb], fun r' hr' => (hheap r' (by rintro rfl; rw [hb] at hr'; cases hr')).trans hr'⟩
            have htl : (l.take p).length = p := by simp; omega
            have hdl : (l.drop q).length = m := by simp; omega
            have hlen2 : l'.length = l.length := by rw [← hl']; simp; omega
            have hl'get : ∀ i, l'[i]? = if p ≤ i ∧ i < p + m then l[q + (i - p)]? else l[i]? := by
              intro i
              rw [← hl', List.append_assoc]
              rcases Nat.lt_or_ge i p with h2 | h2
              · rw [if_neg (by omega), List.getElem?_append_left (by omega), List.getElem?_take_of_lt h2]
              · rw [List.getElem?_append_right (by omega), htl]
                rcases Nat.lt_or_ge i (p + m) with h3 | h3
                · rw [if_pos ⟨h2, h3⟩, List.getElem?_append_left (by omega), List.getElem?_drop]
                · rw [if_neg (by omega), List.getElem?_append_right (by omega), List.getElem?_drop, hdl]
                  congr 1
                  omega
            have hmem : ∀ w ∈ l', (F w).length = size := by
              intro w hw
              rw [← hl'] at hw
              rcases List.mem_append.1 hw with h2 | h2
              · rcases List.mem_append.1 h2 with h3 | h3
                · exact hzl _ (List.mem_map_of_mem (List.mem_of_mem_take h3))
                · exact hzl _ (List.mem_map_of_mem (List.mem_of_mem_drop h3))
              · exact hzl _ (List.mem_map_of_mem (List.mem_of_mem_drop h2))
            have hst' := hst.objset (g' := ⟨g.w.setRow b cells.toArray, g.u, g.loc⟩) (ob := .row e true size (l'.map F)) hr hxx rfl rfl rfl rfl (fun k hk hne => ⟨hheap k (by rintro rfl; exact hne (by rw [hl]; rfl)), rfl⟩) (wf_same hst.so.wf (Nat.le_of_eq hsz.symm) _) ?_ (fun _ => rfl)
            · refine hK _ _ (hst'.put (Nat.le_of_ble_eq_true hN) ?_)
              exact .hpre hl (by omega) (fun _ => rfl)
            refine .row (off := off) (by rw [List.length_map, hlen2]; exact hl) hnewb (by simp [hclen, hn]) hm (by rw [List.length_map, hlen2]; exact hle) (fun y' hy' => by obtain ⟨w, hw, rfl⟩ := List.mem_map.1 hy'; exact hmem w hw) (by show g.u b ≤ _; rw [hu0]; exact Nat.zero_le _) (fun _ => hu0) (fun i j w' c hi hj => ?_)
            simp only [List.getElem?_map, Option.map_eq_some_iff] at hi
            obtain ⟨w, hw, rfl⟩ := hi
            have hil : i < l.length := by have := (List.getElem?_eq_some_iff.1 hw).1; omega
            have hjs : j < size := by rw [← hmem w (List.mem_of_getElem? hw)]; exact (List.getElem?_eq_some_iff.1 hj).1
            have hpos : (off + i) * size + j < cur.size := by rw [hn]; exact hp_lt (s := 1) hil hle hjs
            rw [Array.getD_eq_getD_getElem?, List.getElem?_toArray, hget _ hpos]
            rw [hl'get] at hw
            by_cases hin : p ≤ i ∧ i < p + m
            · rw [if_pos hin] at hw
              have e1 : (off + i) * size + j = pp + ((i - p) * size + j) := by
                rw [← hP, ← Nat.add_assoc, ← Nat.add_mul]; congr 2; omega
              have hk : (i - p) * size + j < m * size := by
                have : (i - p + 1) * size ≤ m * size := Nat.mul_le_mul_right _ (by omega)
                rw [Nat.add_mul] at this; omega
              rw [e1, if_pos (by omega), Nat.add_sub_cancel_left, hnget _ hk]
              have h5 := (hrel (q + (i - p)) j (F w) c (by simp [hw]) hj).mono hxx
              have e2 : (off + (q + (i - p))) * size + j = (off + q) * size + ((i - p) * size + j) := by rw [← Nat.add_assoc, Nat.add_mul (off + q)]; omega
              rw [Array.getD_eq_getD_getElem?, e2] at h5
              simpa using h5
            · rw [if_neg hin] at hw
              have hout : ¬ (pp ≤ (off + i) * size + j ∧ (off + i) * size + j < pp + news.length) := by
                rw [hnlen, ← hP]
                rcases Nat.lt_or_ge i p with h2 | h2
                · have : (off + i + 1) * size ≤ (off + p) * size := Nat.mul_le_mul_right _ (by omega)
                  rw [Nat.add_mul (off + i)] at this; omega
                · have : (off + p) * size + m * size ≤ (off + i) * size := by rw [← Nat.add_mul]; exact Nat.mul_le_mul_right _ (by omega)
                  omega
              rw [if_neg hout]
              have h5 := (hrel i j (F w) c (by simp [hw]) hj).mono hxx
              rw [Array.getD_eq_getD_getElem?] at h5
              simpa using h5⟩
/-- a part of a row becomes the row -/
theorem St.hprecut {g : G} {a : Act} {d' n : Nat} (h : St E g a fr σ) (hd : fr.get d' = .hpre r n) (hr : σ.get r = some (.row e true size (l.map F))) :
    ∃ g', g'.w = g.w ∧ St E g' a ((d', .hs r 0) :: fr.clr r) ((σ.clr r).upd r (.row e true size ((l.take n).map F))) := by
  have h1 := h.fr d'
  rw [hd] at h1
  generalize hev : a.tmps.getD d' undef = vx at h1
  have hob := h.so.obj r _ hr
  generalize hls : l.map F = ls at hob
  cases hob with
  | nil hl =>
    obtain rfl : l = [] := by simpa using hls
    cases h1 with
    | hpre h2 => rw [hl] at h2; cases h2
    | hpreNil ax =>
      have := h.row_upd (ob := .row e true size ((([] : List α).take 0).map F)) hr (Ext.refl _ _) (fun _ _ => rfl) rfl rfl rfl (fun _ _ _ => ⟨rfl, rfl⟩) h.so.wf (by simp; exact .nil hl) (fun b hb => .inl hb)
      exact ⟨g, rfl, this.reslot (by rw [hev]; exact .hsNil _ hl)⟩
  | @row _ _ _ _ b off cap vs hl hb hn hm hle hz hu hmu hrel =>
    subst hls
    simp only [List.length_map] at hl hle hu
    cases h1 with
    | hpreNil ax h2 => rw [hl] at h2; cases h2
    | @hpre _ _ _ _ _ _ _ ad h2 hlo ha =>
      rw [hl] at h2
      cases h2
      have hlen : (l.take n).length = n := by simp; omega
      have hst' := h.row_upd (g' := ⟨g.w, g.u, fun k => if k = r then .row b off cap size n else g.loc k⟩) (ob := .row e true size ((l.take n).map F)) hr (Ext.refl _ _) (fun k hk => if_neg hk) rfl rfl rfl (fun _ _ _ => ⟨rfl, rfl⟩) h.so.wf
        (.row (off := off) (cap := cap) (by simp only [if_true]; rw [List.length_map, hlen]) hb hn hm (by rw [List.length_map, hlen]; omega)
          (fun z hz' => by obtain ⟨w, hw, rfl⟩ := List.mem_map.1 hz'; exact hz _ (List.mem_map_of_mem (List.mem_of_mem_take hw)))
          (by show g.u b ≤ _; rw [hmu rfl]; exact Nat.zero_le _) hmu (fun i j z c hi hj => by
            simp only [List.getElem?_map, Option.map_eq_some_iff] at hi
            obtain ⟨w, hw, rfl⟩ := hi
            have hpl : i < n := by have := (List.getElem?_eq_some_iff.1 hw).1; omega
            rw [List.getElem?_take_of_lt hpl] at hw
            exact hrel i j (F w) c (by simp [hw]) hj)) (fun b' hb' => .inl (by simp only [if_true] at hb'; rw [hl]; exact hb'))
      exact ⟨⟨g.w, g.u, fun k => if k = r then .row b off cap size n else g.loc k⟩, rfl, hst'.reslot (by rw [hev]; exact .hs (if_pos rfl) ha)⟩
theorem awp_hprecut {c : Code} {d' n : Nat} (hd : fr.get d' = .hpre r n) (hr : σ.get r = some (.row e true size (l.map F))) (h : AWP E c ((d', .hs r 0) :: fr.clr r) ((σ.clr r).upd r (.row e true size ((l.take n).map F))) K) : AWP E c fr σ K :=
  ⟨fun g a hst => by
    obtain ⟨g', hw, h2⟩ := hst.hprecut hd hr
    have := h.go g' a h2
    rw [hw] at this
    exact this⟩
theorem awp_hsclr {c : Code} {d' : Nat} (hd : fr.get d' = .hs r 0) (hr : σ.get r = some (.row e mu size (l.map F))) (h : AWP E c ((d', .hs r 0) :: fr.clr r) ((σ.clr r).upd r (.row e mu size (l.map F))) K) : AWP E c fr σ K :=
  ⟨fun g a hst => by
    have h1 := hst.fr d'
    rw [hd] at h1
    have := hst.row_upd (ob := .row e mu size (l.map F)) hr (Ext.refl _ _) (fun _ _ => rfl) rfl rfl rfl (fun _ _ _ => ⟨rfl, rfl⟩) hst.so.wf (hst.so.obj r _ hr) (fun b hb => .inl hb)
    exact h.go g a (this.reslot h1)⟩
end
end Go.Proofs.Ytpclhpncmlbccaa

/- The abstract calculus: calls that return a new row, which the caller owns. No program is named. -/
namespace Go.Proofs.Ytpclhpncmlbccaa
open Go.RowKit

/-- a new row -/
inductive FreshRow (B : Nat) (g : G) (e : TypeId) (size : Nat) (els : List (List PV)) : Value → Prop
  | nil (a : Option Addr) (h : els = []) : FreshRow B g e size els (.slice a 0 0)
  | row {b off cap n : Nat} {ad : Addr} (hB : B ≤ b) (hn : n = els.length) (ha : 0 < cap → ad = ⟨b, off * size, none⟩) (ho : RelO ⟨g.w, g.u, fun _ => .row b off cap size n⟩ 0 (.row e true size els)) : FreshRow B g e size els (.slice (some ad) n cap)
/-- a contract: at such arguments the function returns a new row -/
structure RunO (P : Program) (f : FuncId) (args : List AV) (e : TypeId) (size : Nat) (els : List (List PV)) : Prop where
  ok : ∃ fn c, FnOk P f fn c
  run : ∀ g vs, Wf g → Gl g → RelArgs g args vs → CallsIn (fen none) 0 P f vs g.w fun x w' => ∃ g' v, g'.w = w' ∧ g'.loc = g.loc ∧ Old (fun _ => False) g g' ∧ Wf g' ∧ x = .returned v ∧ FreshRow g.w.heap.size g' e size els v

variable {P : Program} {σ : Sto} {dst : Option Tmp} {ty : TypeId} {pos : String} {af : Array Edge} {gu : Option (Nat × Bool)} {E : Env} {fr : Fr}

theorem St.newrow {g g1 : G} {a : Act} {r : Nat} {e : TypeId} {size : Nat} {els : List (List PV)} {v : Value} (h : St E g a fr σ) (ho : Old (fun _ => False) g g1) (hw : Wf g1) (hl : g1.loc = g.loc) (hv : FreshRow g.w.heap.size g1 e size els v) (hf : fr.has r = false) (hs : σ.has r = false) :
    ∃ g2, g2.w = g1.w ∧ St E g2 a fr ((r, .row e true size els) :: σ) ∧ Rel g2 (.hs r 0) v ∧ g2.u = g1.u ∧ ∀ k, k ≠ r → g2.loc k = g1.loc k := by
  have h1 : St E g1 a fr σ := h.grow ho hw (fun k _ => by rw [hl])
  cases hv with
  | nil ax h0 =>
    subst h0
    exact ⟨⟨g1.w, g1.u, fun k => if k = r then .nilRow else g1.loc k⟩, rfl, h1.adopt r e true size hf hs, .hsNil _ (if_pos rfl), rfl, fun k hk => if_neg hk⟩
  | @row b off cap n ad hB hn ha hob =>
    subst hn
    have hloc : ∀ k, k ≠ r → (⟨g1.w, g1.u, fun k => if k = r then Loc.row b off cap size els.length else g1.loc k⟩ : G).loc k = g1.loc k := fun k hk => if_neg hk
    have hget : ∀ o ob, Sto.get ((r, .row e true size els) :: σ) o = some ob → (o = r ∧ ob = .row e true size els) ∨ (o ≠ r ∧ σ.get o = some ob) := by
      intro o ob hg
      rw [Sto.get_cons] at hg
      split at hg
      · rename_i hk; cases hg; exact .inl ⟨hk.symm, rfl⟩
      · rename_i hk; exact .inr ⟨Ne.symm hk, hg⟩
    have hlt : ∀ o ob b', σ.get o = some ob → ob.own (g1.loc o) b' → b' < b := by
      intro o ob b' ho1 hb'
      rw [hl] at hb'
      have := (h.so.obj o ob ho1).block_lt hb'
      omega
    refine ⟨⟨g1.w, g1.u, fun k => if k = r then Loc.row b off cap size els.length else g1.loc k⟩, rfl, ⟨fun d' => Rel.mono (g := g1) (g' := ⟨g1.w, g1.u, fun k => if k = r then Loc.row b off cap size els.length else g1.loc k⟩) (Ext.refl _ _) (h1.fr d') fun k hk => hloc k ?_, h1.n, h1.df, ⟨?_, ?_, ?_, ⟨h1.so.old.os, h1.so.old.tape, h1.so.old.output, h1.so.old.ext, h1.so.old.block⟩, h1.so.wf⟩⟩, ?_, rfl, hloc⟩
    · rintro rfl; rw [Fr.has_get hk] at hf; cases hf
    · intro o ob hg
      rcases hget o ob hg with ⟨rfl, rfl⟩ | ⟨hne, hg1⟩
      · cases hob with
        | nil q => cases q
        | row q1 q2 q3 q4 q5 q6 q7 q8 q9 => cases q1; exact .row (if_pos rfl) q2 q3 q4 q5 q6 q7 q8 q9
      · refine RelO.mono (g := g1) (g' := ⟨g1.w, g1.u, fun k => if k = r then Loc.row b off cap size els.length else g1.loc k⟩) (h1.so.obj o ob hg1) (Ext.refl _ _) (hloc o hne) (fun k hk => hloc k ?_) fun b hb => ⟨rfl, rfl⟩
        rintro rfl; rw [Sto.has_get hg1 hk] at hs; cases hs
    · intro o o' ob ob' b1 h2 h3 h4 h5
      rcases hget o ob h2 with ⟨rfl, rfl⟩ | ⟨hne, hg⟩ <;> rcases hget o' ob' h3 with ⟨rfl, rfl⟩ | ⟨hne', hg'⟩
      · rfl
      · simp only [if_true, hne', if_false] at h4 h5
        have := hlt o' ob' b1 hg' h5
        simp only [AO.own, Loc.block, Option.some.injEq] at h4
        omega
      · simp only [if_true, hne, if_false] at h4 h5
        have := hlt o ob b1 hg h4
        simp only [AO.own, Loc.block, Option.some.injEq] at h5
        omega
      · simp only [hne, hne', if_false] at h4 h5
        exact h1.so.apart o o' ob ob' b1 hg hg' h4 h5
    · intro o ob b1 h2 h3
      rcases hget o ob h2 with ⟨rfl, rfl⟩ | ⟨hne, hg⟩
      · simp only [if_true, AO.own, Loc.block, Option.some.injEq] at h3
        have := h.so.old.ext.size
        exact .inl (by omega)
      · simp only [hne, if_false] at h3
        exact h1.so.mine o ob b1 hg h3
    · exact .hs (if_pos rfl) ha
theorem opTo_callO {f : FuncId} {k : Nat} {xs : List Operand} {ats : Array TypeId} {args : List AV} {e : TypeId} {size : Nat} {els : List (List PV)} (r : Nat) (hr : RunO E.P f args e size els) (hN : Nat.ble (k + 1) E.N = true) (hf : fr.has r = false) (hs : σ.has r = false) (ha : xs.map (fun x => (fr.ev x).weak) = args) :
    OpTo E ⟨some k, .call ⟨.value (.func f), xs.toArray, ats⟩, ty, pos, af, gu⟩ fr σ ((k, .hs r 0) :: fr) ((r, .row e true size els) :: σ) :=
  ⟨fun g a K Q hst hK => by
    obtain ⟨fn, c, hok⟩ := hr.ok
    refine ⟨fun _ _ => trivial, ?_⟩
    rw [Oper.semAt_plain _ _ _ (fun c => by simp), run_call_op hok (first := #[]) (cap := #[]) rfl, Oper.uponIn_enter]
    refine ⟨fun h => by simp [fen] at h, ?_⟩
    have hargs : RelArgs g args (#[] ++ xs.toArray.map a.eval ++ #[]) := by
      subst ha
      refine ⟨by simp, fun i c hi => ?_⟩
      simp only [List.getElem?_map, Option.map_eq_some_iff] at hi
      obtain ⟨x, hx, rfl⟩ := hi
      have := rel_weak (hst.ev x)
      simpa [hx] using this
    refine (callsIn_fen (hr.run g _ hst.so.wf (E.glOf hst.so) hargs)).mono ?_
    rintro x w' ⟨g', v, rfl, hl, ho, hw, rfl, hv⟩
    obtain ⟨g2, hw2, hst2, hv2, _, _⟩ := hst.newrow ho hw hl hv hf hs
    have := hK g2 _ (hst2.put (Nat.le_of_ble_eq_true hN) hv2)
    rw [hw2] at this
    exact this⟩
def KretO (P : Program) (fn : Func) (e : TypeId) (size : Nat) (els : List (List PV)) : Post := fun x fr σ => (x = .ret ∨ x = .normal) ∧ ∃ r0, ResL P fr σ fn.results.toList [.hs r0 0] ∧ σ.get r0 = some (.row e true size els)
theorem mono_kretO {fn : Func} {e : TypeId} {size : Nat} {els : List (List PV)} : Mono (KretO P fn e size els) := fun x fr σ fr' σ' hf hs ⟨h1, r0, h2, h3⟩ => ⟨h1, r0, h2.le hf hs, by
  rcases hs r0 _ h3 with h4 | ⟨cs, _, h4⟩
  · exact h4
  · cases h4⟩
theorem run_of_awpO {f : FuncId} {fn : Func} {c : Code} (hok : FnOk P f fn c) {args : List AV} {e : TypeId} {size : Nat} {els : List (List PV)} (hN : Nat.ble args.length fn.ntmps = true)
    (h : ∀ g0 (hg : Gl g0), AWP ⟨P, none, g0, fn.ntmps, false, hg, fun _ => False, fun _ _ h => h⟩ c (frameFrom 0 args) [] (KretO P fn e size els)) : RunO P f args e size els := by
  refine ⟨⟨fn, c, hok⟩, fun g vs hw hgl ⟨hsz, ha⟩ => ?_⟩
  have hN := Nat.le_of_ble_eq_true hN
  refine callsIn_of_wp_marks hok.f hok.b trivial ?_
  refine wpIn_mono ((h g hgl).go g _ ⟨fun d => ?_, by simp; omega, ⟨Dok.nil _ _, fun _ => rfl⟩, ⟨fun o ob ho => by simp [Sto.get] at ho, fun o o' ob ob' b ho => by simp [Sto.get] at ho, fun o ob b ho => by simp [Sto.get] at ho, Old.refl _ g, hw⟩⟩) ?_
  · rw [frameFrom_get]
    simp only [Nat.zero_le, if_true, Nat.sub_zero]
    cases hc : args[d]? with
    | none => exact .any _
    | some c =>
      have hlt : d < vs.size := by rw [hsz]; exact (List.getElem?_eq_some_iff.1 hc).1
      have := ha d c hc
      rw [Array.getD_eq_getD_getElem?, Array.getElem?_append_left hlt, ← Array.getD_eq_getD_getElem?]
      exact this
  · rintro x a w' ⟨g', fr', σ', rfl, hst, he, r0, hres, hr0⟩
    obtain ⟨bs, hds, hnd, hbs⟩ := hst.df.ok
    have key : ∀ w', Took g'.w bs w' → ∃ v, (results fn a.tmps).run P w' = .ok v w' ∧ ∃ g'' v', g''.w = w' ∧ g''.loc = g.loc ∧ Old (fun _ => False) g g'' ∧ Wf g'' ∧ Ending.returned v = .returned v' ∧ FreshRow g.w.heap.size g'' e size els v' := by
      intro w' ht
      have hcellb : ∀ (k : Nat) (vs : Array Value) (t : TypeId) (fz : Nat × Nat), g'.w.heap[k]? = some (Obj.cells vs t fz) → w'.heap[k]? = g'.w.heap[k]? := by
        intro k vs t fz hk
        refine ht.block k fun hx => ?_
        rw [(hbs k hx).2] at hk; cases hk
      have hx0 : Ext0 g'.w g'.u w' g'.u := ⟨Nat.le_of_eq ht.size.symm, fun _ _ => Nat.le_refl _, fun k i hk hi => by
        by_cases hkb : k ∈ bs
        · simp [World.cell?, (hbs k hkb).2, ht.took k hkb]
        · simp only [World.cell?]; rw [ht.block k hkb]⟩
      obtain ⟨v, h1, h2⟩ := results_run (P := P) (g := ⟨w', g'.u, g'.loc⟩) hres (fun d => (hst.fr d).mono0 hx0 (fun _ _ => rfl)) (fun k cs' hk => by
        cases hst.so.obj k _ hk with
        | cells q1 q2 q3 q4 q5 q6 => exact .cells q1 ((hcellb _ _ _ _ q2).trans q2) q3 q4 q5 fun i c hi => (q6 i c hi).mono0 hx0 (fun _ _ => rfl))
      have hrow := hst.so.obj r0 _ hr0
      refine ⟨v, h1, ⟨w', g'.u, g.loc⟩, v, rfl, rfl, ⟨ht.os.trans hst.so.old.os, ht.tape.trans hst.so.old.tape, ht.output.trans hst.so.old.output, ⟨by rw [ht.size]; exact hst.so.old.ext.size, hst.so.old.ext.pub, fun k i hk hi => ?_, fun r' hr' => ?_⟩, fun k hk hs => ?_⟩, fun k hk => hst.so.wf k (by rw [← ht.size]; exact hk), rfl, ?_⟩
      · have hkb : k ∉ bs := fun hx => by have : g.w.heap.size ≤ k := (hbs k hx).1; omega
        simp only [World.cell?]
        rw [ht.block k hkb]
        exact hst.so.old.ext.cell k i hk hi
      · have hkb : r' ∉ bs := fun hx => by have : g.w.heap.size ≤ r' := (hbs r' hx).1; have := blk_lt hr'; omega
        rw [ht.block r' hkb]
        exact hst.so.old.ext.df r' hr'
      · have hkb : k ∉ bs := fun hx => by have : g.w.heap.size ≤ k := (hbs k hx).1; omega
        rw [ht.block k hkb]
        exact hst.so.old.block k hk hs
      · replace h2 : Rel ⟨w', g'.u, g'.loc⟩ (.hs r0 0) v := h2
        cases hrow with
        | nil q1 =>
          cases h2 with
          | hsNil ax q2 => exact .nil ax rfl
          | hs q2 => exact absurd (q1.symm.trans q2) (by simp)
        | @row _ _ _ _ b off cap vs' q1 q2 q3 q4 q5 q6 q7 q8 q9 =>
          have hB := hst.so.mine r0 _ b hr0 (by rw [q1]; rfl)
          cases h2 with
          | hsNil ax q10 => exact absurd (q1.symm.trans q10) (by simp)
          | @hs _ b2 off2 cap2 size2 n2 ad q10 q11 =>
            have q12 : Loc.row b off cap size els.length = Loc.row b2 off2 cap2 size2 n2 := q1.symm.trans q10
            cases q12
            refine .row (b := b) (off := off) (hB.elim id fun hc => hc.elim) rfl q11 ?_
            exact .row rfl ((hcellb _ _ _ _ q2).trans q2) q3 q4 q5 q6 q7 q8 fun i j x c hi hj => (q9 i j x c hi hj).mono0 hx0
    rcases he with rfl | rfl
    · show LeavesInM _ _ _ _ _ _ _ _ _
      rw [hds]
      exact leaves_marks bs g'.w hnd (fun r' hr' => (hbs r' hr').2) key
    · show LeavesInM _ _ _ _ _ _ _ _ _
      rw [hds]
      exact leaves_marks bs g'.w hnd (fun r' hr' => (hbs r' hr').2) key
theorem rfO {f : FuncId} {fn : Func} {c : Code} (hok : FnOk P f fn c) {args : List AV} {e : TypeId} {size : Nat} {els : List (List PV)} (hN : Nat.ble args.length fn.ntmps = true)
    (h : ∀ g0 (hg : Gl g0), (GS.code c (frameFrom 0 args) [] (.base (KretO P fn e size els) mono_kretO)).holds ⟨P, none, g0, fn.ntmps, false, hg, fun _ => False, fun _ _ h => h⟩) : RunO P f args e size els := run_of_awpO hok hN h
theorem krO {T : Tab} (hT : TabOk P T) {x : Exit} {fn : Func} {e : TypeId} {size : Nat} {els : List (List PV)} {r0 : Nat} {hm : Mono (KretO P fn e size els)} (he : isN x = true ∨ x = .ret) (h : resOf T fr σ fn.results.toList = some [.hs r0 0]) (hg : σ.get r0 = some (.row e true size els)) : (GS.at x fr σ (.base (KretO P fn e size els) hm)).holds E :=
  ⟨by cases x <;> simp_all [isN], r0, resOf_ok hT h, hg⟩
theorem fn {fr : Fr} : FrLe fr [] := frLe_nil
theorem fc {fr fr' : Fr} {k : Nat} {c : AV} (h : fr.get k = c) (h' : FrLe fr fr') : FrLe fr ((k, c) :: fr') := frLe_cons h h'
theorem sn {σ : Sto} : StoLe σ [] := stoLe_nil
theorem sc2 {σ σ' : Sto} {k : Nat} {ob : AO} (h : σ.get k = some ob) (h' : StoLe σ σ') : StoLe σ ((k, ob) :: σ') := stoLe_cons h h'
/-- bits of a number, the lowest first -/
def bt : Nat → Nat → List Bool
  | 0, _ => []
  | n + 1, m => (m % 2 == 1) :: bt n (m / 2)
theorem xy {l : List Oper} {all : List Node} {D : List Bool} {i : Nat} {o : Oper} {fr' fr2 : Fr} {σ' σ2 : Sto} (j : Nat) (ho : l[i]? = some o) (hg : o.guard = none) (hop : OpTo E o fr σ fr' σ') (hn : all[j]? = some (D.set i true, fr2, σ2)) (hf : FrLe fr' fr2) (hs : StoLe σ' σ2) : StepOk E l all D fr σ i :=
  .yes j ho (wanted_plain hg) hop hn hf hs
end Go.Proofs.Ytpclhpncmlbccaa

/- Part 4 of a calculus for walks through code: no program is named. -/
import Derived.Test.YtpclhpncmlbccaaC3
import Derived.Test.YtpclhpncmlbccaaRows
import Derived.ProofKit
import Derived.Deep.Slices
import Derived.WalkKit
import Derived.WalkSpells
import Derived.WalkLawsBesides
import Derived.Deep.QuietTactic
import Derived.BigQuiet
import Derived.Lib.Hide
import Derived.Handy
import Derived.Deep.RegionHeld3
import Derived.OpenShut
import Derived.ShutString
import Derived.ChangeOld
import Derived.Below
import Derived.JoinedCond
import Derived.HandedShaped
import Derived.Shelf.Vars
set_option linter.unusedVariables false
set_option linter.unusedSimpArgs false
/- The abstract calculus: regions that draw their order, with new objects among the first operations, some of which may come late. No program is named. -/
namespace Go.Proofs.Ytpclhpncmlbccaa
open Go.RowKit Go.Lib

variable {E : Env} {fr : Fr} {σ : Sto} {K : Post}
abbrev ObX := List (Option (Nat × AO))
/-- the variables that have come up -/
def objX (D : Nat → Bool) : Nat → ObX → Sto
  | _, [] => []
  | i, none :: r => objX D (i + 1) r
  | i, some (id, cs) :: r => bif D i then (id, cs) :: objX D (i + 1) r else objX D (i + 1) r
def idX : ObX → List Nat
  | [] => []
  | none :: r => idX r
  | some (id, _) :: r => id :: idX r
def freeX (fr : Fr) (σ : Sto) (cs : List AV) (az : ObX) : Bool :=
  distB (idX az) && ((idX az).all fun k => !fr.has k && !σ.has k && (σ.get k).isNone) &&
  (az.all fun | none => true | some (_, c) => (idX az).all fun k => !AO.has k c) &&
  ((cs.zip az).all fun p => (idX az).all fun k => (match p.2 with | some (id, _) => Nat.beq id k | none => false) || !p.1.has k)
theorem idX_mem {az : ObX} {j id : Nat} {cs : AO} (h : az[j]? = some (some (id, cs))) : id ∈ idX az := by
  induction az generalizing j with
  | nil => simp at h
  | cons x r ih =>
    cases j with
    | zero => simp at h; subst h; simp [idX]
    | succ j =>
      have := ih (j := j) (by simpa using h)
      cases x with
      | none => simpa [idX] using this
      | some x => obtain ⟨a, b⟩ := x; simp [idX, this]
theorem idX_dist {az : ObX} (hd : distB (idX az) = true) {i j id : Nat} {c c' : AO} (hi : az[i]? = some (some (id, c))) (hj : az[j]? = some (some (id, c'))) : i = j := by
  induction az generalizing i j with
  | nil => simp at hi
  | cons x r ih =>
    cases x with
    | none =>
      cases i with
      | zero => simp at hi
      | succ i =>
        cases j with
        | zero => simp at hj
        | succ j => rw [ih (by simpa [idX] using hd) (i := i) (j := j) (by simpa using hi) (by simpa using hj)]
    | some x =>
      obtain ⟨a, b⟩ := x
      simp only [idX, distB, Bool.and_eq_true, Bool.not_eq_true'] at hd
      have hn : ∀ {k : Nat} {c : AO}, r[k]? = some (some (a, c)) → False := by
        intro k c hk
        have := idX_mem hk
        have h1 := hd.1
        rw [List.any_eq_false] at h1
        exact h1 a this (Nat.beq_refl a)
      cases i with
      | zero =>
        simp at hi
        obtain ⟨rfl, rfl⟩ := hi
        cases j with
        | zero => rfl
        | succ j => exact (hn (by simpa using hj)).elim
      | succ i =>
        cases j with
        | zero =>
          simp at hj
          obtain ⟨rfl, rfl⟩ := hj
          exact (hn (by simpa using hi)).elim
        | succ j => rw [ih hd.2 (i := i) (j := j) (by simpa using hi) (by simpa using hj)]
theorem objX_none {D : Nat → Bool} {o : Nat} : ∀ (az : ObX) (n : Nat), (∀ j c, az[j]? = some (some (o, c)) → D (n + j) = false) → Sto.get (objX D n az ++ σ) o = σ.get o
  | [], _, _ => rfl
  | none :: r, n, h => objX_none r (n + 1) (fun j c hj => by have := h (j + 1) c (by simpa using hj); rwa [show n + 1 + j = n + (j + 1) by omega])
  | some (id, cs) :: r, n, h => by
    have ih := objX_none r (n + 1) (fun j c hj => by have := h (j + 1) c (by simpa using hj); rwa [show n + 1 + j = n + (j + 1) by omega])
    unfold objX
    cases hD : D n with
    | false => exact ih
    | true =>
      show Sto.get ((id, cs) :: (objX D (n + 1) r ++ σ)) o = _
      rw [Sto.get_cons, if_neg]
      · exact ih
      · rintro rfl
        have := h 0 cs rfl
        rw [Nat.add_zero, hD] at this; cases this
theorem objX_some {D : Nat → Bool} {o : Nat} {c : AO} : ∀ (az : ObX) (n j : Nat), distB (idX az) = true → az[j]? = some (some (o, c)) → D (n + j) = true → Sto.get (objX D n az ++ σ) o = some (c)
  | [], _, _, _, h, _ => by simp at h
  | none :: r, n, j, hd, h, hD => by
    cases j with
    | zero => simp at h
    | succ j => exact objX_some r (n + 1) j (by simpa [idX] using hd) (by simpa using h) (by rwa [show n + 1 + j = n + (j + 1) by omega])
  | some (id, cs) :: r, n, j, hd, h, hD => by
    unfold objX
    cases j with
    | zero =>
      simp at h
      obtain ⟨rfl, rfl⟩ := h
      rw [Nat.add_zero] at hD
      rw [hD]
      show Sto.get ((id, cs) :: (objX D (n + 1) r ++ σ)) id = _
      rw [Sto.get_cons, if_pos rfl]
    | succ j =>
      have hne : id ≠ o := by
        rintro rfl
        have := idX_dist hd (i := 0) (j := j + 1) rfl h
        omega
      have hd' : distB (idX r) = true := by simp only [idX, distB, Bool.and_eq_true] at hd; exact hd.2
      have ih := objX_some r (n + 1) j hd' (by simpa using h) (by rwa [show n + 1 + j = n + (j + 1) by omega])
      cases D n with
      | false => exact ih
      | true =>
        show Sto.get ((id, cs) :: (objX D (n + 1) r ++ σ)) o = _
        rw [Sto.get_cons, if_neg hne]; exact ih
theorem objX_cases {D : Nat → Bool} (az : ObX) (hd : distB (idX az) = true) (o : Nat) : (∃ j c, D j = true ∧ az[j]? = some (some (o, c)) ∧ Sto.get (objX D 0 az ++ σ) o = some (c)) ∨ ((∀ j c, az[j]? = some (some (o, c)) → D j = false) ∧ Sto.get (objX D 0 az ++ σ) o = σ.get o) := by
  by_cases h : ∃ j c, D j = true ∧ az[j]? = some (some (o, c))
  · obtain ⟨j, c, h1, h2⟩ := h
    exact .inl ⟨j, c, h1, h2, objX_some az 0 j hd h2 (by simpa using h1)⟩
  · have hn : ∀ j c, az[j]? = some (some (o, c)) → D j = false := by
      intro j c hj
      cases hD : D j with
      | false => rfl
      | true => exact absurd ⟨j, c, hD, hj⟩ h
    exact .inr ⟨hn, objX_none az 0 (fun j c hj => by simpa using hn j c hj)⟩
theorem objX_same {D D' : Nat → Bool} : ∀ (az : ObX) (n : Nat), (∀ j x, az[j]? = some (some x) → D (n + j) = D' (n + j)) → objX D n az = objX D' n az
  | [], _, _ => rfl
  | none :: r, n, h => objX_same r (n + 1) (fun j x hj => by have := h (j + 1) x (by simpa using hj); rwa [show n + 1 + j = n + (j + 1) by omega])
  | some (id, cs) :: r, n, h => by
    have ih := objX_same (D := D) (D' := D') r (n + 1) (fun j x hj => by have := h (j + 1) x (by simpa using hj); rwa [show n + 1 + j = n + (j + 1) by omega])
    unfold objX
    rw [show D n = D' n from h 0 _ rfl, ih]
theorem objX_has {D : Nat → Bool} {k : Nat} (hσ : σ.has k = false) : ∀ (az : ObX) (n : Nat), (∀ (j id : Nat) (c : AO), az[j]? = some (some (id, c)) → AO.has k c = false) → Sto.has k (objX D n az ++ σ) = false
  | [], _, _ => hσ
  | none :: r, n, h => objX_has hσ r (n + 1) (fun j id c hj => h (j + 1) id c (by simpa using hj))
  | some (id, cs) :: r, n, h => by
    have ih := objX_has (D := D) hσ r (n + 1) (fun j id c hj => h (j + 1) id c (by simpa using hj))
    unfold objX
    cases D n with
    | false => exact ih
    | true =>
      show Sto.has k ((id, cs) :: (objX D (n + 1) r ++ σ)) = false
      unfold Sto.has
      rw [ih]
      simp [h 0 id cs rfl]
theorem objX_all : ∀ (az : ObX) (n : Nat), objX (fun _ => true) n az = objX (fun _ => true) 0 az
  | [], _ => rfl
  | none :: r, n => by unfold objX; rw [objX_all r (n + 1), objX_all r (0 + 1)]
  | some (id, cs) :: r, n => by unfold objX; rw [objX_all r (n + 1), objX_all r (0 + 1)]
/-- a new object -/
structure OpNewX (E : Env) (FR : Fr) (o : Oper) (id : Nat) (c : AV) (ob : AO) : Prop where
  go : ∀ (g : G) a (σ' : Sto) (K : Act → World → Prop) (Q : Exit → Act → World → Prop), (∀ x ∈ o.op.operands, Rel g (FR.ev x) (a.eval x)) → St E g a [] σ' → σ'.has id = false → ob.has id = false →
    (∀ g' v, Old (fun _ => False) g g' → (∀ k, k ≠ id → g'.loc k = g.loc k) → Sok E.S E.g0 g' ((id, ob) :: σ') → Rel g' c v → K (a.put o.dst v) g'.w) → o.wpIn (fen E.rd) 0 E.P a g.w K Q
theorem opNewX_alloc {FR : Fr} {k id : Nat} {t : TypeId} {size bytes : Nat} {zero : Value} {d : TypeDesc} {cs : List AV} {ty : TypeId} {pos : String} {af : Array Edge} {gu : Option (Nat × Bool)} (ht : TyOk E.P t size bytes zero d) (hz : zero.cells.toList.map constAV = cs) (hz2 : zero.cells.toList.all cellV = true) : OpNewX E FR ⟨some k, .alloc t, ty, pos, af, gu⟩ id (.ptr id 0) (.cells cs) :=
  ⟨fun g a σ' K Q _ hst hid hob hK => by
    obtain ⟨vs, t', q1, q2, q3, q4⟩ := (opNew_alloc (E := E) (k := k) (id := id) (ty := ty) (pos := pos) (af := af) (gu := gu) ht hz hz2).go
    have hst2 := hst.box id rfl hid t' q1 q2 (q3 g) hob
    exact q4 g a _ _ (hK _ _ (old_alloc g vs t' 0 id (.blk g.w.heap.size)) (fun k hk => if_neg hk) hst2.so (.ptr (if_pos rfl)))⟩
theorem opNewX_callO {FR : Fr} {f : FuncId} {k : Nat} {xs : List Operand} {ats : Array TypeId} {args : List AV} {e : TypeId} {size : Nat} {els : List (List PV)} {ty : TypeId} {pos : String} {af : Array Edge} {gu : Option (Nat × Bool)} (r : Nat) (hr : RunO E.P f args e size els) (ha : xs.map (fun x => (FR.ev x).weak) = args) :
    OpNewX E FR ⟨some k, .call ⟨.value (.func f), xs.toArray, ats⟩, ty, pos, af, gu⟩ r (.hs r 0) (.row e true size els) :=
  ⟨fun g a σ' K Q hops hst hid hob hK => by
    obtain ⟨fn, c, hok⟩ := hr.ok
    refine ⟨fun _ _ => trivial, ?_⟩
    rw [Oper.semAt_plain _ _ _ (fun c => by simp), run_call_op hok (first := #[]) (cap := #[]) rfl, Oper.uponIn_enter]
    refine ⟨fun h => by simp [fen] at h, ?_⟩
    have hargs : RelArgs g args (#[] ++ xs.toArray.map a.eval ++ #[]) := by
      subst ha
      refine ⟨by simp, fun i c hi => ?_⟩
      simp only [List.getElem?_map, Option.map_eq_some_iff] at hi
      obtain ⟨x, hx, rfl⟩ := hi
      have := rel_weak (hops x (by simp only [Op.operands, Call.operands]; simp [List.mem_of_getElem? hx]))
      simpa [hx] using this
    refine (callsIn_fen (hr.run g _ hst.so.wf (E.glOf hst.so) hargs)).mono ?_
    rintro x w' ⟨g', v, rfl, hl, ho, hw, rfl, hv⟩
    obtain ⟨g2, hw2, hst2, hv2, hu2, hl2⟩ := hst.newrow ho hw hl hv (r := r) rfl hid
    have := hK g2 v ⟨by rw [hw2]; exact ho.os, by rw [hw2]; exact ho.tape, by rw [hw2]; exact ho.output, by rw [hw2, hu2]; exact ho.ext, by rw [hw2, hu2]; exact ho.block⟩ (fun k hk => (hl2 k hk).trans (by rw [hl])) hst2.so hv2
    rw [hw2] at this
    exact this⟩
inductive PresX (E : Env) (ops : Array Oper) (fr : Fr) (σ : Sto) : List Oper → List AV → ObX → Prop
  | nil : PresX E ops fr σ [] [] []
  | run {o : Oper} {l : List Oper} {c : AV} {cs : List AV} {az : ObX} (hg : GuardYes ops fr o) (h : OpG E o fr σ c) (hr : PresX E ops fr σ l cs az) : PresX E ops fr σ (o :: l) (c :: cs) (none :: az)
  | skip {o : Oper} {l : List Oper} {cs : List AV} {az : ObX} (hg : GuardNo ops fr o) (hr : PresX E ops fr σ l cs az) : PresX E ops fr σ (o :: l) (.tup [] :: cs) (none :: az)
  | new {o : Oper} {l : List Oper} {cs : List AV} {az : ObX} (id : Nat) {c : AV} {ob : AO} (hg : GuardYes ops fr o) (h : OpNewX E fr o id c ob) (hr : PresX E ops fr σ l cs az) : PresX E ops fr σ (o :: l) (c :: cs) (some (id, ob) :: az)
theorem PresX.len {ops : Array Oper} {l : List Oper} {cs : List AV} {az : ObX} (h : PresX E ops fr σ l cs az) : cs.length = l.length ∧ az.length = l.length := by
  induction h with
  | nil => exact ⟨rfl, rfl⟩
  | run _ _ _ ih => simp [ih.1, ih.2]
  | skip _ _ ih => simp [ih.1, ih.2]
  | new _ _ _ _ ih => simp [ih.1, ih.2]
theorem PresX.get {ops : Array Oper} {l : List Oper} {cs : List AV} {az : ObX} (h : PresX E ops fr σ l cs az) : ∀ {i : Nat} {o : Oper} {c : AV}, l[i]? = some o → cs[i]? = some c → (GuardYes ops fr o ∧ OpG E o fr σ c ∧ az[i]? = some none) ∨ (GuardNo ops fr o ∧ c = .tup [] ∧ az[i]? = some none) ∨ (GuardYes ops fr o ∧ ∃ id ob, OpNewX E fr o id c ob ∧ az[i]? = some (some (id, ob))) := by
  induction h with
  | nil => intro i o c h1; simp at h1
  | run hg h _ ih =>
    intro i o c h1 h2
    cases i with
    | zero => simp at h1 h2; subst h1; subst h2; exact .inl ⟨hg, h, rfl⟩
    | succ i => exact ih (by simpa using h1) (by simpa using h2)
  | skip hg _ ih =>
    intro i o c h1 h2
    cases i with
    | zero => simp at h1 h2; subst h1; subst h2; exact .inr (.inl ⟨hg, rfl, rfl⟩)
    | succ i => exact ih (by simpa using h1) (by simpa using h2)
  | new id hg h _ ih =>
    intro i o c h1 h2
    cases i with
    | zero => simp at h1 h2; subst h1; subst h2; exact .inr (.inr ⟨hg, id, _, h, rfl⟩)
    | succ i => exact ih (by simpa using h1) (by simpa using h2)
/-- all of them -/
def forkL {ι β : Type} : List ι → (ι → Option (List β)) → Option (List β)
  | [], _ => some []
  | i :: is, f => match f i with
    | some a => (match forkL is f with | some b => some (a ++ b) | none => none)
    | none => none
theorem forkL_mem {ι β : Type} {f : ι → Option (List β)} : ∀ {is : List ι} {ls : List β}, forkL is f = some ls → ∀ i ∈ is, ∃ a, f i = some a ∧ ∀ p ∈ a, p ∈ ls
  | [], _, _, i, hi => by cases hi
  | j :: is, ls, h, i, hi => by
    unfold forkL at h
    cases hf : f j with
    | none => rw [hf] at h; cases h
    | some a =>
      rw [hf] at h
      cases hr : forkL is f with
      | none => rw [hr] at h; cases h
      | some b =>
        rw [hr] at h
        cases h
        rcases List.mem_cons.1 hi with rfl | hi
        · exact ⟨a, hf, fun p hp => List.mem_append_left _ hp⟩
        · obtain ⟨a', h1, h2⟩ := forkL_mem hr i hi
          exact ⟨a', h1, fun p hp => List.mem_append_right _ (h2 p hp)⟩
/-- where all orders of what is left lead -/
def treeL (T : Tab) (N : Nat) (l : List Oper) (q : Nat) : Nat → List Bool → Fr → Sto → Option (List (Fr × Sto))
  | 0, _, _, _ => none
  | n + 1, D, fr, σ => match (D.take q).all id with
    | true => some [(fr, σ)]
    | false => forkL (readyL l D) fun i => match l[i]? with
      | some o => (match o.guard with
        | none => (match opDo T N o fr σ with | some r => treeL T N l q n (D.set i true) r.1 r.2 | none => none)
        | some _ => none)
      | none => none
/-- the sets that the first part may end with -/
def bitsX (m : Nat) (fl : List Nat) : Nat → Nat → List (List Bool)
  | 0, _ => [[]]
  | k + 1, i => (bitsX m fl k (i + 1)).flatMap fun r => match Nat.ble m i with
    | true => [false :: r]
    | false => (match fl.contains i with | true => [true :: r, false :: r] | false => [true :: r])
theorem bitsX_mem {m : Nat} {fl : List Nat} : ∀ (k i : Nat) (D : List Bool), D.length = k → (∀ j, j < k → m ≤ i + j → D.getD j false = false) → (∀ j, j < k → i + j < m → fl.contains (i + j) = false → D.getD j false = true) → D ∈ bitsX m fl k i
  | 0, i, D, h, _, _ => by
    obtain rfl := List.eq_nil_of_length_eq_zero h
    simp [bitsX]
  | k + 1, i, D, h, h1, h2 => by
    cases D with
    | nil => simp at h
    | cons b r =>
      have ih := bitsX_mem (m := m) (fl := fl) k (i + 1) r (by simpa using h) (fun j hj hmj => by
          have h3 : m ≤ i + (j + 1) := by omega
          have h4 := h1 (j + 1) (by omega) h3
          simpa using h4) (fun j hj hmj hc => by
          have h3 : i + (j + 1) < m := by omega
          have h4 : fl.contains (i + (j + 1)) = false := by rw [show i + (j + 1) = i + 1 + j by omega]; exact hc
          have h5 := h2 (j + 1) (by omega) h3 h4
          simpa using h5)
      unfold bitsX
      rw [List.mem_flatMap]
      refine ⟨r, ih, ?_⟩
      cases hm : Nat.ble m i with
      | true =>
        have := h1 0 (by omega) (by have := Nat.le_of_ble_eq_true hm; omega)
        simp at this; subst this; simp
      | false =>
        have hlt : i < m := by
          rcases Nat.lt_or_ge i m with h3 | h3
          · exact h3
          · rw [Nat.ble_eq_true_of_le h3] at hm; cases hm
        cases hc : fl.contains i with
        | true => cases b <;> simp
        | false =>
          have := h2 0 (by omega) (by omega) (by simpa using hc)
          simp at this; subst this; simp
def maskC : List AV → List Bool → List AV
  | c :: cs, b :: bs => (bif b then c else .any) :: maskC cs bs
  | _, _ => []
theorem maskC_get : ∀ {cs : List AV} {bs : List Bool}, cs.length ≤ bs.length → ∀ (i : Nat) (c : AV), cs[i]? = some c → (maskC cs bs)[i]? = some (bif bs.getD i false then c else .any)
  | [], _, _, i, c, h => by simp at h
  | c0 :: cs, [], hl, _, _, _ => by simp at hl
  | c0 :: cs, b :: bs, hl, i, c, h => by
    cases i with
    | zero => simp at h; subst h; simp [maskC]
    | succ i => have := maskC_get (cs := cs) (bs := bs) (by simpa using hl) i c (by simpa using h); simpa [maskC] using this
theorem maskC_len : ∀ {cs : List AV} {bs : List Bool}, cs.length ≤ bs.length → (maskC cs bs).length = cs.length
  | [], _, _ => by cases ‹List Bool› <;> rfl
  | c0 :: cs, [], hl => by simp at hl
  | c0 :: cs, b :: bs, hl => by simp [maskC, maskC_len (cs := cs) (bs := bs) (by simpa using hl)]
def leavesX (T : Tab) (N : Nat) (l : List Oper) (m q : Nat) (fl : List Nat) (fuel : Nat) (cs : List AV) (fr : Fr) (σ : Sto) : Option (List (Fr × Sto)) :=
  forkL (bitsX m fl l.length 0) fun D => treeL T N l q fuel D (newOf (l.take m) (maskC cs D) [] ++ fr) σ
def drawOkX (l : List Oper) (m q : Nat) (fl : List Nat) : Bool :=
  leadsBack .any l.toArray &&
  ((l.take m).all fun o => o.dst.isSome) &&
  (List.range m).all (fun i => (List.range m).all fun j => Nat.beq i j || (l[i]?).bind (·.dst) != (l[j]?).bind (·.dst)) &&
  ((l.take m).all fun o => (tmpsOf o).all fun t => (List.range m).all fun j => (l[j]?).bind (·.dst) != some t || directly o j) &&
  ((l.take m).all fun o => match o.guard with | none => true | some (j, _) => directly o j) &&
  (List.range l.length).all (fun i => Nat.ble (i + 1) m || (List.range i).all fun j => (Nat.ble (i + 1) q && fl.contains j) || ((masksN l l.length).getD i 0).testBit j)
/-- while the region runs -/
def JDX (E : Env) (T : Tab) (l : List Oper) (m q : Nat) (fl : List Nat) (cs : List AV) (az : ObX) (fr : Fr) (σ : Sto) (frJ : Fr) (σJ : Sto) (K : Post) (D : Nat → Bool) (a : Act) (w : World) : Prop :=
  (∀ i o, l[i]? = some o → D i = true → ∀ e ∈ o.after, Region.binds .any e = true → D e.on = true) ∧
  ((∃ g, g.w = w ∧ (∀ i, m ≤ i → D i = false) ∧ (∃ i, i < m ∧ fl.contains i = false ∧ D i = false) ∧ a.tmps.size = E.N ∧ DokE E g.w a.defers ∧ Sok E.S E.g0 g (objX D 0 az ++ σ) ∧
     (∀ d, (∀ i o, i < m → l[i]? = some o → o.dst ≠ some d) → Rel g (fr.get d) (a.tmps.getD d undef)) ∧
     (∀ i o c d, i < m → D i = true → l[i]? = some o → cs[i]? = some c → o.dst = some d → Rel g c (a.tmps.getD d undef)))
   ∨ (∃ s, q ≤ s ∧ (∀ i, i < l.length → (D i = true ↔ i < s)) ∧ s ≤ l.length ∧ wpListIn (fen E.rd) 0 E.P l.toArray (Ends E K) (l.drop s) a w)
   ∨ (∃ (Dl : List Bool) (fr2 : Fr) (σ2 : Sto) (g : G) (n : Nat) (ls : List (Fr × Sto)), g.w = w ∧ Dl.length = l.length ∧ (∀ i, i < l.length → D i = Dl.getD i false) ∧ (∀ i, q ≤ i → D i = false) ∧ (Dl.take q).all id = false ∧ St E g a fr2 σ2 ∧
       treeL T E.N l q n Dl fr2 σ2 = some ls ∧ ∀ p ∈ ls, FrLe p.1 frJ ∧ StoLe p.2 σJ))

set_option maxHeartbeats 2000000 in
theorem awp_drawnX {id : Nat} {l : List Oper} (m q fuel : Nat) (fl : List Nat) (new : Fr) {cs : List AV} {az : ObX} {σ' : Sto} {T : Tab} {ls : List (Fr × Sto)} (frJ : Fr) (σJ : Sto) (hT : TabOk E.P T) (hmix : E.P.follows .mixedOrders = true) (hok : drawOkX l m q fl = true) (hm : Nat.ble m q = true) (hq : Nat.ble q l.length = true)
    (hfl : (fl.all fun f => match az[f]? with | some none => true | _ => false) = true) (hN : ((l.take m).all fun o => o.dst.all fun d => Nat.ble (d + 1) E.N) = true)
    (hp : PresX E l.toArray (new ++ fr) σ (l.take m) cs az) (hfree : freeX fr σ cs az = true) (hσ : objX (fun _ => true) 0 az ++ σ = σ') (hnew : newOf (l.take m) cs [] = new)
    (hl : leavesX T E.N l m q fl fuel cs fr σ' = some ls) (hle : ∀ p ∈ ls, FrLe p.1 frJ ∧ StoLe p.2 σJ) (h : AWPL E l.toArray (l.drop q) frJ σJ K) : AWP E (.region id l.toArray true) fr σ K := by
  have hmq := Nat.le_of_ble_eq_true hm
  have hq := Nat.le_of_ble_eq_true hq
  have hm : m ≤ l.length := by omega
  simp only [drawOkX, Bool.and_eq_true, List.all_eq_true] at hok
  obtain ⟨⟨⟨⟨⟨hlb, hsome⟩, hdist⟩, hdat⟩, hgrd⟩, hsuf⟩ := hok
  have hcslen : cs.length = m := by rw [hp.len.1]; simp; omega
  have haslen : az.length = m := by rw [hp.len.2]; simp; omega
  simp only [freeX, Bool.and_eq_true, List.all_eq_true] at hfree
  obtain ⟨⟨⟨hdist2, hids⟩, hcells⟩, hcsid⟩ := hfree
  have hids' : ∀ k ∈ idX az, fr.has k = false ∧ σ.has k = false ∧ σ.get k = none := by
    intro k hk
    have := hids k hk
    simp only [Bool.not_eq_true', Option.isNone_iff_eq_none] at this
    exact ⟨this.1.1, this.1.2, this.2⟩
  have hcells' : ∀ (j id : Nat) (c : AO), az[j]? = some (some (id, c)) → ∀ k ∈ idX az, AO.has k c = false := by
    intro j id c hj k hk
    have := hcells _ (List.mem_of_getElem? hj)
    simp only [List.all_eq_true, Bool.not_eq_true'] at this
    exact this k hk
  have hcs' : ∀ (j : Nat) (c : AV) (x : Option (Nat × AO)), cs[j]? = some c → az[j]? = some x → ∀ k ∈ idX az, (∀ id ds, x = some (id, ds) → id ≠ k) → c.has k = false := by
    intro j c x hc hx k hk hne
    have hmz : (c, x) ∈ cs.zip az := by
      refine List.mem_of_getElem? (i := j) ?_
      rw [List.getElem?_zip_eq_some]
      exact ⟨hc, hx⟩
    have := hcsid _ hmz k hk
    simp only [Bool.or_eq_true, Bool.not_eq_true'] at this
    rcases this with h1 | h1
    · cases x with
      | none => cases h1
      | some x => obtain ⟨id, ds⟩ := x; exact absurd (Nat.eq_of_beq_eq_true h1) (hne id ds rfl)
    · exact h1
  have hsub : ∀ (D : Nat → Bool) o ob, σ.get o = some ob → Sto.get (objX D 0 az ++ σ) o = some ob := by
    intro D o ob ho
    rcases objX_cases (σ := σ) (D := D) az hdist2 o with ⟨j, c, _, h2, _⟩ | ⟨_, h2⟩
    · have := (hids' o (idX_mem h2)).2.2
      rw [this] at ho; cases ho
    · rw [h2]; exact ho
  have htake : ∀ i, i < m → (l.take m)[i]? = l[i]? := fun i hi => List.getElem?_take_of_lt hi
  have hmem : ∀ i o, i < m → l[i]? = some o → o ∈ l.take m := fun i o hi ho => List.mem_of_getElem? (by rw [htake i hi]; exact ho)
  have hdist' : ∀ i j o o', i < m → j < m → l[i]? = some o → l[j]? = some o' → i ≠ j → o.dst ≠ o'.dst := by
    intro i j o o' hi hj ho ho' hne hc
    have := hdist i (by simpa using hi) j (by simpa using hj)
    simp only [Bool.or_eq_true, bne_iff_ne, ne_eq] at this
    rcases this with h1 | h1
    · exact hne (Nat.eq_of_beq_eq_true h1)
    · exact h1 (by rw [ho, ho']; simpa using hc)
  have hA : ∀ (cs' : List AV) d, (∀ i o, i < m → l[i]? = some o → o.dst ≠ some d) → (newOf (l.take m) cs' [] ++ fr).get d = fr.get d := by
    intro cs' d hd
    rw [← newOf_append, List.nil_append]
    refine newOf_other _ _ _ _ fun o ho => ?_
    obtain ⟨i, hi, rfl⟩ := List.getElem_of_mem ho
    have hi' : i < m := by simp at hi; omega
    exact hd i _ hi' (by rw [← htake i hi']; exact List.getElem?_eq_getElem hi)
  have hB : ∀ (cs' : List AV) i o c d, i < m → l[i]? = some o → cs'[i]? = some c → o.dst = some d → (newOf (l.take m) cs' [] ++ fr).get d = c := by
    intro cs' i o c d hi ho hc hd
    rw [← newOf_append, List.nil_append]
    refine newOf_get _ _ _ i o c d (fun i j o o' h1 h2 hne => ?_) (by rw [htake i hi]; exact ho) hc hd
    have hi1 : i < m := by have := (List.getElem?_eq_some_iff.1 h1).1; simp at this; omega
    have hj1 : j < m := by have := (List.getElem?_eq_some_iff.1 h2).1; simp at this; omega
    rw [htake i hi1] at h1; rw [htake j hj1] at h2
    exact hdist' i j o o' hi1 hj1 h1 h2 hne
  have hsuf' : ∀ {D : Nat → Bool} i o, (∀ i o, l[i]? = some o → D i = true → ∀ e ∈ o.after, Region.binds .any e = true → D e.on = true) → m ≤ i → l[i]? = some o → (∀ e ∈ o.after, Region.binds .any e = true → D e.on = true) → ∀ j, j < i → (q ≤ i ∨ fl.contains j = false) → D j = true := by
    intro D i o hcl hi ho he j hj hqj
    have hil : i < l.length := (List.getElem?_eq_some_iff.1 ho).1
    have := hsuf i (by simpa using hil)
    simp only [Bool.or_eq_true, List.all_eq_true, Bool.and_eq_true] at this
    rcases this with h1 | h1
    · have := Nat.le_of_ble_eq_true h1; omega
    · rcases h1 j (by simpa using hj) with ⟨h2, h3⟩ | h2
      · have := Nat.le_of_ble_eq_true h2
        rcases hqj with h4 | h4
        · omega
        · rw [h4] at h3; cases h3
      · exact masks_ready hcl l.length i o ho he j h2
  have hdir : ∀ {D : Nat → Bool} {o : Oper} {j : Nat}, (∀ e ∈ o.after, Region.binds .any e = true → D e.on = true) → directly o j = true → D j = true := by
    intro D o j he hd
    simp only [directly, List.any_eq_true, Bool.and_eq_true] at hd
    obtain ⟨e, h1, h2, h3⟩ := hd
    rw [← Nat.eq_of_beq_eq_true h3]
    exact he e (by simpa using h1) h2
  have hflz : ∀ j x, az[j]? = some (some x) → fl.contains j = false := by
    intro j x hj
    cases hc : fl.contains j with
    | false => rfl
    | true =>
      rw [List.all_eq_true] at hfl
      have := hfl j (by simpa using hc)
      rw [hj] at this; cases this
  -- the second part begins, or the third
  have enter2 : ∀ (g : G) (a : Act) (D : Nat → Bool) (Dl : List Bool) (fr2 : Fr) (σ2 : Sto) (n : Nat) (ls2 : List (Fr × Sto)), (∀ i o, l[i]? = some o → D i = true → ∀ e ∈ o.after, Region.binds .any e = true → D e.on = true) → Dl.length = l.length → (∀ i, i < l.length → D i = Dl.getD i false) → (∀ i, q ≤ i → D i = false) → St E g a fr2 σ2 → treeL T E.N l q n Dl fr2 σ2 = some ls2 → (∀ p ∈ ls2, FrLe p.1 frJ ∧ StoLe p.2 σJ) → JDX E T l m q fl cs az fr σ frJ σJ K D a g.w := by
    intro g a D Dl fr2 σ2 n ls2 hcl hlen hbits hge hst htree hls
    cases hall : (Dl.take q).all _root_.id with
    | false => exact ⟨hcl, .inr (.inr ⟨Dl, fr2, σ2, g, n, ls2, rfl, hlen, hbits, hge, hall, hst, htree, hls⟩)⟩
    | true =>
      cases n with
      | zero => unfold treeL at htree; cases htree
      | succ n =>
        unfold treeL at htree
        rw [hall] at htree
        cases htree
        obtain ⟨h1, h2⟩ := hls (fr2, σ2) (by simp)
        refine ⟨hcl, .inr (.inl ⟨q, Nat.le_refl _, fun i hi => ⟨fun hd => ?_, fun hlt => ?_⟩, hq, h.go g a (hst.le h1 h2)⟩)⟩
        · rcases Nat.lt_or_ge i q with h3 | h3
          · exact h3
          · rw [hge i h3] at hd; cases hd
        · rw [hbits i hi]
          rw [List.all_eq_true] at hall
          have hiD : i < Dl.length := by omega
          have := hall Dl[i] (List.mem_of_getElem? (i := i) (by rw [List.getElem?_take_of_lt hlt]; exact List.getElem?_eq_getElem hiD))
          simpa [List.getD_eq_getElem?_getD, hiD] using this
  have close1 : ∀ (g : G) (a : Act) (D : Nat → Bool), (∀ i o, l[i]? = some o → D i = true → ∀ e ∈ o.after, Region.binds .any e = true → D e.on = true) → (∀ i, m ≤ i → D i = false) → (∀ i, i < m → fl.contains i = false → D i = true) → a.tmps.size = E.N → DokE E g.w a.defers → Sok E.S E.g0 g (objX D 0 az ++ σ) →
     (∀ d, (∀ i o, i < m → l[i]? = some o → o.dst ≠ some d) → Rel g (fr.get d) (a.tmps.getD d undef)) →
     (∀ i o c d, i < m → D i = true → l[i]? = some o → cs[i]? = some c → o.dst = some d → Rel g c (a.tmps.getD d undef)) → JDX E T l m q fl cs az fr σ frJ σJ K D a g.w := by
    intro g a D hcl hge hdone hsz hdf hso hf0 hfD
    have hlen : ((List.range l.length).map D).length = l.length := by simp
    have hbits : ∀ i, i < l.length → D i = ((List.range l.length).map D).getD i false := by intro i hi; simp [List.getD_eq_getElem?_getD, hi]
    have hmem2 : (List.range l.length).map D ∈ bitsX m fl l.length 0 := bitsX_mem l.length 0 _ hlen (fun j hj hmj => by rw [← hbits j hj]; exact hge j (by omega)) (fun j hj hmj hc => by rw [← hbits j hj]; rw [Nat.zero_add] at hmj hc; exact hdone j hmj hc)
    obtain ⟨ls2, h1, h2⟩ := forkL_mem hl _ hmem2
    refine enter2 g a D _ _ σ' fuel ls2 hcl hlen hbits (fun i hi => hge i (by omega)) ⟨fun d => ?_, hsz, hdf, ?_⟩ h1 (fun p hp => hle p (h2 p hp))
    · by_cases hex2 : ∃ j o', j < m ∧ l[j]? = some o' ∧ o'.dst = some d
      · obtain ⟨j, o', hj, q1, q2⟩ := hex2
        obtain ⟨c', hc'⟩ : ∃ c, cs[j]? = some c := ⟨cs[j]'(by omega), List.getElem?_eq_getElem (by omega)⟩
        have hmk := maskC_get (cs := cs) (bs := (List.range l.length).map D) (by rw [hlen]; omega) j c' hc'
        rw [hB _ j o' _ d hj q1 hmk q2, ← hbits j (by omega)]
        cases hD : D j with
        | false => exact .any _
        | true => exact hfD j o' c' d hj hD q1 hc' q2
      · rw [hA _ d (fun j o' hj q1 q2 => hex2 ⟨j, o', hj, q1, q2⟩)]
        exact hf0 d (fun j o' hj q1 q2 => hex2 ⟨j, o', hj, q1, q2⟩)
    · have e : objX D 0 az = objX (fun _ => true) 0 az := objX_same az 0 (fun j x hj => by
        rw [Nat.zero_add]
        have hjm : j < m := by have := (List.getElem?_eq_some_iff.1 hj).1; omega
        exact hdone j hjm (hflz j x hj))
      rw [← hσ, ← e]; exact hso
  refine ⟨fun g a hst => ?_⟩
  have hst0 := hst.drew
  refine wpIn_region_inv hmix hlb (JDX E T l m q fl cs az fr σ frJ σJ K) ?_ ?_ ?_
  · have hso0 : Sok E.S E.g0 ⟨g.w.drew, g.u, g.loc⟩ (objX (fun _ => false) 0 az ++ σ) := hst0.so.le (fun o ob ho => by rw [← objX_none (D := fun _ => false) az 0 (fun _ _ _ => rfl)]; exact ho)
    by_cases hex : ∃ i, i < m ∧ fl.contains i = false
    · obtain ⟨i, hi1, hi2⟩ := hex
      exact ⟨fun i o _ hd => by simp at hd, .inl ⟨⟨g.w.drew, g.u, g.loc⟩, rfl, fun _ _ => rfl, ⟨i, hi1, hi2, rfl⟩, hst0.n, hst0.df, hso0, fun d _ => hst0.fr d, fun i o c d _ hd => by simp at hd⟩⟩
    · exact close1 ⟨g.w.drew, g.u, g.loc⟩ a (fun _ => false) (fun i o _ hd => by simp at hd) (fun _ _ => rfl) (fun i h1 h2 => absurd ⟨i, h1, h2⟩ hex) hst0.n hst0.df hso0 (fun d _ => hst0.fr d) (fun i o c d _ hd => by simp at hd)
  · rintro D a w ⟨_, ⟨g, _, _, ⟨i, hi, _, hd⟩, _⟩ | ⟨s, hs1, hs2, hs3, hs4⟩ | ⟨Dl, _, _, _, _, _, _, hlen, hbits, _, hall2, _⟩⟩ hall
    · rw [hall i (by simp; omega)] at hd; cases hd
    · have : s = l.length := by
        rcases Nat.lt_or_ge s l.length with h1 | h1
        · have := (hs2 s h1).1 (hall s (by simpa using h1)); omega
        · omega
      subst this
      rw [List.drop_length] at hs4
      exact hs4
    · exfalso
      have : (Dl.take q).all _root_.id = true := by
        rw [List.all_eq_true]
        intro x hx
        obtain ⟨i, hi, rfl⟩ := List.mem_iff_getElem.1 (List.mem_of_mem_take hx)
        have h1 := hbits i (by omega)
        rw [hall i (by simp; omega)] at h1
        simp only [List.getD_eq_getElem?_getD, List.getElem?_eq_getElem hi, Option.getD_some] at h1
        simp [← h1]
      rw [this] at hall2; cases hall2
  · rintro D a w i o ⟨hcl, hJ⟩ ho hDi he
    have ho' : l[i]? = some o := by simpa using ho
    have hil : i < l.length := (List.getElem?_eq_some_iff.1 ho').1
    have hcl' : ∀ i' o', l[i']? = some o' → upd D i i' = true → ∀ e ∈ o'.after, Region.binds .any e = true → upd D i e.on = true := by
      intro i' o' h1 h2 e h3 h4
      unfold upd at h2 ⊢
      split
      · rfl
      · split at h2
        · rename_i hii; subst hii
          rw [ho'] at h1; cases h1
          exact he e h3 h4
        · exact hcl i' o' h1 h2 e h3 h4
    rcases hJ with ⟨g, rfl, hge, ⟨i0, hi0, hfl0, hd0⟩, hsz, hdf, hso, hf0, hfD⟩ | ⟨s, hs1, hs2, hs3, hs4⟩ | ⟨Dl, fr2, σ2, g, n, ls2, rfl, hlen, hbits, hge, hall2, hst2, htree, hls2⟩
    · have him : i < m := by
        rcases Nat.lt_or_ge i m with h1 | h1
        · exact h1
        · have := hsuf' i o hcl h1 ho' he i0 (by omega) (.inr hfl0)
          rw [hd0] at this; cases this
      obtain ⟨c, hc⟩ : ∃ c, cs[i]? = some c := ⟨cs[i]'(by omega), List.getElem?_eq_getElem (by omega)⟩
      have hslot : ∀ d, (∃ j o' , j < m ∧ l[j]? = some o' ∧ o'.dst = some d ∧ D j = true) ∨ (∀ j o', j < m → l[j]? = some o' → o'.dst ≠ some d) → Rel g ((new ++ fr).get d) (a.tmps.getD d undef) := by
        rintro d (⟨j, o', hj, ho1, hd1, hD1⟩ | hno)
        · obtain ⟨c', hc'⟩ : ∃ c, cs[j]? = some c := ⟨cs[j]'(by omega), List.getElem?_eq_getElem (by omega)⟩
          rw [← hnew, hB cs j o' c' d hj ho1 hc' hd1]
          exact hfD j o' c' d hj hD1 ho1 hc' hd1
        · rw [← hnew, hA cs d hno]; exact hf0 d hno
      have hops : ∀ x ∈ o.op.operands, Rel g ((new ++ fr).ev x) (a.eval x) := by
        intro x hx
        cases x with
        | const v => exact rel_const g v
        | global q => exact .pv (.b rfl)
        | func f => exact .fn (by simp) (by simp) (fun i c h => by simp at h) (fun i c h => by simp at h)
        | tmp t =>
          refine hslot t ?_
          by_cases hex : ∃ j o', j < m ∧ l[j]? = some o' ∧ o'.dst = some t
          · obtain ⟨j, o', hj, ho1, hd1⟩ := hex
            have h1 := hdat o (hmem i o him ho') t (by simp only [tmpsOf, List.mem_filterMap]; exact ⟨.tmp t, by simpa using hx, rfl⟩) j (by simpa using hj)
            simp only [Bool.or_eq_true, bne_iff_ne, ne_eq] at h1
            rcases h1 with h1 | h1
            · exact absurd (by rw [ho1]; simpa using hd1) h1
            · exact .inl ⟨j, o', hj, ho1, hd1, hdir he h1⟩
          · exact .inr fun j o' hj ho1 hd1 => hex ⟨j, o', hj, ho1, hd1⟩
      have hguard : ∀ j want d, o.guard = some (j, want) → (l.toArray[j]?).bind (·.dst) = some d → Rel g ((new ++ fr).get d) (a.tmps.getD d undef) := by
        intro j want d hg hj
        have h1 := hgrd o (hmem i o him ho')
        rw [hg] at h1
        have hDj := hdir he h1
        have hjm : j < m := by
          rcases Nat.lt_or_ge j m with h2 | h2
          · exact h2
          · rw [hge j h2] at hDj; cases hDj
        cases hoj : l[j]? with
        | none => rw [List.getElem?_toArray, hoj] at hj; cases hj
        | some o' =>
          rw [List.getElem?_toArray, hoj] at hj
          exact hslot d (.inl ⟨j, o', hjm, hoj, by simpa using hj, hDj⟩)
      -- the state behind the operation
      have hafter : ∀ (g' : G) (v : Value) (d : Nat), o.dst = some d → Old (fun _ => False) g g' → Sok E.S E.g0 g' (objX (upd D i) 0 az ++ σ) → (∀ c v, Rel g c v → (∀ k, k ∈ idX az → az[i]?.bind (fun x => x.map (·.1)) = some k → c.has k = false) → Rel g' c v) → Rel g' c v → JDX E T l m q fl cs az fr σ frJ σJ K (upd D i) (a.put o.dst v) g'.w := by
        intro g' v d hd hold hso' hmono0 hv
        have hdN : d < E.N := by
          rw [List.all_eq_true] at hN
          have := hN o (hmem i o him ho')
          rw [hd] at this
          exact Nat.le_of_ble_eq_true (by simpa using this)
        have hget : ∀ d', (a.put o.dst v).tmps.getD d' undef = if d = d' then v else a.tmps.getD d' undef := by
          intro d'
          rw [hd]
          simp only [Act.put]
          rw [getD_set_eq]
          by_cases h1 : d = d'
          · rw [if_pos ⟨h1, by omega⟩, if_pos h1]
          · rw [if_neg (fun x => h1 x.1), if_neg h1]
        have hsz' : (a.put o.dst v).tmps.size = E.N := by rw [hd]; simp [Act.put, hsz]
        have hdf' : DokE E g'.w (a.put o.dst v).defers := by rw [hd]; exact hdf.mono hold.ext
        have hF0 : ∀ d', (∀ i o, i < m → l[i]? = some o → o.dst ≠ some d') → Rel g' (fr.get d') ((a.put o.dst v).tmps.getD d' undef) := by
          intro d' hno
          rw [hget, if_neg (by rintro rfl; exact hno i o him ho' hd)]
          exact hmono0 _ _ (hf0 d' hno) (fun k hk _ => by
            cases hx : (fr.get d').has k with
            | false => rfl
            | true => have := Fr.has_get hx; rw [(hids' k hk).1] at this; cases this)
        have hFD : ∀ i' o' c' d', i' < m → upd D i i' = true → l[i']? = some o' → cs[i']? = some c' → o'.dst = some d' → Rel g' c' ((a.put o.dst v).tmps.getD d' undef) := by
          intro i' o' c' d' hi' hD' h1 h2 h3
          by_cases hii : i' = i
          · subst hii
            rw [ho'] at h1; cases h1
            rw [hc] at h2; cases h2
            rw [hd] at h3; cases h3
            rw [hget, if_pos rfl]
            exact hv
          · have hD1 : D i' = true := by unfold upd at hD'; rwa [if_neg hii] at hD'
            have hne : d ≠ d' := by
              rintro rfl
              exact hdist' i' i o' o hi' him h1 ho' hii (h3.trans hd.symm)
            rw [hget, if_neg hne]
            refine hmono0 _ _ (hfD i' o' c' d' hi' hD1 h1 h2 h3) (fun k hk hki => ?_)
            obtain ⟨x, hx⟩ : ∃ x, az[i']? = some x := ⟨az[i']'(by omega), List.getElem?_eq_getElem (by omega)⟩
            refine hcs' i' c' x h2 hx k hk (fun id ds hxe hik => ?_)
            subst hxe; subst hik
            cases hai : az[i]? with
            | none => rw [hai] at hki; cases hki
            | some y =>
              rw [hai] at hki
              cases y with
              | none => cases hki
              | some y =>
                obtain ⟨id2, ds2⟩ := y
                simp at hki; subst hki
                exact hii (idX_dist hdist2 hx hai)
        have hge' : ∀ i', m ≤ i' → upd D i i' = false := by
          intro i' hi'
          unfold upd
          rw [if_neg (by omega)]
          exact hge i' hi'
        by_cases hex : ∃ i', i' < m ∧ fl.contains i' = false ∧ upd D i i' = false
        · exact ⟨hcl', .inl ⟨g', rfl, hge', hex, hsz', hdf', hso', hF0, hFD⟩⟩
        · refine close1 g' _ _ hcl' hge' (fun i' h1 h2 => ?_) hsz' hdf' hso' hF0 hFD
          cases h3 : upd D i i' with
          | true => rfl
          | false => exact absurd ⟨i', h1, h2, h3⟩ hex
      obtain ⟨d, hd⟩ : ∃ d, o.dst = some d := by
        have := hsome o (hmem i o him ho')
        cases hd : o.dst with
        | none => rw [hd] at this; cases this
        | some d => exact ⟨d, rfl⟩
      unfold wpOpIn
      rw [ho]
      simp only
      have hyes : GuardYes l.toArray (new ++ fr) o → Region.wanted o (yielded l.toArray a.tmps) = true := by
        intro hg
        cases hg with
        | plain h1 => simp [Region.wanted, h1]
        | @yes j d' want t h1 h2 h3 h4 =>
          have hr := hguard j want d' h1 h2
          rw [h3] at hr
          have hy : yielded l.toArray a.tmps j = some t := by
            unfold yielded
            rw [h2]
            simp only [Option.bind_some]
            have h5 := rel_bool hr
            cases hx : a.tmps[d']? with
            | none => rw [Array.getD_eq_getD_getElem?, hx] at h5; simp [undef] at h5
            | some x => rw [Array.getD_eq_getD_getElem?, hx] at h5; simp at h5; rw [h5]
          have h6 : (yielded l.toArray a.tmps j == some want) = true := by rw [hy, h4]; cases want <;> rfl
          simp only [Region.wanted, h1, h6]
      have hsame : az[i]? = some none → objX (upd D i) 0 az = objX D 0 az := fun hn => objX_same az 0 (fun j x hj => by
        rw [Nat.zero_add]
        unfold upd
        rw [if_neg (by rintro rfl; rw [hn] at hj; cases hj)])
      rcases hp.get (i := i) (by rw [htake i him]; exact ho') hc with ⟨hg, hop, has⟩ | ⟨hg, rfl, has⟩ | ⟨hg, id, ob, hop, has⟩
      · have hw := hyes hg
        simp only [hw, if_true]
        exact hop.go g a _ _ hops (hso.le (hsub D)) fun g' v h1 h2 h3 h4 => hafter g' v d hd h1 (by rw [hsame has]; exact hso.grow h1 h2 (fun k _ => by rw [h3])) (fun c v hr _ => hr.mono h1.ext (fun k _ => by rw [h3])) h4
      · have hw : Region.wanted o (yielded l.toArray a.tmps) = false := by
          cases hg with
          | @no j d' want t h1 h2 h3 h4 =>
            have hr := hguard j want d' h1 h2
            rw [h3] at hr
            have hy : yielded l.toArray a.tmps j = some t := by
              unfold yielded
              rw [h2]
              simp only [Option.bind_some]
              have h5 := rel_bool hr
              cases hx : a.tmps[d']? with
              | none => rw [Array.getD_eq_getD_getElem?, hx] at h5; simp [undef] at h5
              | some x => rw [Array.getD_eq_getD_getElem?, hx] at h5; simp at h5; rw [h5]
            have h6 : (yielded l.toArray a.tmps j == some want) = false := by rw [hy, h4]; cases want <;> rfl
            simp only [Region.wanted, h1, h6]
          | @none j d' want h1 h2 h3 =>
            have hr := hguard j want d' h1 h2
            rw [h3] at hr
            have hy : yielded l.toArray a.tmps j = none := by
              unfold yielded
              rw [h2]
              simp only [Option.bind_some]
              cases hx : a.tmps[d']? with
              | none => rfl
              | some x => rw [Array.getD_eq_getD_getElem?, hx] at hr; simp only [Option.getD_some] at hr; cases hr; rfl
            have h6 : (yielded l.toArray a.tmps j == some want) = false := by rw [hy]; rfl
            simp only [Region.wanted, h1, h6]
        simp only [hw]
        exact ⟨fun _ _ => trivial, hafter g undef d hd (Old.refl _ g) (by rw [hsame has]; exact hso) (fun c v hr _ => hr) (.tup rfl (fun i c hi => by simp at hi))⟩
      · have hw := hyes hg
        simp only [hw, if_true]
        have hidm := idX_mem has
        have hst1 : St E g a [] (objX D 0 az ++ σ) := ⟨fun _ => .any _, hsz, hdf, hso⟩
        refine hop.go g a _ _ _ hops hst1 (objX_has (hids' id hidm).2.1 az 0 (fun j id' c hj => hcells' j id' c hj id hidm)) (hcells' i id ob has id hidm) fun g' v hold hloc hso2 hv => hafter g' v d hd hold ?_ ?_ hv
        · refine hso2.le fun o' ob ho1 => ?_
          rw [Sto.get_cons]
          rcases objX_cases (σ := σ) (D := upd D i) az hdist2 o' with ⟨j, c', h1, h2, h3⟩ | ⟨h1, h2⟩
          · by_cases hji : j = i
            · subst hji
              rw [has] at h2
              simp at h2
              obtain ⟨rfl, rfl⟩ := h2
              rw [if_pos rfl, ← ho1, h3]
            · have hne : id ≠ o' := by rintro rfl; exact hji (idX_dist hdist2 h2 has)
              rw [if_neg hne, ← ho1, h3]
              have hDj : D j = true := by unfold upd at h1; rwa [if_neg hji] at h1
              exact objX_some az 0 j hdist2 h2 (by simpa using hDj)
          · have hne : id ≠ o' := by
              rintro rfl
              have := h1 i _ has
              simp [upd] at this
            rw [if_neg hne, ← ho1, h2]
            refine objX_none az 0 (fun j c' hj => ?_)
            rw [Nat.zero_add]
            have h3 := h1 j c' hj
            unfold upd at h3
            split at h3
            · cases h3
            · exact h3
        · intro c v hr hk
          refine hr.mono hold.ext (fun k hck => hloc k ?_)
          rintro rfl
          have := hk k hidm (by rw [has]; rfl)
          rw [this] at hck; cases hck
    · have hil : i < l.length := (List.getElem?_eq_some_iff.1 ho').1
      have his : s ≤ i := by
        rcases Nat.lt_or_ge i s with h1 | h1
        · rw [(hs2 i hil).2 h1] at hDi; cases hDi
        · exact h1
      have hsi : i = s := by
        rcases Nat.lt_or_ge s i with h1 | h1
        · have := hsuf' i o hcl (by omega) ho' he s h1 (.inl (by omega))
          have := (hs2 s (by omega)).1 this
          omega
        · omega
      subst hsi
      have hdrop : l.drop i = o :: l.drop (i + 1) := by
        rw [List.drop_eq_getElem_cons hil]
        congr 1
        exact (List.getElem?_eq_some_iff.1 ho').2
      rw [hdrop] at hs4
      unfold wpOpIn
      rw [ho]
      simp only [wpListIn] at hs4 ⊢
      have hJ' : ∀ a' w', wpListIn (fen E.rd) 0 E.P l.toArray (Ends E K) (l.drop (i + 1)) a' w' → JDX E T l m q fl cs az fr σ frJ σJ K (upd D i) a' w' := by
        intro a' w' hw'
        refine ⟨hcl', .inr (.inl ⟨i + 1, by omega, fun i' hi' => ?_, by omega, hw'⟩)⟩
        unfold upd
        split
        · rename_i hii; subst hii; simp
        · rename_i hii
          rw [hs2 i' hi']
          omega
      split
      · rename_i hw
        rw [if_pos hw] at hs4
        exact Oper.wpIn_mono hJ' hs4
      · rename_i hw
        rw [if_neg hw] at hs4
        exact ⟨hs4.1, hJ' _ _ hs4.2⟩
    · have hnq : i < q := by
        rcases Nat.lt_or_ge i q with h1 | h1
        · exact h1
        · exfalso
          have : (Dl.take q).all _root_.id = true := by
            rw [List.all_eq_true]
            intro x hx
            obtain ⟨j, hj, rfl⟩ := List.mem_iff_getElem.1 hx
            have hjq : j < q := by simp at hj; omega
            have hjl : j < Dl.length := by simp at hj; omega
            have h2 := hsuf' i o hcl (by omega) ho' he j (by omega) (.inl h1)
            rw [hbits j (by omega)] at h2
            simp only [List.getElem_take]
            simpa [List.getD_eq_getElem?_getD, hjl] using h2
          rw [this] at hall2; cases hall2
      have hready : i ∈ readyL l Dl := by
        simp only [readyL, List.mem_filter, List.mem_range]
        refine ⟨hil, ?_⟩
        unfold readyB
        rw [ho']
        simp only [Bool.and_eq_true, Bool.not_eq_true', List.all_eq_true, Bool.or_eq_true]
        refine ⟨by rw [← hbits i hil]; exact hDi, fun e he1 => ?_⟩
        cases hb : Region.binds .any e with
        | false => exact .inl rfl
        | true =>
          refine .inr ?_
          have h1 := he e (by simpa using he1) hb
          have hlt := leadsBack_spec hlb ho e (by simpa using he1) hb
          rw [← hbits e.on (by omega)]
          exact h1
      have hnext : ∀ k, k < l.length → upd D i k = (Dl.set i true).getD k false := by
        intro k hk
        unfold upd
        simp only [List.getD_eq_getElem?_getD, List.getElem?_set]
        by_cases hki : k = i
        · subst hki; simp [hlen, hk]
        · rw [if_neg hki, if_neg (Ne.symm hki), ← List.getD_eq_getElem?_getD]; exact hbits k hk
      cases n with
      | zero => unfold treeL at htree; cases htree
      | succ n =>
        unfold treeL at htree
        rw [hall2] at htree
        obtain ⟨b, h1, h2⟩ := forkL_mem htree i hready
        rw [ho'] at h1
        simp only at h1
        cases hgd : o.guard with
        | some _ => rw [hgd] at h1; cases h1
        | none =>
          rw [hgd] at h1
          cases hdo : opDo T E.N o fr2 σ2 with
          | none => rw [hdo] at h1; cases h1
          | some r =>
            rw [hdo] at h1
            obtain ⟨fr3, σ3⟩ := r
            unfold wpOpIn
            rw [ho]
            have hw : Region.wanted o (yielded l.toArray a.tmps) = true := by simp [Region.wanted, hgd]
            simp only [hw, if_true]
            exact (opDo_ok hT hdo).go g a _ _ hst2 fun g' a' hst3 => enter2 g' a' _ _ _ _ n b hcl' (by simp [hlen]) hnext (fun k hk => by unfold upd; rw [if_neg (by omega)]; exact hge k hk) hst3 h1 (fun p hp => hls2 p (h2 p hp))

section
variable {E : Env} {fr : Fr} {σ : Sto} {k : KS} {ops : Array Oper} {T : Tab} {c : AV} {t ty : TypeId} {pos : String} {af : Array Edge} {row : TyRow}
theorem drX {id : Nat} {l : List Oper} (m q fuel cnt : Nat) (fl : List Nat) (new : Fr) {cs : List AV} {az : ObX} {σ' : Sto} (frJ : Fr) (σJ : Sto) (hT : TabOk E.P T) (hmix : E.P.follows .mixedOrders = true) (hok : drawOkX l m q fl = true) (hm : Nat.ble m q = true) (hq : Nat.ble q l.length = true)
    (hN : ((l.take m).all fun o => o.dst.all fun d => Nat.ble (d + 1) E.N) = true)
    (hp : PresX E l.toArray (new ++ fr) σ (l.take m) cs az) (hfl : (fl.all fun f => match az[f]? with | some none => true | _ => false) = true) (hfree : freeX fr σ cs az = true) (hσ : objX (fun _ => true) 0 az ++ σ = σ') (hnew : newOf (l.take m) cs [] = new)
    (hl : (leavesX T E.N l m q fl fuel cs fr σ').map (fun ls => ls.map fun p => (frJ.map p.1.sel, σJ.map p.2.sel)) = some (List.replicate cnt (frJ, σJ.map fun p => some p.2))) (h : (GS.ops l.toArray (l.drop q) frJ σJ k).holds E) : (GS.code (.region id l.toArray true) fr σ k).holds E := by
  cases hls : leavesX T E.N l m q fl fuel cs fr σ' with
  | none => rw [hls] at hl; cases hl
  | some ls =>
    rw [hls] at hl
    simp only [Option.map_some, Option.some.injEq] at hl
    refine awp_drawnX m q fuel fl new frJ σJ hT hmix hok hm hq hfl hN hp hfree hσ hnew hls (fun p hp => ?_) h
    have h1 : (frJ.map p.1.sel, σJ.map p.2.sel) ∈ List.replicate cnt (frJ, σJ.map fun p => some p.2) := by rw [← hl]; exact List.mem_map.2 ⟨p, hp, rfl⟩
    rw [List.mem_replicate] at h1
    have h2 := Prod.mk.inj h1.2
    exact ⟨frw h2.1, stw h2.2⟩
theorem pqX {o : Oper} {l : List Oper} {cs : List AV} {az : ObX} (hT : TabOk E.P T) (hq : qval T fr.ev σ o.op = some c) (hg : GuardYes ops fr o) (hr : PresX E ops fr σ l cs az) : PresX E ops fr σ (o :: l) (c :: cs) (none :: az) := .run hg (opG_q (qval_ok hT hq)) hr
theorem pnX {d : Nat} {gu : Option (Nat × Bool)} {l : List Oper} {cs ds : List AV} {az : ObX} (id : Nat) (hT : TabOk E.P T) (ht : T.get t = some row) (hz : forceL (row.zero.cells.toList.map constAV) = some ds) (hz2 : row.zero.cells.toList.all cellV = true) (hg : GuardYes ops fr ⟨some d, .alloc t, ty, pos, af, gu⟩) (hr : PresX E ops fr σ l cs az) : PresX E ops fr σ (⟨some d, .alloc t, ty, pos, af, gu⟩ :: l) (.ptr id 0 :: cs) (some (id, .cells ds) :: az) :=
  .new id hg (opNewX_alloc (hT _ _ ht).ty (forceL_eq hz) hz2) hr
end
end Go.Proofs.Ytpclhpncmlbccaa

/- Arrays as values: literals, elements. No program is named. -/
namespace Go.Proofs.Ytpclhpncmlbccaa
open Go.RowKit
section
variable {P : Program} {dst : Option Tmp} {ty : TypeId} {pos : String} {af : Array Edge} {gu : Option (Nat × Bool)} {ρ : Operand → AV} {σ : Sto}
variable {t e : TypeId} {size bytes ss sb len : Nat} {zero sz : Value} {d : TypeDesc} {x y : Operand} {k : IntKind} {n : Int}
/-- an array's literal -/
theorem ev_buildA {ps : List (Nat × Operand)} {z cs : List AV} (ht : TyOk P t ss sb sz (.array len e)) (he : TyOk P e size bytes zero d)
    (hz : (constAV sz).cells = some z ∨ sz.cells.toList.map constAV = z ∧ sz.cells.toList.all cellV = true) (hc : fillA (fun i => some (i * size, size)) z (ps.map fun p => (p.1, ρ p.2)) = some cs) : EvQ P ⟨dst, .build t ps.toArray, ty, pos, af, gu⟩ ρ σ (.agg cs) :=
  ⟨fun c => by simp, fun g ρv hh _ => by
    obtain ⟨out, h1, h2⟩ := fill_ok (g := g) (ps.map fun p => (p.1, ρ p.2)) (ps.map fun p => (p.1, ρv p.2)) z sz.cells cs (cells_zero g sz hz) (by simp) (fun i p v hp hv => by
      simp only [List.getElem?_map, Option.map_eq_some_iff] at hp hv
      obtain ⟨q, hq, rfl⟩ := hp
      obtain ⟨q', hq', rfl⟩ := hv
      rw [hq] at hq'
      cases hq'
      refine ⟨rfl, hh q.2 ?_⟩
      simp only [Op.operands]
      simp only [List.mem_toArray, List.mem_map]
      exact ⟨q, List.mem_of_getElem? hq, rfl⟩) hc
    refine ⟨.agg out, ?_, .agg h2.n h2.c h2.r⟩
    show Sem.run P (do let v ← Instr.build t (ps.toArray.map fun (i, x) => (i, ρv x)); pure (Next.value v)) g.w = _
    simp only [Instr.build, underlying, program, Sem.run_bind, Sem.run, ht.u, ht.zeroValue, Result.andThen_ok, Sem.run_pure, he.sizeOf]
    have e1 : (ps.toArray.map fun (x : Nat × Operand) => (x.1, ρv x.2)).toList = ps.map fun p => (p.1, ρv p.2) := by simp
    simp only [e1, h1]
    rfl⟩
/-- an element of an array: one cell -/
theorem ev_aidx {α : Type} {f : α → List PV} {L : List α} {a : α} {p : PV} (hx : ρ x = .agg (L.flatMap fun a => (f a).map AV.pv)) (hy : ρ y = .pv (.b (.int k n))) (ht : TyOk P t ss sb sz (.array len e)) (he : TyOk P e 1 bytes zero d) (hd : dAgg d = false)
    (hl : L.length = len) (hz : ∀ a, (f a).length = 1) (hi : idx L n = some a) (hp : f a = [p]) : EvQ P ⟨dst, .index t x y, ty, pos, af, gu⟩ ρ σ (.pv p) :=
  ⟨fun c => by simp, fun g ρv h _ => by
    obtain ⟨h1, h2⟩ := ops2 (o := ⟨dst, .index t x y, ty, pos, af, gu⟩) (x := x) (y := y) rfl h
    rw [hx] at h1
    rw [hy] at h2
    have e2 := rel_b h2
    obtain ⟨h0, hc⟩ := idx_spec hi
    have hlt : n.toNat < L.length := (List.getElem?_eq_some_iff.1 hc).1
    generalize hv : ρv x = v at h1
    cases h1 with
    | @agg _ vs hn hcv hr =>
      have hg := flatMap_get hz L n.toNat 0 a p hc (by rw [hp]; rfl)
      simp only [Nat.mul_one, Nat.add_zero] at hg
      have hsz : n.toNat < vs.size := by rw [hn]; exact (List.getElem?_eq_some_iff.1 hg).1
      refine ⟨vs.getD n.toNat undef, ?_, hr _ _ hg⟩
      simp only [execOp, Instr.index, hv, e2, asIntOf, underlying, program, Sem.run_bind, Sem.run, ht.u, Result.andThen_ok, Sem.run_pure, he.sizeOf, Nat.mul_one]
      rw [if_pos ⟨h0, by omega⟩]
      simp only [Sem.run_bind, he.sizeOf, Result.andThen_ok, Nat.mul_one, part_one he hd hsz]
      done⟩
/-- an element of an array: a struct -/
theorem ev_aidxN {α : Type} {f : α → List PV} {L : List α} {a : α} (hx : ρ x = .agg (L.flatMap fun a => (f a).map AV.pv)) (hy : ρ y = .pv (.b (.int k n))) (ht : TyOk P t ss sb sz (.array len e)) (he : TyOk P e size bytes zero d) (hd : dAgg d = true)
    (hl : L.length = len) (hz : ∀ a, (f a).length = size) (hi : idx L n = some a) : EvQ P ⟨dst, .index t x y, ty, pos, af, gu⟩ ρ σ (.agg ((f a).map .pv)) :=
  ⟨fun c => by simp, fun g ρv h _ => by
    obtain ⟨h1, h2⟩ := ops2 (o := ⟨dst, .index t x y, ty, pos, af, gu⟩) (x := x) (y := y) rfl h
    rw [hx] at h1
    rw [hy] at h2
    have e2 := rel_b h2
    obtain ⟨h0, hc⟩ := idx_spec hi
    have hlt : n.toNat < L.length := (List.getElem?_eq_some_iff.1 hc).1
    generalize hv : ρv x = v at h1
    cases h1 with
    | @agg _ vs hn hcv hr =>
      have hsz : n.toNat * size + size ≤ vs.size := by
        rw [hn, flatMap_len hz]
        have := Nat.mul_le_mul_right size (show n.toNat + 1 ≤ L.length by omega)
        rw [Nat.add_mul, Nat.one_mul] at this
        exact this
      have hex : (vs.extract (n.toNat * size) (n.toNat * size + size)).size = size := by simp; omega
      have hget : ∀ j, j < size → (vs.extract (n.toNat * size) (n.toNat * size + size)).getD j undef = vs.getD (n.toNat * size + j) undef := by
        intro j hj
        rw [Array.getD_eq_getD_getElem?, Array.getD_eq_getD_getElem?, Array.getElem?_extract]
        rw [if_pos (by omega)]
      refine ⟨.agg (vs.extract (n.toNat * size) (n.toNat * size + size)), ?_, .agg (by rw [hex]; simp [hz]) (fun j hj => ?_) (fun j c hj => ?_)⟩
      · simp only [execOp, Instr.index, hv, e2, asIntOf, underlying, program, Sem.run_bind, Sem.run, ht.u, Result.andThen_ok, Sem.run_pure, he.sizeOf]
        rw [if_pos ⟨h0, by omega⟩]
        simp only [part, Sem.run_bind, he.sizeOf, he.isAgg, Result.andThen_ok, hd, if_true, Sem.run_pure]
      · rw [hex] at hj
        rw [hget j hj]
        exact hcv _ (by omega)
      · simp only [List.getElem?_map, Option.map_eq_some_iff] at hj
        obtain ⟨p, hp, rfl⟩ := hj
        have hjs : j < size := by have := (List.getElem?_eq_some_iff.1 hp).1; rw [hz] at this; exact this
        rw [hget j hjs]
        exact hr _ _ (flatMap_get hz L n.toNat j a p hc hp)⟩
end
end Go.Proofs.Ytpclhpncmlbccaa

/- Interface values by whether they hold something: comparisons with nil. No program is named. -/
namespace Go.Proofs.Ytpclhpncmlbccaa
open Go.RowKit
variable {P : Program} {ρ : Operand → AV} {σ : Sto} {dst : Option Tmp} {ty : TypeId} {pos : String} {af : Array Edge} {gu : Option (Nat × Bool)}
theorem rel_ifc {g : G} {b : Bool} {v : Value} (h : Rel g (.ifc b) v) : (b = false ∧ v = .nilIface) ∨ (b = true ∧ ∃ t x, v = .iface t x) := by
  cases h with
  | ifc h =>
    cases v with
    | nilIface => exact .inl ⟨by simpa [ifcV] using h.symm, rfl⟩
    | iface t x => exact .inr ⟨by simpa [ifcV] using h.symm, t, x, rfl⟩
    | _ => cases h
theorem eq_ifc {ms : Array (String × TypeId)} {t : TypeId} {v : Value} {b : Bool} (ht : P.underlying t = some (.interface ms)) (h : (b = false ∧ v = .nilIface) ∨ (b = true ∧ ∃ t x, v = .iface t x)) : EqOk P t v .nilIface (!b) := ⟨fun d w => by
  unfold Op.equalIn
  rcases h with ⟨rfl, rfl⟩ | ⟨rfl, t1, x1, rfl⟩ <;> simp only [Sem.run_bind, underlying, program, Sem.run, ht, Result.andThen_ok, Sem.run_pure, Bool.not_false, Bool.not_true]⟩
theorem guard_ifc {op : BinOp} {t : TypeId} {x : Operand} {v : Value} {b : Bool} (h : (b = false ∧ v = .nilIface) ∨ (b = true ∧ ∃ t x, v = .iface t x)) : eqGuard op t x (.const .nilIface) v .nilIface = pure () := by
  rcases h with ⟨rfl, rfl⟩ | ⟨rfl, t1, x1, rfl⟩
  · cases op <;> cases x <;> rfl
  · cases op <;> rfl
theorem ev_ifeql {t t' : TypeId} {x : Operand} {b : Bool} {ss sb : Nat} {sz : Value} {ms : Array (String × TypeId)} (hx : ρ x = .ifc b) (hy : ρ (.const .nilIface) = .pv (.b .nilIface)) (ht : TyOk P t ss sb sz (.interface ms)) : EvQ P ⟨dst, .binOp .eql t x (.const .nilIface) t', ty, pos, af, gu⟩ ρ σ (.bo (!b)) :=
  ⟨fun c => by simp, fun g ρv h _ => by
    obtain ⟨h1, h2⟩ := ops2 (o := ⟨dst, .binOp .eql t x (.const .nilIface) t', ty, pos, af, gu⟩) (x := x) (y := .const .nilIface) rfl h
    rw [hx] at h1
    rw [hy] at h2
    have e2 := rel_b h2
    have hi := rel_ifc h1
    refine ⟨.bool (!b), ?_, .pv (.b rfl)⟩
    show Sem.run P (do let v ← (do eqGuard .eql t x (.const .nilIface) (ρv x) (ρv (.const .nilIface)); binOp .eql t (ρv x) (ρv (.const .nilIface))); pure (Next.value v)) g.w = _
    rw [e2, guard_ifc hi]
    have he : Sem.run P (Op.equal t (ρv x) .nilIface) g.w = .ok (!b) g.w := (eq_ifc ht.u hi).run 9999 g.w
    generalize ρv x = v at *
    rcases hi with ⟨rfl, rfl⟩ | ⟨rfl, t1, x1, rfl⟩ <;> simp [binOp, Sem.run_bind, he, Sem.run_pure]⟩
theorem ev_ifneq {t t' : TypeId} {x : Operand} {b : Bool} {ss sb : Nat} {sz : Value} {ms : Array (String × TypeId)} (hx : ρ x = .ifc b) (hy : ρ (.const .nilIface) = .pv (.b .nilIface)) (ht : TyOk P t ss sb sz (.interface ms)) : EvQ P ⟨dst, .binOp .neq t x (.const .nilIface) t', ty, pos, af, gu⟩ ρ σ (.bo b) :=
  ⟨fun c => by simp, fun g ρv h _ => by
    obtain ⟨h1, h2⟩ := ops2 (o := ⟨dst, .binOp .neq t x (.const .nilIface) t', ty, pos, af, gu⟩) (x := x) (y := .const .nilIface) rfl h
    rw [hx] at h1
    rw [hy] at h2
    have e2 := rel_b h2
    have hi := rel_ifc h1
    refine ⟨.bool b, ?_, .pv (.b rfl)⟩
    show Sem.run P (do let v ← (do eqGuard .neq t x (.const .nilIface) (ρv x) (ρv (.const .nilIface)); binOp .neq t (ρv x) (ρv (.const .nilIface))); pure (Next.value v)) g.w = _
    rw [e2, guard_ifc hi]
    have he : Sem.run P (Op.equal t (ρv x) .nilIface) g.w = .ok (!b) g.w := (eq_ifc ht.u hi).run 9999 g.w
    generalize ρv x = v at *
    rcases hi with ⟨rfl, rfl⟩ | ⟨rfl, t1, x1, rfl⟩ <;> simp [binOp, Sem.run_bind, he, Sem.run_pure]⟩
end Go.Proofs.Ytpclhpncmlbccaa

/- Variables that are written no more are published with their cells; calls of function values by contract. No program is named. -/
namespace Go.Proofs.Ytpclhpncmlbccaa
open Go.RowKit
mutual
/-- a pointer to the object o is one to published cells -/
def AV.epS (o : Nat) (cs : List PV) : AV → AV
  | .ptr o' off => bif Nat.beq o' o then (bif Nat.ble off cs.length then .ep (cs.drop off) else .any) else .ptr o' off
  | .agg l => .agg (AV.epL o cs l)
  | .tup l => .tup (AV.epL o cs l)
  | .fn f a c => .fn f (AV.epL o cs a) (AV.epL o cs c)
  | .ls o' => bif Nat.beq o' o then .any else .ls o'
  | c => c
def AV.epL (o : Nat) (cs : List PV) : List AV → List AV
  | [] => []
  | c :: l => c.epS o cs :: AV.epL o cs l
end
theorem AV.epL_eq (o : Nat) (cs : List PV) (l : List AV) : AV.epL o cs l = l.map (AV.epS o cs) := by
  induction l with
  | nil => rfl
  | cons c l ih => unfold AV.epL; rw [ih]; rfl
def Fr.epS (o : Nat) (cs : List PV) : Fr → Fr
  | [] => []
  | (k, c) :: r => (k, c.epS o cs) :: Fr.epS o cs r
theorem Fr.get_epS (o : Nat) (cs : List PV) (fr : Fr) (d : Nat) : (fr.epS o cs).get d = (fr.get d).epS o cs := by
  induction fr with
  | nil => simp [Fr.epS, Fr.get, AV.epS]
  | cons x r ih =>
    obtain ⟨k, c⟩ := x
    unfold Fr.epS
    rw [Fr.get_cons, Fr.get_cons, ih]
    split <;> rfl
theorem rel_epS {g g' : G} {o b : Nat} {cs : List PV} {vs : Array Value} {t : TypeId} {fz : Nat × Nat} (hl : g.loc o = .blk b) (hb : g.w.heap[b]? = some (.cells vs t fz)) (hn : vs.size = cs.length)
    (hc : ∀ i c, cs[i]? = some c → RelP g.w g.u c (vs.getD i undef)) (hx : Ext g.w g.u g'.w g'.u) (hh : g'.w.heap[b]? = g.w.heap[b]?) (hu : g'.u b = cs.length) (hloc : ∀ k, k ≠ o → g'.loc k = g.loc k)
    {c : AV} {v : Value} (h : Rel g c v) : Rel g' (c.epS o cs) v := by
  induction h with
  | any v => exact .any v
  | pv h => exact .pv (h.mono hx)
  | agg hl2 hc2 h ih =>
    unfold AV.epS; rw [AV.epL_eq]
    refine .agg (by simp [hl2]) hc2 fun i c hi => ?_
    simp only [List.getElem?_map, Option.map_eq_some_iff] at hi
    obtain ⟨c', h1, rfl⟩ := hi
    exact ih i c' h1
  | tup hl2 h ih =>
    unfold AV.epS; rw [AV.epL_eq]
    refine .tup (by simp [hl2]) fun i c hi => ?_
    simp only [List.getElem?_map, Option.map_eq_some_iff] at hi
    obtain ⟨c', h1, rfl⟩ := hi
    exact ih i c' h1
  | @ptr o' off b' h1 =>
    unfold AV.epS
    cases hbq : Nat.beq o' o with
    | false =>
      have hk : o' ≠ o := fun e => by rw [e] at hbq; simp at hbq
      rw [cond_false]; exact .ptr ((hloc o' hk).trans h1)
    | true =>
      have hk : o' = o := Nat.eq_of_beq_eq_true hbq
      subst hk
      rw [hl] at h1
      cases h1
      rw [cond_true]
      cases hle : Nat.ble off cs.length with
      | false => exact .any _
      | true =>
        have hle := Nat.le_of_ble_eq_true hle
        rw [cond_true]
        refine .ep (fun i => vs.getD (off + i) undef) (by rw [hu]; simp; omega) ?_ (fun i hi => ?_) (fun i c hi => ?_)
        · have := blk_lt hb
          have := hx.size
          omega
        · have hi' : off + i < vs.size := by simp at hi; omega
          simp only [World.cell?, hh, hb]
          simp [Array.getD, hi']
        · rw [List.getElem?_drop] at hi
          exact (hc _ c hi).mono hx
  | ep val h1 h2 h3 h4 => exact (Rel.ep (g := g) val h1 h2 h3 h4).mono hx (fun o' ho' => by cases ho')
  | @hsNil r a h1 =>
    by_cases hk : r = o
    · subst hk; rw [hl] at h1; cases h1
    · exact .hsNil a ((hloc r hk).trans h1)
  | @hs r b1 off cap size n a h1 h2 =>
    by_cases hk : r = o
    · subst hk; rw [hl] at h1; cases h1
    · exact .hs ((hloc r hk).trans h1) h2
  | @hp r idx j b1 off cap size n h1 h2 =>
    by_cases hk : r = o
    · subst hk; rw [hl] at h1; cases h1
    · exact .hp ((hloc r hk).trans h1) h2
  | @fn f first captured fv cv h1 h2 hf hc2 ihf ihc =>
    unfold AV.epS; rw [AV.epL_eq, AV.epL_eq]
    refine .fn (by simp [h1]) (by simp [h2]) (fun i c hi => ?_) (fun i c hi => ?_)
    · simp only [List.getElem?_map, Option.map_eq_some_iff] at hi
      obtain ⟨c', h3, rfl⟩ := hi
      exact ihf i c' h3
    · simp only [List.getElem?_map, Option.map_eq_some_iff] at hi
      obtain ⟨c', h3, rfl⟩ := hi
      exact ihc i c' h3
  | @mp o' b1 h1 =>
    by_cases hk : o' = o
    · subst hk; rw [hl] at h1; cases h1
    · exact .mp ((hloc o' hk).trans h1)
  | @hsubNil r lo a h1 =>
    by_cases hk : r = o
    · subst hk; rw [hl] at h1; cases h1
    · exact .hsubNil a ((hloc r hk).trans h1)
  | @hsub r lo b1 off cap size n a h1 h2 h3 =>
    by_cases hk : r = o
    · subst hk; rw [hl] at h1; cases h1
    · exact .hsub ((hloc r hk).trans h1) h2 h3
  | z0 a => exact .z0 a
  | ifc h => exact .ifc h
  | @hpreNil r a h1 =>
    by_cases hk : r = o
    · subst hk; rw [hl] at h1; cases h1
    · exact .hpreNil a ((hloc r hk).trans h1)
  | @hpre r hi b1 off cap size n a h1 h2 h3 =>
    by_cases hk : r = o
    · subst hk; rw [hl] at h1; cases h1
    · exact .hpre ((hloc r hk).trans h1) h2 h3
  | @nsNil r a h1 =>
    by_cases hk : r = o
    · subst hk; rw [hl] at h1; cases h1
    · exact .nsNil a ((hloc r hk).trans h1)
  | @ns r b1 off cap size n size2 subs a h1 h2 =>
    by_cases hk : r = o
    · subst hk; rw [hl] at h1; cases h1
    · exact .ns ((hloc r hk).trans h1) h2
  | @np r idx j b1 off cap size n size2 subs h1 h2 =>
    by_cases hk : r = o
    · subst hk; rw [hl] at h1; cases h1
    · exact .np ((hloc r hk).trans h1) h2
  | @hnNil r idx b1 off cap size n size2 subs a cap2 h1 h2 =>
    by_cases hk : r = o
    · subst hk; rw [hl] at h1; cases h1
    · exact .hnNil a cap2 ((hloc r hk).trans h1) h2
  | @hn r idx b1 off cap size n size2 b2 off2 cap2 n2 subs h1 h2 =>
    by_cases hk : r = o
    · subst hk; rw [hl] at h1; cases h1
    · exact .hn ((hloc r hk).trans h1) h2
  | @hnp r idx k j b1 off cap size n size2 b2 off2 cap2 n2 subs h1 h2 h3 =>
    by_cases hk : r = o
    · subst hk; rw [hl] at h1; cases h1
    · exact .hnp ((hloc r hk).trans h1) h2 h3
  | nn h => exact .nn h
  | @ls r b1 h1 =>
    unfold AV.epS
    cases hbq : Nat.beq r o with
    | true => exact .any _
    | false =>
      have hk : r ≠ o := fun e => by rw [e] at hbq; simp at hbq
      exact .ls ((hloc r hk).trans h1)
  | @mr r b1 subs h1 =>
    by_cases hk : r = o
    · subst hk; rw [hl] at h1; cases h1
    · exact .mr ((hloc r hk).trans h1)
variable {P : Program} {σ : Sto} {dst : Option Tmp} {ty : TypeId} {pos : String} {af : Array Edge} {gu : Option (Nat × Bool)} {E : Env} {fr : Fr} {K : Post}
theorem St.pubbox {g : G} {a : Act} {o : Nat} {cs : List PV} (h : St E g a fr σ) (ho : σ.get o = some (.cells (cs.map .pv))) (hd : (σ.del o).has o = false) : ∃ g', g'.w = g.w ∧ St E g' a (fr.epS o cs) (σ.del o) := by
  have hob := h.so.obj o _ ho
  generalize hls : cs.map AV.pv = ls at hob
  cases hob with
  | @cells _ b t vs hl hb hn hu hcv hrel =>
    subst hls
    have hbl := blk_lt hb
    have hx : Ext g.w g.u g.w (fun k => if k = b then cs.length else g.u k) := ⟨Nat.le_refl _, fun k _ => by split <;> simp_all, fun _ _ _ _ => rfl, fun _ h => h⟩
    have hsub : ∀ o' ob b', σ.get o' = some ob → ob.own (g.loc o') b' → o' ≠ o → b' ≠ b := by
      rintro o' ob b' ho' hb' hne rfl
      exact hne (h.so.apart o' o ob _ b' ho' ho hb' (by rw [hl]; rfl))
    have hget : ∀ o' ob, (σ.del o).get o' = some ob → o' ≠ o ∧ σ.get o' = some ob := by
      intro o' ob h1
      rw [Sto.get_del] at h1
      split at h1
      · cases h1
      · rename_i h2; exact ⟨h2, h1⟩
    have hcells : ∀ i c, cs[i]? = some c → RelP g.w g.u c (vs.getD i undef) := fun i c hi => by
      have := hrel i (.pv c) (by simp [hi])
      cases this with
      | pv h => exact h
    refine ⟨⟨g.w, fun k => if k = b then cs.length else g.u k, g.loc⟩, rfl, ⟨fun d => ?_, h.n, h.df, ⟨?_, ?_, ?_, ?_, ?_⟩⟩⟩
    · rw [Fr.get_epS]
      exact rel_epS (g' := ⟨g.w, fun k => if k = b then cs.length else g.u k, g.loc⟩) hl hb (by simpa using hn) hcells hx rfl (if_pos rfl) (fun _ _ => rfl) (h.fr d)
    · intro o' ob h1
      obtain ⟨h2, h3⟩ := hget o' ob h1
      exact (h.so.obj o' ob h3).mono hx rfl (fun _ _ => rfl) fun b' hb' => ⟨rfl, if_neg (hsub o' ob b' h3 hb' h2)⟩
    · intro o1 o2 ob1 ob2 b1 h1 h2
      exact h.so.apart o1 o2 ob1 ob2 b1 (hget o1 ob1 h1).2 (hget o2 ob2 h2).2
    · intro o1 ob1 b1 h1
      exact h.so.mine o1 ob1 b1 (hget o1 ob1 h1).2
    · refine h.so.old.trans ⟨rfl, rfl, rfl, hx, fun k hk hs => ⟨rfl, if_neg ?_⟩⟩
      rintro rfl
      rcases h.so.mine o _ k ho (by rw [hl]; rfl) with h1 | h1
      · exact hs (.inr h1)
      · exact hs (.inl h1)
    · intro k hk
      show (if k = b then cs.length else g.u k) = 0
      rw [if_neg (by have : g.w.heap.size ≤ k := hk; omega)]
      exact h.so.wf k hk
theorem awpl_pubbox {ops : Array Oper} {ol : List Oper} (o : Nat) {cs : List PV} (ho : σ.get o = some (.cells (cs.map .pv))) (hd : (σ.del o).has o = false) (h : AWPL E ops ol (fr.epS o cs) (σ.del o) K) : AWPL E ops ol fr σ K :=
  ⟨fun g a hst => by
    obtain ⟨g', hw, hst'⟩ := hst.pubbox ho hd
    have := h.go g' a hst'
    rw [hw] at this
    exact this⟩
theorem awp_pubbox {c : Code} (o : Nat) {cs : List PV} (ho : σ.get o = some (.cells (cs.map .pv))) (hd : (σ.del o).has o = false) (h : AWP E c (fr.epS o cs) (σ.del o) K) : AWP E c fr σ K :=
  ⟨fun g a hst => by
    obtain ⟨g', hw, hst'⟩ := hst.pubbox ho hd
    have := h.go g' a hst'
    rw [hw] at this
    exact this⟩
/-- a function value is called by its function's contract -/
theorem opG_callV {f : FuncId} {fx : Operand} {xs : List Operand} {ats : Array TypeId} {args cap : List AV} {r : AV} (hfx : fr.ev fx = .fn (.func f) [] cap) (hr : Run E.P f args r) (ha : xs.map (fun x => (fr.ev x).weak) ++ cap = args) :
    OpG E ⟨dst, .call ⟨.value fx, xs.toArray, ats⟩, ty, pos, af, gu⟩ fr σ r :=
  ⟨fun g a K Q hx hs hK => by
    obtain ⟨fn, c, hok⟩ := hr.ok
    have hfv : Rel g (.fn (.func f) [] cap) (a.eval fx) := by rw [← hfx]; exact hx fx (by simp [Op.operands, Call.operands])
    generalize hv : a.eval fx = fv at hfv
    cases hfv with
    | @fn _ _ _ v1 v2 h1 h2 hf hc =>
      have e1 : v1 = #[] := Array.eq_empty_of_size_eq_zero h1
      subst e1
      refine ⟨fun _ _ => trivial, ?_⟩
      rw [Oper.semAt_plain _ _ _ (fun c => by simp), run_call_op hok hv, Oper.uponIn_enter]
      refine ⟨fun h => by simp [fen] at h, ?_⟩
      have hargs : RelArgs g args (#[] ++ xs.toArray.map a.eval ++ v2) := by
        subst ha
        refine ⟨by simp [h2], fun i c hi => ?_⟩
        by_cases hlt : i < xs.length
        · rw [List.getElem?_append_left (by simpa using hlt)] at hi
          simp only [List.getElem?_map, Option.map_eq_some_iff] at hi
          obtain ⟨x, hx', rfl⟩ := hi
          have := rel_weak (hx x (by simp [Op.operands, Call.operands]; exact .inr (List.mem_of_getElem? hx')))
          rw [Array.getD_eq_getD_getElem?, Array.getElem?_append_left (by simpa using hlt)]
          simpa [hx'] using this
        · rw [List.getElem?_append_right (by simpa using hlt)] at hi
          have := hc _ c hi
          rw [Array.getD_eq_getD_getElem?, Array.getElem?_append_right (by simpa using hlt), ← Array.getD_eq_getD_getElem?]
          simpa using this
      refine (callsIn_fen (hr.run g _ hs.wf (E.glOf hs) hargs)).mono ?_
      rintro e w' ⟨g', v, rfl, hl, ho, hw, rfl, hv⟩
      exact hK g' v ho hw hl hv⟩
theorem flatMap_one {α : Type} {F : α → List PV} (hF : ∀ y, (F y).length = 1) : ∀ (l : List α) (i : Nat), (l.flatMap F)[i]? = (l[i]?).bind fun y => (F y)[0]?
  | [], i => by simp
  | y :: l, i => by
    obtain ⟨c, hc⟩ := List.length_eq_one_iff.1 (hF y)
    rw [List.flatMap_cons, hc]
    cases i with
    | zero => simp [hc]
    | succ i => simpa using flatMap_one hF l i
/-- an array that is published, as a slice -/
theorem ev_sliceArr {ρ : Operand → AV} {α : Type} {F : α → List PV} {l : List α} {x : Operand} {t e : TypeId} {cells : List PV} {n ss sb bytes : Nat} {sz zero : Value} {d : TypeDesc} (hx : ρ x = .ep cells) (hc : cells = l.flatMap F) (hF : ∀ y, (F y).length = 1) (hn : l.length = n)
    (ht : TyOk P t ss sb sz (.array n e)) (he : TyOk P e 1 bytes zero d) : EvQ P ⟨dst, .slice t x none none none, ty, pos, af, gu⟩ ρ σ (.l F l) :=
  ⟨fun c => by simp, fun g ρv h _ => by
    have h1 := h x (by simp [Op.operands])
    rw [hx] at h1
    generalize hv : ρv x = v at h1
    cases h1 with
    | @ep _ b off val hu hb hcell hrel =>
      have hlen : cells.length = l.length := by
        rw [hc]
        clear hc hn hx
        induction l with
        | nil => rfl
        | cons y l ih => rw [List.flatMap_cons, List.length_append, hF, ih, List.length_cons]; omega
      refine ⟨.slice (some ⟨b, off, none⟩) n n, ?_, ?_⟩
      · show Sem.run P (do let v ← Instr.sliceAt t (ρv x) none none none; pure (Next.value v)) g.w = _
        rw [hv]
        have hs : Sem.run P (Instr.sliceAt t (.pointer (some ⟨b, off, none⟩)) none none none) g.w = .ok (.slice (some ⟨b, off, none⟩) n n) g.w := by
          unfold Instr.sliceAt
          simp only [Sem.run_bind, underlying, program, Sem.run, ht.u, Result.andThen_ok, Sem.run_pure]
          by_cases h0 : n = 0
          · subst h0
            simp [Instr.sureAddr, Instr.sliceBounds, he.sizeOf]
          · simp [Instr.sureAddr, Instr.sliceBounds, he.sizeOf, Addr.add, h0]
        rw [Sem.run_bind, hs]; rfl
      · refine .pv ?_
        have := RelP.sl (w := g.w) (u := g.u) (nl := none) (elems := l.map F) (a := some ⟨b, off, none⟩) (cap := n) 1 b off val (fun x hx => by cases hx) (fun hx => by cases hx) (by simp [hn]) (fun x' hx' => by obtain ⟨y', hy', rfl⟩ := List.mem_map.1 hx'; exact hF y') (fun _ => rfl) (fun _ => ⟨by simp; omega, hb⟩)
          (fun i hi => hcell i (by simp at hi; omega)) (fun i j e c hi hj => by
            simp only [List.getElem?_map, Option.map_eq_some_iff] at hi
            obtain ⟨y, hy, rfl⟩ := hi
            have hj0 : j = 0 := by
              have := (List.getElem?_eq_some_iff.1 hj).1
              rw [hF] at this; omega
            subst hj0
            rw [Nat.mul_one, Nat.add_zero]
            refine hrel i c ?_
            rw [hc, flatMap_one hF, hy]
            exact hj)
        rw [List.length_map, hn] at this
        exact this⟩
end Go.Proofs.Ytpclhpncmlbccaa

/- From a law's arguments, as they are read, to the calculus: openers; from a contract to the row's end. -/
namespace Go.Proofs.Ytpclhpncmlbccaa
open Go.ChangeShapes Go.WideShapes Go.ChangeAt Go.RowKit

/-- every cell that is there is published -/
def uAll (W : World) (k : Nat) : Nat := match W.heap[k]? with
  | some (.cells vs _ _) => vs.size
  | _ => 0
theorem uAll_lt {W : World} {b i : Nat} {v : Value} (h : W.cell? ⟨b, i, none⟩ = some v) : i < uAll W b ∧ b < W.heap.size := by
  unfold World.cell? at h
  simp only [Option.isSome_none, Bool.false_eq_true, if_false] at h
  split at h
  · rename_i c t z hb
    refine ⟨?_, (Array.getElem?_eq_some_iff.1 hb).1⟩
    unfold uAll
    rw [hb]
    exact (Array.getElem?_eq_some_iff.1 h).1
  · cases h
def gAll (W : World) : G := ⟨W, uAll W, fun _ => .none⟩
theorem wf_all (W : World) : Wf (gAll W) := fun k hk => by
  show uAll W k = 0
  unfold uAll
  have : W.heap[k]? = none := Array.getElem?_eq_none hk
  rw [this]

/-- cells and what they hold -/
structure RelC (W : World) (ps : List PV) (cs : List Value) : Prop where
  len : cs.length = ps.length
  rel : ∀ (i : Nat) (c : PV), ps[i]? = some c → RelP W (uAll W) c (cs.getD i undef)
theorem relC_one {W : World} {p : PV} {v : Value} (h : RelP W (uAll W) p v) : RelC W [p] [v] := ⟨rfl, fun i c hi => by
  cases i with
  | zero => simp at hi; subst hi; exact h
  | succ i => simp at hi⟩
theorem relC_append {W : World} {p1 p2 : List PV} {cs : List Value} {n : Nat} (hn : n = p1.length) (h1 : RelC W p1 (cs.take n)) (h2 : RelC W p2 (cs.drop n)) : RelC W (p1 ++ p2) cs := by
  subst hn
  have l1 := h1.len
  have l2 := h2.len
  simp at l1 l2
  refine ⟨by simp; omega, fun i c hi => ?_⟩
  rcases Nat.lt_or_ge i p1.length with hlt | hge
  · rw [List.getElem?_append_left hlt] at hi
    have := h1.rel i c hi
    simpa [List.getD_eq_getElem?_getD, List.getElem?_take, hlt] using this
  · rw [List.getElem?_append_right hge] at hi
    have := h2.rel _ c hi
    simp only [List.getD_eq_getElem?_getD, List.getElem?_drop] at this ⊢
    rwa [show p1.length + (i - p1.length) = i by omega] at this

/-- **how a type's values are read**: as T's; ok: what is known of them; bk: they are no bulkier than what was read -/
structure Opens (P : Program) (t : TypeId) {T : Type} (n : Nat) (pc : T → List PV) (ok : T → Prop) (bk : T → Nat) : Prop where
  cells : P.cellsOf t = n
  len : ∀ x, (pc x).length = n
  op : ∀ {H : Type} {enc : TypeId × Value → H} {W : World} {fuel : Nat} {cs : List Value} {d : DataW H × List MemPlace}, DataW.trod enc P W 0 (fun _ => true) true fuel t cs = some d →
    ∃ x : T, RelC W (pc x) cs ∧ ok x ∧ bk x ≤ Rows.uptoBulk d.1

def ok64 (n : Int) : Prop := -9223372036854775808 ≤ n ∧ n ≤ 9223372036854775807
def okStr (s : Str) : Prop := s.length ≤ maxLen
def okL {T : Type} (ok : T → Prop) (l : List T) : Prop := l.length ≤ maxLen ∧ ∀ x ∈ l, ok x
def bkL {T : Type} (bk : T → Nat) : List T → Nat
  | [] => 1
  | x :: r => bk x + bkL bk r

variable {P : Program} {t e : TypeId}
theorem opens_I (ht : P.underlying t = some (.int .i64)) (hc : P.cellsOf t = 1) : Opens P t 1 cI ok64 (fun _ => 1) := ⟨hc, fun _ => rfl, fun h => by
  obtain ⟨n, rfl, rfl, hw⟩ := DataW.trod_int ht h
  refine ⟨n, relC_one (.b rfl), ?_, by simp [Rows.uptoBulk]⟩
  unfold ok64
  simpa [Lit.wf, IntKind.min, IntKind.max, IntKind.signed, IntKind.bits] using hw⟩
theorem opens_U (ht : P.underlying t = some (.int .u8)) (hc : P.cellsOf t = 1) : Opens P t 1 cU (fun _ => True) (fun _ => 1) := ⟨hc, fun _ => rfl, fun {H enc W fuel cs d} h => by
  obtain ⟨n, rfl, rfl, hw⟩ := DataW.trod_int ht h
  have hw : 0 ≤ n ∧ n ≤ 255 := by simpa [Lit.wf, IntKind.min, IntKind.max, IntKind.signed, IntKind.bits] using hw
  refine ⟨UInt8.ofNat n.toNat, relC_one ?_, trivial, by simp [Rows.uptoBulk]⟩
  have : ((UInt8.ofNat n.toNat).toNat : Int) = n := by
    rw [UInt8.toNat_ofNat']
    omega
  show RelP W (uAll W) (.b (.int .u8 _)) _
  rw [this]
  exact .b rfl⟩
theorem opens_B (ht : P.underlying t = some .bool) (hc : P.cellsOf t = 1) : Opens P t 1 cB (fun _ => True) (fun _ => 1) := ⟨hc, fun _ => rfl, fun h => by
  obtain ⟨n, rfl, rfl⟩ := DataW.trod_bool ht h
  exact ⟨n, relC_one (.b rfl), trivial, by simp [Rows.uptoBulk]⟩⟩
theorem opens_S (ht : P.underlying t = some .string) (hc : P.cellsOf t = 1) : Opens P t 1 cS okStr (fun s => s.length + 1) := ⟨hc, fun _ => rfl, fun {H enc W fuel cs d} h => by
  obtain ⟨s, rfl, rfl, hw⟩ := DataW.trod_string ht h
  refine ⟨s.data.toList, relC_one ?_, ?_, ?_⟩
  · have : strB s.data.toList = s := by cases s; simp [strB]
    show RelP W (uAll W) (.b (.string (strB s.data.toList))) _
    rw [this]; exact .b rfl
  · show s.data.toList.length ≤ maxLen
    have : s.data.toList.length = s.size := by cases s; rfl
    omega
  · simp [Rows.uptoBulk]⟩
theorem bulkAll_append {H : Type} (a b : List (DataW H)) : Rows.uptoBulkAll (a ++ b) = Rows.uptoBulkAll a + Rows.uptoBulkAll b := by
  induction a with
  | nil => simp [Rows.uptoBulkAll]
  | cons x a ih => simp only [List.cons_append, Rows.uptoBulkAll, ih]; omega
theorem bkL_map {T : Type} {H : Type} {bk : T → Nat} (n : Nat) (X : Nat → T) (D : Nat → DataW H) (h : ∀ i, i < n → bk (X i) ≤ Rows.uptoBulk (D i)) : bkL bk ((List.range n).map X) ≤ Rows.uptoBulkAll ((List.range n).map D) + 1 := by
  suffices h' : ∀ l : List Nat, (∀ i ∈ l, i < n) → bkL bk (l.map X) ≤ Rows.uptoBulkAll (l.map D) + 1 from h' _ (fun i hi => List.mem_range.1 hi)
  intro l
  induction l with
  | nil => intro _; simp [bkL]
  | cons i l ih =>
    intro hl
    have h1 := h i (hl i (List.mem_cons_self ..))
    have h2 := ih fun j hj => hl j (List.mem_cons_of_mem _ hj)
    simp only [List.map_cons, bkL, Rows.uptoBulkAll]
    omega
theorem opens_L {T : Type} [Inhabited T] {n : Nat} {pc : T → List PV} {ok : T → Prop} {bk : T → Nat} (h : Opens P e n pc ok bk) (hn : Nat.blt 0 n = true) (ht : P.underlying t = some (.slice e)) (hc : P.cellsOf t = 1) : Opens P t 1 (cL pc) (okL ok) (bkL bk) := ⟨hc, fun _ => rfl, fun {H enc W fuel cs d} hd => by
  have hn : 0 < n := Nat.le_of_ble_eq_true hn
  rcases Go.Deep.open_slice ht hd with ⟨rfl, rfl⟩ | ⟨a, len, cap, m, n', D, Pl, rfl, hb, hl, hm, hmm, rfl, hx⟩
  · refine ⟨[], relC_one (RelP.sl (a := none) (cap := 0) 1 0 0 (fun _ => undef) (fun x hx => by cases hx) (fun _ => ⟨rfl, rfl⟩) (by simp) (by simp) (by simp) (by simp) (fun i hi => by simp at hi) (fun i j e c hi => by simp at hi)), ⟨Nat.zero_le _, by simp⟩, by simp [bkL, Rows.uptoBulk]⟩
  · simp only [if_true] at hmm
    subst hmm
    obtain ⟨X, hX⟩ := Go.Deep.choose_lt (n := len) (p := fun i (x : T) => ∃ cs', W.cells? 0 (a.add (i * P.cellsOf e)) (P.cellsOf e) = some cs' ∧ RelC W (pc x) cs' ∧ ok x ∧ bk x ≤ Rows.uptoBulk (D i)) (fun i hi => by
      obtain ⟨cs', h1, h2⟩ := hx i (by omega)
      obtain ⟨x, h3, h4, h5⟩ := h.op h2
      exact ⟨x, cs', h1, h3, h4, h5⟩)
    rw [h.cells] at hX
    have hcell : ∀ i j, i < len → j < n → ∃ v, W.cell? (a.add (i * n + j)) = some v ∧ ∀ c, (pc (X i))[j]? = some c → RelP W (uAll W) c v := by
      intro i j hi hj
      obtain ⟨cs', h1, h2, _⟩ := hX i hi
      obtain ⟨_, hlen, hget⟩ := World.cells?_some h1
      have hj' := hget j hj
      have hadd : (a.add (i * n)).add j = a.add (i * n + j) := by
        unfold Addr.add
        by_cases h0 : j = 0
        · simp [h0]
        · by_cases h00 : i * n = 0
          · simp [h0, h00]
          · rw [if_neg h0, if_neg h00, if_neg (by omega)]
            simp [Nat.add_assoc]
      rw [hadd] at hj'
      have hlt : j < cs'.length := by omega
      refine ⟨cs'[j], by rw [hj']; exact List.getElem?_eq_getElem hlt, fun c hc' => ?_⟩
      have := h2.rel j c hc'
      simpa [List.getD_eq_getElem?_getD, List.getElem?_eq_getElem hlt] using this
    by_cases h0 : len = 0
    · subst h0
      refine ⟨[], relC_one (RelP.sl (elems := []) (a := some a) (cap := m) 1 0 0 (fun _ => undef) (fun x hx => by cases hx) (fun hx => by cases hx) (by simp) (by simp) (by simp) (by simp) (fun i hi => by simp at hi) (fun i j e c hi => by simp at hi)), ⟨Nat.zero_le _, by simp⟩, by simp [bkL, Rows.uptoBulk]⟩
    obtain ⟨b, off, spot⟩ := a
    have hspot : spot = none := by
      obtain ⟨v, hv, _⟩ := hcell 0 0 (by omega) hn
      simpa [Addr.add] using World.cell?_spot hv
    subst hspot
    have hadd : ∀ i, (⟨b, off, none⟩ : Addr).add i = ⟨b, off + i, none⟩ := by
      intro i
      unfold Addr.add
      by_cases h0 : i = 0
      · simp [h0]
      · simp [h0]
    simp only [hadd] at hcell
    have hdm : ∀ i j, j < n → (i * n + j) / n = i ∧ (i * n + j) % n = j := by
      intro i j hj
      rw [Nat.mul_comm, Nat.mul_add_div hn, Nat.mul_add_mod]
      exact ⟨by rw [Nat.div_eq_of_lt hj]; rfl, Nat.mod_eq_of_lt hj⟩
    have hcv : ∀ k, k < len * n → ∃ v, W.cell? ⟨b, off + k, none⟩ = some v ∧ ∀ c, (pc (X (k / n)))[k % n]? = some c → RelP W (uAll W) c v := by
      intro k hk
      have h1 : k / n < len := Nat.div_lt_of_lt_mul (by rw [Nat.mul_comm]; exact hk)
      have h2 : k % n < n := Nat.mod_lt _ hn
      have := hcell (k / n) (k % n) h1 h2
      rwa [show k / n * n + k % n = k by rw [Nat.mul_comm]; exact Nat.div_add_mod k n] at this
    obtain ⟨V, hV⟩ := Go.Deep.choose_lt (α := Value) hcv
    refine ⟨(List.range len).map X, ?_, ⟨by simp; omega, ?_⟩, ?_⟩
    · have key : RelP W (uAll W) (.sl none (((List.range len).map X).map pc)) (.slice (some ⟨b, off, none⟩) (((List.range len).map X).map pc).length m) := by
        refine .sl n b off V (fun x hx => by cases hx) (fun hx => by cases hx) (by simpa using hl) (fun e he => ?_) (fun _ => rfl) (fun _ => ?_) (fun i hi => ?_) (fun i j e' c hi hj => ?_)
        · simp only [List.map_map, List.mem_map] at he
          obtain ⟨i, _, rfl⟩ := he
          exact h.len _
        · simp only [List.length_map, List.length_range]
          have hpos : 0 < len * n := Nat.mul_pos (by omega) hn
          obtain ⟨hv, _⟩ := hV (len * n - 1) (by omega)
          obtain ⟨h1, h2⟩ := uAll_lt hv
          exact ⟨by omega, h2⟩
        · exact (hV i (by simpa using hi)).1
        · simp only [List.getElem?_map, List.map_map] at hi
          rw [Option.map_eq_some_iff] at hi
          obtain ⟨i', hi', rfl⟩ := hi
          obtain ⟨hlt, rfl⟩ := List.getElem?_eq_some_iff.1 hi'
          simp only [List.length_range] at hlt
          simp only [List.getElem_range, Function.comp] at hj
          have hjn : j < n := by have := (List.getElem?_eq_some_iff.1 hj).1; rw [h.len] at this; exact this
          have hk : i * n + j < len * n := by
            have := Nat.mul_le_mul_right n (show i + 1 ≤ len from hlt)
            rw [Nat.add_mul] at this
            omega
          have := (hV _ hk).2 c
          rw [(hdm i j hjn).1, (hdm i j hjn).2] at this
          exact this hj
      have hl' : (((List.range len).map X).map pc).length = len := by simp
      rw [hl'] at key
      exact relC_one key
    · intro x hx
      simp only [List.mem_map, List.mem_range] at hx
      obtain ⟨i, hi, rfl⟩ := hx
      obtain ⟨_, _, _, h4, _⟩ := hX i hi
      exact h4
    · have := bkL_map len X D (fun i hi => by obtain ⟨_, _, _, _, h5⟩ := hX i hi; exact h5)
      simp only [Rows.uptoBulk]
      omega⟩

/-- an argument of one cell -/
theorem arg_one {T : Type} {pc : T → List PV} {ok : T → Prop} {bk : T → Nat} (h : Opens P t 1 pc ok bk) {H : Type} {enc : TypeId × Value → H} {W : World} {v : Value} {d : DataW H} {ps : List MemPlace} (hv : cellV v = true) (hd : DataW.Trod enc P W 0 (fun _ => true) true t v d ps) :
    ∃ x, (∀ p, pc x = [p] → Rel (gAll W) (.pv p) v) ∧ ok x ∧ bk x ≤ Rows.uptoBulk d := by
  obtain ⟨fuel, hf⟩ := hd
  obtain ⟨x, h1, h2, h3⟩ := h.op hf
  refine ⟨x, fun p hp => .pv ?_, h2, h3⟩
  have hcs : v.cells.toList = [v] := by cases v <;> first | rfl | cases hv
  rw [hcs, hp] at h1
  have := h1.rel 0 p rfl
  exact this
/-- an argument that is a structure -/
theorem arg_agg {T : Type} {n : Nat} {pc : T → List PV} {ok : T → Prop} {bk : T → Nat} (h : Opens P t n pc ok bk) {H : Type} {enc : TypeId × Value → H} {W : World} {v : Value} {d : DataW H} {ps : List MemPlace} (hv : ∃ cs, v = .agg cs) (hd : DataW.Trod enc P W 0 (fun _ => true) true t v d ps) :
    ∃ x, Rel (gAll W) (.agg ((pc x).map .pv)) v ∧ ok x ∧ bk x ≤ Rows.uptoBulk d := by
  obtain ⟨cs, rfl⟩ := hv
  obtain ⟨fuel, hf⟩ := hd
  obtain ⟨x, h1, h2, h3⟩ := h.op hf
  refine ⟨x, ?_, h2, h3⟩
  have hl := h1.len
  simp only [Value.cells, Array.length_toList] at hl
  have hr : ∀ (i : Nat) (c : PV), (pc x)[i]? = some c → RelP W (uAll W) c (cs.getD i undef) := fun i c hi => by
    have := h1.rel i c hi
    simpa [Value.cells, List.getD_eq_getElem?_getD, Array.getD_eq_getD_getElem?] using this
  refine .agg (by simpa using hl) (fun i hi => ?_) (fun i c hi => ?_)
  · have hlt : i < (pc x).length := by omega
    exact (hr i _ (List.getElem?_eq_getElem hlt)).cellV
  · simp only [List.getElem?_map, Option.map_eq_some_iff] at hi
    obtain ⟨c', hc, rfl⟩ := hi
    exact .pv (hr i c' hc)

/-- **a contract is a law's walk** -/
theorem calls_of_run {f : FuncId} {args : List AV} (h : Run P f args (.pv (pB true))) {W : World} {vs : Array Value} (hgl : Gl (gAll W)) (ha : RelArgs (gAll W) args vs) : Calls P f vs W fun e W' => e = .returned (.bool true) ∧ Below W.heap.size W W' := by
  refine callsIn_wide.1 ((h.run (gAll W) vs (wf_all W) hgl ha).mono ?_)
  rintro e w' ⟨g', v, rfl, hl, ho, hw, rfl, hv⟩
  refine ⟨by rw [rel_bool hv], ⟨ho.os, ho.tape, ho.output, ho.ext.size, fun k hk => (ho.block k hk (by simp)).1⟩⟩

theorem relC_seg {W : World} {p1 p2 : List PV} {cs : List Value} {off n : Nat} (hn : n = p1.length) (h1 : RelC W p1 ((cs.drop off).take n)) (h2 : RelC W p2 (cs.drop (off + n))) : RelC W (p1 ++ p2) (cs.drop off) := relC_append hn h1 (by rw [List.drop_drop]; exact h2)
theorem relC_end {W : World} {cs : List Value} {k : Nat} (h : cs.length = k) : RelC W [] (cs.drop k) := ⟨by simp [h], fun i c hi => by simp at hi⟩
inductive RelL (g : G) : List AV → List Value → Prop
  | nil : RelL g [] []
  | cons {c : AV} {v : Value} {cs : List AV} {vs : List Value} (h : Rel g c v) (r : RelL g cs vs) : RelL g (c :: cs) (v :: vs)
theorem relArgs_of {g : G} {cs : List AV} {vs : List Value} (h : RelL g cs vs) : RelArgs g cs vs.toArray := by
  have key : vs.length = cs.length ∧ ∀ (i : Nat) (c : AV), cs[i]? = some c → Rel g c (vs.getD i undef) := by
    induction h with
    | nil => exact ⟨rfl, fun i c hi => by simp at hi⟩
    | cons h _ ih =>
      refine ⟨by simp [ih.1], fun i c hi => ?_⟩
      cases i with
      | zero => simp at hi; subst hi; exact h
      | succ i => exact ih.2 i c (by simpa using hi)
  exact ⟨by simpa using key.1, fun i c hi => by have := key.2 i c hi; simpa [List.getD_eq_getElem?_getD] using this⟩

end Go.Proofs.Ytpclhpncmlbccaa

/- Small facts that all my walks use: endings, blocks, rows, frames. No program is named. -/
namespace Go.Proofs.Ytpclhpncmlbccaa
open Go.RowKit

theorem ret_bool {a b : Bool} (h : a = b) : Ending.returned (.bool a) = .returned (.bool b) := by rw [h]
theorem ret_int {k : IntKind} {a b : Int} (h : a = b) : Ending.returned (.int k a) = .returned (.int k b) := by rw [h]

theorem take_all {α : Type} (p : α → Bool) (l : List α) (k : Nat) (h : k < l.length) : (l.take (k + 1)).all p = ((l.take k).all p && p l[k]) := by
  rw [List.take_succ_eq_append_getElem h, List.all_append]; simp
theorem all_false {α : Type} (p : α → Bool) (l : List α) (k : Nat) (h : k < l.length) (hp : p l[k] = false) : l.all p = false := by
  rw [List.all_eq_false]; exact ⟨l[k], List.getElem_mem h, by simp [hp]⟩

theorem bcell {W w1 : World} (hb : Below W.heap.size W w1) : (∀ b o, b < W.heap.size → w1.cell? ⟨b, o, none⟩ = W.cell? ⟨b, o, none⟩) ∧ (∀ b o, b < W.heap.size → w1.frozen? ⟨b, o, none⟩ = W.frozen? ⟨b, o, none⟩) :=
  ⟨fun b o h => hb.cell (p := ⟨b, o, none⟩) h, fun b o h => hb.frozen (p := ⟨b, o, none⟩) h⟩


/-- block b is just these cells, none frozen -/
def Blk (w : World) (b : Nat) (t : TypeId) (cs : Array Value) : Prop := w.heap[b]? = some (.cells cs t (0, 0))
theorem Blk.lt {w : World} {b : Nat} {t : TypeId} {cs : Array Value} (h : Blk w b t cs) : b < w.heap.size := by
  rcases Nat.lt_or_ge b w.heap.size with hlt | hge
  · exact hlt
  · unfold Blk at h; rw [Array.getElem?_eq_none hge] at h; cases h
theorem Blk.two {w : World} {b : Nat} {t : TypeId} {x y : Value} (h : Blk w b t #[x, y]) :
    w.cell? ⟨b, 0, none⟩ = some x ∧ w.cell? ⟨b, 1, none⟩ = some y ∧ w.frozen? ⟨b, 0, none⟩ = false ∧ w.frozen? ⟨b, 1, none⟩ = false ∧ b < w.heap.size := by
  refine ⟨?_, ?_, ?_, ?_, h.lt⟩ <;> unfold Blk at h <;> simp [World.cell?, World.frozen?, h]
theorem Blk.new (w : World) (t : TypeId) (cs : Array Value) : Blk (w.alloc (.cells cs t)) w.heap.size t cs := heap_alloc_new w _
theorem Blk.alloc {w : World} {b : Nat} {t : TypeId} {cs : Array Value} (h : Blk w b t cs) (o : Obj) : Blk (w.alloc o) b t cs := (Below.heap_alloc w o b h.lt).trans h
theorem Blk.below {w w' : World} {b : Nat} {t : TypeId} {cs : Array Value} {B : Nat} (h : Blk w b t cs) (hb : Below B w w') (hg : b < B) : Blk w' b t cs := (hb.block b hg).trans h

theorem val_int {k : IntKind} {a b : Int} (h : a = b) : Value.int k a = .int k b := by rw [h]
theorem tup3 {k : IntKind} {a b : Int} {x y : Value} (h : a = b) : Ending.returned (.tuple #[.int k a, x, y]) = .returned (.tuple #[.int k b, x, y]) := by rw [h]
section
variable {w1 w2 : World} {b t : Nat} {cs : Array Value} {o : Obj}
theorem Blk.step_new (hb : Below (w1.alloc (.cells cs t)).heap.size (w1.alloc (.cells cs t)) w2) : Blk w2 w1.heap.size t cs :=
  (Blk.new w1 t cs).below hb (by simp)
theorem Blk.step_old (h : Blk w1 b t cs) (hb : Below (w1.alloc o).heap.size (w1.alloc o) w2) : Blk w2 b t cs :=
  (h.alloc o).below hb (by have := h.lt; simp; omega)
end
theorem below_step {w w1 w2 : World} {o : Obj} (h : Below w.heap.size w w1) (hb : Below (w1.alloc o).heap.size (w1.alloc o) w2) : Below w.heap.size w w2 :=
  (h.alloc h.size o).trans (hb.mono (by have := h.size; simp; omega))
theorem below_trans {w w1 w2 : World} (h : Below w.heap.size w w1) (hb : Below w1.heap.size w1 w2) : Below w.heap.size w w2 :=
  h.trans (hb.mono h.size)

theorem keep2 {W w5 w6 : World} {b : Nat} {x y : Value} (h : w5.cell? ⟨b, 0, none⟩ = some x ∧ w5.cell? ⟨b, 1, none⟩ = some y ∧ Below W.heap.size W w5) (hb : b < W.heap.size) (k : Below w5.heap.size w5 w6) :
    w6.cell? ⟨b, 0, none⟩ = some x ∧ w6.cell? ⟨b, 1, none⟩ = some y ∧ Below W.heap.size W w6 := by
  have hs := h.2.2.size
  exact ⟨(k.cell (p := ⟨b, 0, none⟩) (Nat.lt_of_lt_of_le hb hs)).trans h.1, (k.cell (p := ⟨b, 1, none⟩) (Nat.lt_of_lt_of_le hb hs)).trans h.2.1, below_trans h.2.2 k⟩

/-- a slice of cells, one a value: it holds these values -/
def Row (w : World) (a : Option Addr) (len : Nat) (vs : List Value) : Prop :=
  vs.length = len ∧ (len = 0 ∨ ∃ b off, a = some ⟨b, off, none⟩ ∧ ∀ i v, vs[i]? = some v → w.cell? ⟨b, off + i, none⟩ = some v)


end Go.Proofs.Ytpclhpncmlbccaa

/- What every law's row wants at its end: arguments of any shape read as they did where nothing that was there has turned. -/
namespace Go.Proofs.Ytpclhpncmlbccaa
open Go.ChangeShapes Go.WideShapes Go.ChangeAt Go.RowKit
open Go.ChangeMaps (open_string shut_string)

theorem own : ownKnob Try.prog.godebug = none := by kernel_rfl
theorem laidOut : laidOutB Try.prog = true := by kernel_rfl

theorem trodAll_stays {H : Type} {enc : TypeId × Value → H} {P : Program} (hl : laidOutB P = true) {W W' : World} (hb : Below W.heap.size W W') :
    ∀ (ts : List TypeId) (vs : List Value) (ds : List (DataW H)) (ps : List MemPlace), (ts.all fun t => P.readableRec t && decide (t < P.types.size)) = true →
      DataW.TrodAll enc P W 0 (fun _ => true) true ts vs ds ps → DataW.TrodAll enc P W' 0 (fun b => decide (b < W.heap.size)) true ts vs ds ps
  | [], [], [], _, _, h => h
  | t :: ts, v :: vs, d :: ds, ps, hts, ⟨p, q, h, hs, e⟩ => by
    simp only [List.all_cons, Bool.and_eq_true, decide_eq_true_eq] at hts
    have lt : ∀ x ∈ p, x.block < W.heap.size := by obtain ⟨m, hm⟩ := h; exact DataW.trod_lt m _ _ _ hm
    exact ⟨p, q, Below.trod hl hts.1.1 hts.1.2 h hb lt, trodAll_stays hl hb ts vs ds q hts.2 hs, e⟩

/-- THE POST of a law: it returned true, and nothing that was there has turned. -/
theorem post_true {H : Type} {enc : TypeId × Value → H} {P : Program} {f : Func} {s : ChangeSpec} {t : TypeId} (hl : laidOutB P = true) (hres : f.resultTypes = #[t]) (ht : P.underlying t = some .bool)
    (hts : (f.params.toList.all fun t => P.readableRec t && decide (t < P.types.size)) = true) {W W' : World} {args : Array Value} {ds gs : List (DataW H)} {before : List MemPlace} (hv : s.vars = [])
    (hspec : s.fn H (ds ++ gs) = { results := [.lit (.bool true)], args := ds, vars := [] })
    (hW : DataW.Whole enc P f.params.toList s.vars false W args.toList ds gs before) (hb : Below W.heap.size W W') :
    s.post enc P f false true false false W args (.bool true) W' := by
  have hW' := hW
  obtain ⟨p, q, hA, hV, hbe, hfz, hnd⟩ := hW
  refine ⟨ds, gs, before, [], p, [], hW', ?_, ?_, ?_, ?_, fun h => by cases h⟩
  · rw [hspec, hres]; exact trodAll_mk1 (shut_bool ht _)
  · rw [hspec]; exact trodAll_stays hl hb _ _ _ _ hts hA
  · rw [hspec, hv]; rfl
  · have hq : q = [] := by rw [hv] at hV; cases gs with
      | nil => exact hV
      | cons g gs => exact hV.elim
    refine World.keptBut_mono (fun p hp => ⟨hp, ?_⟩) (hb.frame (· ∈ before))
    rw [hbe, hq, List.append_nil] at hp
    exact .inr (.inl hp)

/-- a slice of integers that came in -/
theorem open_row_int {H : Type} {enc : TypeId × Value → H} {P : Program} {W : World} {base : Nat} {t e : TypeId} {k : IntKind} {v : Value} {d : DataW H} {p : List MemPlace} (ht : P.underlying t = some (.slice e)) (he : P.underlying e = some (.int k)) (hc : P.cellsOf e = 1)
    (hok : Value.okWide P W .any base t v) (h : DataW.Trod enc P W 0 (fun _ => true) true t v d p) :
    ∃ (a : Option Addr) (len cap : Nat) (zs : List Int), v = .slice a len cap ∧ len ≤ maxLen ∧ Row W a len (zs.map (Value.int k)) ∧ ∀ z ∈ zs, (Lit.int k z).wf = true := by
  obtain ⟨a, len, cap, rfl⟩ := okWide_slice ht hok
  obtain ⟨fuel, hf⟩ := h
  rcases open_ints ht he hc hf with ⟨hcs, _⟩ | ⟨x, l, c, zs, hcs, _, hl, hm, hz, _, hcell, hwz⟩
  · simp [Value.cells] at hcs
    obtain ⟨rfl, rfl, rfl⟩ := hcs
    exact ⟨none, 0, 0, [], rfl, Nat.zero_le _, ⟨rfl, .inl rfl⟩, by simp⟩
  · simp [Value.cells] at hcs
    obtain ⟨rfl, rfl, rfl⟩ := hcs
    have hz : zs.length = cap := by simpa using hz
    refine ⟨_, len, cap, zs.take len, rfl, Nat.le_trans hl hm, ⟨by simp; omega, ?_⟩, fun z hz => hwz z (List.mem_of_mem_take hz)⟩
    by_cases h0 : len = 0
    · exact .inl h0
    obtain ⟨b, off, spot⟩ := x
    have hc0 := hcell 0 (by omega)
    have hspot : spot = none := by simpa [Addr.add] using World.cell?_spot hc0
    subst hspot
    refine .inr ⟨b, off, rfl, fun i v hv => ?_⟩
    rw [List.getElem?_map, List.getElem?_take] at hv
    by_cases hi : i < len
    · rw [if_pos hi] at hv
      have hi2 : i < zs.length := by omega
      have := hcell i hi2
      rw [List.getElem?_eq_getElem hi2] at hv
      simp only [Option.map_some, Option.some.injEq] at hv
      subst hv
      have ea : (⟨b, off, none⟩ : Addr).add i = ⟨b, off + i, none⟩ := by
        unfold Addr.add
        by_cases h0 : i = 0
        · simp [h0]
        · simp [h0]
      rw [ea] at this
      rw [this]
      simp [hi2]
    · rw [if_neg hi] at hv
      simp at hv

end Go.Proofs.Ytpclhpncmlbccaa

/- A row's frame for laws that read package variables of the library: the shape of the first world is handed over. -/
namespace Go.Proofs.Ytpclhpncmlbccaa
open Go.ChangeShapes Go.WideShapes Go.ChangeAt Go.RowKit
theorem returnsInHanded_of_cond_shaped {H : Type} {enc : TypeId × Value → H} {a : Assume} {C : Checked} {os : Os} {f : FuncId} {fn : Func} {s : OpenSpec} {k : (H : Type) → List (DataW H) → Bool} (hk : s.cond = some k) {F : Stop.Interp} {conds : List PathCond} {apart fresh handsOn again : Bool}
    (own : ownKnob C.prog.godebug = none) (started : os.Started) (noInit : C.prog.inits.idxOf? f = none) (hfn : C.prog.funcs[f]? = some fn)
    (witness : ∃ (w : World) (tape : Tape) (i : Input), w.os = os ∧ (w.forCall tape i).Shaped C.prog ∧ i.vars = [] ∧ Input.okWide C.prog (w.forCall tape i) .any w.heap.size f i ∧
      s.pre6 enc C.prog fn conds apart (w.forCall tape i).memory i.args ∧ a.holds C.prog (lone (Frame.enter C.prog f i.args .normal) [] (w.forCall tape i)))
    (contract : ∀ (W : World) (base : Nat) (args : Array Value) (ds gs : List (DataW H)) (before : List MemPlace),
      (∀ (j : Nat) t v, fn.params[j]? = some t → args[j]? = some v → Value.okWide C.prog W .any base t v) →
      DataW.Whole enc C.prog fn.params.toList s.vars apart W args.toList ds gs before →
      conds.all (PathCond.test C.prog ⟨fn.params.toList, ds, s.bare.plain.varTypes C.prog, gs⟩) = true → k H (ds ++ gs) = true →
      W.ShapedOpen C.prog →
      a.holds C.prog (lone (Frame.enter C.prog f args .normal) [] W) →
      Calls C.prog f args W fun e W' => ∃ v, e = .returned v ∧ (s.at F).post enc C.prog fn apart fresh handsOn again W args v W') :
    ReturnsInHanded a C os f .any (s.pre6 enc C.prog fn conds apart) ((s.at F).post enc C.prog fn apart fresh handsOn again) := by
  refine returnsInHanded_of_calls own started noInit witness ?_
  intro w tape i _ hsh _ hok hpre hholds
  obtain ⟨_, _, _, fn', hfn', _, _, _, _, hval⟩ := hok
  have e : fn' = fn := Option.some.inj (hfn'.symm.trans hfn)
  subst e
  obtain ⟨ds, gs, before, hw, hc, hkk⟩ := (OpenSpec.pre_some hk conds apart _ _).1 hpre.1
  refine (contract (w.forCall tape i) w.heap.size i.args ds gs before hval (DataW.Whole.of_heap (w' := w.forCall tape i) (by rfl) hw) hc hkk hsh hholds).mono fun e W' ⟨v, he, hp⟩ => ?_
  subst he
  exact ChangeSpec.post_blind hp
theorem gl_of_shaped {W : World} (h : W.ShapedOpen Try.prog) : Gl (gAll W) := by
  refine ⟨fun p hp => ?_, fun p hp => by simp [globK] at hp, fun k hk => by simp [globI] at hk⟩
  simp only [globs, List.mem_cons, List.not_mem_nil, or_false] at hp
  subst hp
  obtain ⟨m, hm⟩ := cell_of_shapedOpen_int (P := Try.prog) (g := 0) (t := 3) (zero := #[.int .i64 0]) h (of_decide_eq_true (by kernel_rfl)) (by kernel_rfl) rfl (by kernel_rfl) (by kernel_rfl) Try.underlying3
  obtain ⟨h1, h2⟩ := uAll_lt hm
  exact ⟨h2, h1, m, hm⟩
end Go.Proofs.Ytpclhpncmlbccaa

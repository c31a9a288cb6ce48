/- Part 3 of the proof of the law NoticeSurvivesTheWay: what it needs. -/
import Derived.Test.YtpclhpncmlbccaaGreatDoorKNoticeSurvivesTheWay2
import Derived.Test.YtpclhpncmlbccaaGreatDoorRows
import Derived.ProofKit
import Derived.Deep.Slices
import Derived.WalkKit
import Derived.WalkSpells
import Derived.WalkLawsBesides
import Derived.Deep.QuietTactic
import Derived.BigQuiet
import Derived.Lib.Hide
import Derived.Handy
import Derived.Deep.RegionHeld3
import Derived.OpenShut
import Derived.ShutString
import Derived.ChangeOld
import Derived.Below
import Derived.JoinedCond
import Derived.JoinedOf
import Derived.Test.YtpclhpncmlbccaaGreatDoorCards
import Derived.Test.YtpclhpncmlbccaaGreatDoorTie
import Derived.HandedShaped
import Derived.Shelf.Vars
import Derived.Deep.DeepHandedRow
import Derived.Deep.DeepWitnessRowRef
import Derived.Lib.LaidTab
import Derived.Lib.LaidU8
import Derived.LaidMore
import Derived.MakeChecks
import Derived.SevenTiedAt
import Derived.Stop.LaidErr
import Derived.Laws.MakeOwn
import Derived.Test.YtpclhpncmlbccaaGreatDoorProg
import Derived.Lib.IndexMore
import Derived.Lib.IndexAny
import Derived.Lib.Atoi
import Derived.Lib.Join
import Derived.Lib.Repeat
import Derived.Lib.Split
import Derived.Lib.FieldsP
import Derived.Lib.Strings
set_option linter.unusedVariables false
set_option linter.unusedSimpArgs false
/- The abstract calculus: regions that draw their order, with new objects among the first operations, some of which may come late. No program is named. -/
namespace Go.Proofs.YtpclhpncmlbccaaGreatDoor
open Go.RowKit Go.Lib

variable {E : Env} {fr : Fr} {σ : Sto} {K : Post}
abbrev ObX := List (Option (Nat × AO))
/-- the variables that have come up -/
def objX (D : Nat → Bool) : Nat → ObX → Sto
  | _, [] => []
  | i, none :: r => objX D (i + 1) r
  | i, some (id, cs) :: r => bif D i then (id, cs) :: objX D (i + 1) r else objX D (i + 1) r
def idX : ObX → List Nat
  | [] => []
  | none :: r => idX r
  | some (id, _) :: r => id :: idX r
def freeX (fr : Fr) (σ : Sto) (cs : List AV) (az : ObX) : Bool :=
  distB (idX az) && ((idX az).all fun k => !fr.has k && !σ.has k && (σ.get k).isNone) &&
  (az.all fun | none => true | some (_, c) => (idX az).all fun k => !AO.has k c) &&
  ((cs.zip az).all fun p => (idX az).all fun k => (match p.2 with | some (id, _) => Nat.beq id k | none => false) || !p.1.has k)
theorem idX_mem {az : ObX} {j id : Nat} {cs : AO} (h : az[j]? = some (some (id, cs))) : id ∈ idX az := by
  induction az generalizing j with
  | nil => simp at h
  | cons x r ih =>
    cases j with
    | zero => simp at h; subst h; simp [idX]
    | succ j =>
      have := ih (j := j) (by simpa using h)
      cases x with
      | none => simpa [idX] using this
      | some x => obtain ⟨a, b⟩ := x; simp [idX, this]
theorem idX_dist {az : ObX} (hd : distB (idX az) = true) {i j id : Nat} {c c' : AO} (hi : az[i]? = some (some (id, c))) (hj : az[j]? = some (some (id, c'))) : i = j := by
  induction az generalizing i j with
  | nil => simp at hi
  | cons x r ih =>
    cases x with
    | none =>
      cases i with
      | zero => simp at hi
      | succ i =>
        cases j with
        | zero => simp at hj
        | succ j => rw [ih (by simpa [idX] using hd) (i := i) (j := j) (by simpa using hi) (by simpa using hj)]
    | some x =>
      obtain ⟨a, b⟩ := x
      simp only [idX, distB, Bool.and_eq_true, Bool.not_eq_true'] at hd
      have hn : ∀ {k : Nat} {c : AO}, r[k]? = some (some (a, c)) → False := by
        intro k c hk
        have := idX_mem hk
        have h1 := hd.1
        rw [List.any_eq_false] at h1
        exact h1 a this (Nat.beq_refl a)
      cases i with
      | zero =>
        simp at hi
        obtain ⟨rfl, rfl⟩ := hi
        cases j with
        | zero => rfl
        | succ j => exact (hn (by simpa using hj)).elim
      | succ i =>
        cases j with
        | zero =>
          simp at hj
          obtain ⟨rfl, rfl⟩ := hj
          exact (hn (by simpa using hi)).elim
        | succ j => rw [ih hd.2 (i := i) (j := j) (by simpa using hi) (by simpa using hj)]
theorem objX_none {D : Nat → Bool} {o : Nat} : ∀ (az : ObX) (n : Nat), (∀ j c, az[j]? = some (some (o, c)) → D (n + j) = false) → Sto.get (objX D n az ++ σ) o = σ.get o
  | [], _, _ => rfl
  | none :: r, n, h => objX_none r (n + 1) (fun j c hj => by have := h (j + 1) c (by simpa using hj); rwa [show n + 1 + j = n + (j + 1) by omega])
  | some (id, cs) :: r, n, h => by
    have ih := objX_none r (n + 1) (fun j c hj => by have := h (j + 1) c (by simpa using hj); rwa [show n + 1 + j = n + (j + 1) by omega])
    unfold objX
    cases hD : D n with
    | false => exact ih
    | true =>
      show Sto.get ((id, cs) :: (objX D (n + 1) r ++ σ)) o = _
      rw [Sto.get_cons, if_neg]
      · exact ih
      · rintro rfl
        have := h 0 cs rfl
        rw [Nat.add_zero, hD] at this; cases this
theorem objX_some {D : Nat → Bool} {o : Nat} {c : AO} : ∀ (az : ObX) (n j : Nat), distB (idX az) = true → az[j]? = some (some (o, c)) → D (n + j) = true → Sto.get (objX D n az ++ σ) o = some (c)
  | [], _, _, _, h, _ => by simp at h
  | none :: r, n, j, hd, h, hD => by
    cases j with
    | zero => simp at h
    | succ j => exact objX_some r (n + 1) j (by simpa [idX] using hd) (by simpa using h) (by rwa [show n + 1 + j = n + (j + 1) by omega])
  | some (id, cs) :: r, n, j, hd, h, hD => by
    unfold objX
    cases j with
    | zero =>
      simp at h
      obtain ⟨rfl, rfl⟩ := h
      rw [Nat.add_zero] at hD
      rw [hD]
      show Sto.get ((id, cs) :: (objX D (n + 1) r ++ σ)) id = _
      rw [Sto.get_cons, if_pos rfl]
    | succ j =>
      have hne : id ≠ o := by
        rintro rfl
        have := idX_dist hd (i := 0) (j := j + 1) rfl h
        omega
      have hd' : distB (idX r) = true := by simp only [idX, distB, Bool.and_eq_true] at hd; exact hd.2
      have ih := objX_some r (n + 1) j hd' (by simpa using h) (by rwa [show n + 1 + j = n + (j + 1) by omega])
      cases D n with
      | false => exact ih
      | true =>
        show Sto.get ((id, cs) :: (objX D (n + 1) r ++ σ)) o = _
        rw [Sto.get_cons, if_neg hne]; exact ih
theorem objX_cases {D : Nat → Bool} (az : ObX) (hd : distB (idX az) = true) (o : Nat) : (∃ j c, D j = true ∧ az[j]? = some (some (o, c)) ∧ Sto.get (objX D 0 az ++ σ) o = some (c)) ∨ ((∀ j c, az[j]? = some (some (o, c)) → D j = false) ∧ Sto.get (objX D 0 az ++ σ) o = σ.get o) := by
  by_cases h : ∃ j c, D j = true ∧ az[j]? = some (some (o, c))
  · obtain ⟨j, c, h1, h2⟩ := h
    exact .inl ⟨j, c, h1, h2, objX_some az 0 j hd h2 (by simpa using h1)⟩
  · have hn : ∀ j c, az[j]? = some (some (o, c)) → D j = false := by
      intro j c hj
      cases hD : D j with
      | false => rfl
      | true => exact absurd ⟨j, c, hD, hj⟩ h
    exact .inr ⟨hn, objX_none az 0 (fun j c hj => by simpa using hn j c hj)⟩
theorem objX_same {D D' : Nat → Bool} : ∀ (az : ObX) (n : Nat), (∀ j x, az[j]? = some (some x) → D (n + j) = D' (n + j)) → objX D n az = objX D' n az
  | [], _, _ => rfl
  | none :: r, n, h => objX_same r (n + 1) (fun j x hj => by have := h (j + 1) x (by simpa using hj); rwa [show n + 1 + j = n + (j + 1) by omega])
  | some (id, cs) :: r, n, h => by
    have ih := objX_same (D := D) (D' := D') r (n + 1) (fun j x hj => by have := h (j + 1) x (by simpa using hj); rwa [show n + 1 + j = n + (j + 1) by omega])
    unfold objX
    rw [show D n = D' n from h 0 _ rfl, ih]
theorem objX_has {D : Nat → Bool} {k : Nat} (hσ : σ.has k = false) : ∀ (az : ObX) (n : Nat), (∀ (j id : Nat) (c : AO), az[j]? = some (some (id, c)) → AO.has k c = false) → Sto.has k (objX D n az ++ σ) = false
  | [], _, _ => hσ
  | none :: r, n, h => objX_has hσ r (n + 1) (fun j id c hj => h (j + 1) id c (by simpa using hj))
  | some (id, cs) :: r, n, h => by
    have ih := objX_has (D := D) hσ r (n + 1) (fun j id c hj => h (j + 1) id c (by simpa using hj))
    unfold objX
    cases D n with
    | false => exact ih
    | true =>
      show Sto.has k ((id, cs) :: (objX D (n + 1) r ++ σ)) = false
      unfold Sto.has
      rw [ih]
      simp [h 0 id cs rfl]
/-- a new object -/
structure OpNewX (E : Env) (FR : Fr) (o : Oper) (id : Nat) (c : AV) (ob : AO) : Prop where
  go : ∀ (g : G) a (σ' : Sto) (K : Act → World → Prop) (Q : Exit → Act → World → Prop), (∀ x ∈ o.op.operands, Rel g (FR.ev x) (a.eval x)) → St E g a [] σ' → σ'.has id = false → ob.has id = false →
    (∀ g' v, Old (fun _ => False) g g' → (∀ k, k ≠ id → g'.loc k = g.loc k) → Sok E.S E.g0 g' ((id, ob) :: σ') → Rel g' c v → K (a.put o.dst v) g'.w) → o.wpIn (fen E.rd) 0 E.P a g.w K Q
inductive PresX (E : Env) (ops : Array Oper) (fr : Fr) (σ : Sto) : List Oper → List AV → ObX → Prop
  | nil : PresX E ops fr σ [] [] []
  | run {o : Oper} {l : List Oper} {c : AV} {cs : List AV} {az : ObX} (hg : GuardYes ops fr o) (h : OpG E o fr σ c) (hr : PresX E ops fr σ l cs az) : PresX E ops fr σ (o :: l) (c :: cs) (none :: az)
  | skip {o : Oper} {l : List Oper} {cs : List AV} {az : ObX} (hg : GuardNo ops fr o) (hr : PresX E ops fr σ l cs az) : PresX E ops fr σ (o :: l) (.tup [] :: cs) (none :: az)
  | new {o : Oper} {l : List Oper} {cs : List AV} {az : ObX} (id : Nat) {c : AV} {ob : AO} (hg : GuardYes ops fr o) (h : OpNewX E fr o id c ob) (hr : PresX E ops fr σ l cs az) : PresX E ops fr σ (o :: l) (c :: cs) (some (id, ob) :: az)
theorem PresX.len {ops : Array Oper} {l : List Oper} {cs : List AV} {az : ObX} (h : PresX E ops fr σ l cs az) : cs.length = l.length ∧ az.length = l.length := by
  induction h with
  | nil => exact ⟨rfl, rfl⟩
  | run _ _ _ ih => simp [ih.1, ih.2]
  | skip _ _ ih => simp [ih.1, ih.2]
  | new _ _ _ _ ih => simp [ih.1, ih.2]
theorem PresX.get {ops : Array Oper} {l : List Oper} {cs : List AV} {az : ObX} (h : PresX E ops fr σ l cs az) : ∀ {i : Nat} {o : Oper} {c : AV}, l[i]? = some o → cs[i]? = some c → (GuardYes ops fr o ∧ OpG E o fr σ c ∧ az[i]? = some none) ∨ (GuardNo ops fr o ∧ c = .tup [] ∧ az[i]? = some none) ∨ (GuardYes ops fr o ∧ ∃ id ob, OpNewX E fr o id c ob ∧ az[i]? = some (some (id, ob))) := by
  induction h with
  | nil => intro i o c h1; simp at h1
  | run hg h _ ih =>
    intro i o c h1 h2
    cases i with
    | zero => simp at h1 h2; subst h1; subst h2; exact .inl ⟨hg, h, rfl⟩
    | succ i => exact ih (by simpa using h1) (by simpa using h2)
  | skip hg _ ih =>
    intro i o c h1 h2
    cases i with
    | zero => simp at h1 h2; subst h1; subst h2; exact .inr (.inl ⟨hg, rfl, rfl⟩)
    | succ i => exact ih (by simpa using h1) (by simpa using h2)
  | new id hg h _ ih =>
    intro i o c h1 h2
    cases i with
    | zero => simp at h1 h2; subst h1; subst h2; exact .inr (.inr ⟨hg, id, _, h, rfl⟩)
    | succ i => exact ih (by simpa using h1) (by simpa using h2)
/-- all of them -/
def forkL {ι β : Type} : List ι → (ι → Option (List β)) → Option (List β)
  | [], _ => some []
  | i :: is, f => match f i with
    | some a => (match forkL is f with | some b => some (a ++ b) | none => none)
    | none => none
theorem forkL_mem {ι β : Type} {f : ι → Option (List β)} : ∀ {is : List ι} {ls : List β}, forkL is f = some ls → ∀ i ∈ is, ∃ a, f i = some a ∧ ∀ p ∈ a, p ∈ ls
  | [], _, _, i, hi => by cases hi
  | j :: is, ls, h, i, hi => by
    unfold forkL at h
    cases hf : f j with
    | none => rw [hf] at h; cases h
    | some a =>
      rw [hf] at h
      cases hr : forkL is f with
      | none => rw [hr] at h; cases h
      | some b =>
        rw [hr] at h
        cases h
        rcases List.mem_cons.1 hi with rfl | hi
        · exact ⟨a, hf, fun p hp => List.mem_append_left _ hp⟩
        · obtain ⟨a', h1, h2⟩ := forkL_mem hr i hi
          exact ⟨a', h1, fun p hp => List.mem_append_right _ (h2 p hp)⟩
/-- where all orders of what is left lead -/
def treeL (T : Tab) (N : Nat) (l : List Oper) (q : Nat) : Nat → List Bool → Fr → Sto → Option (List (Fr × Sto))
  | 0, _, _, _ => none
  | n + 1, D, fr, σ => match (D.take q).all id with
    | true => some [(fr, σ)]
    | false => forkL (readyL l D) fun i => match l[i]? with
      | some o => (match o.guard with
        | none => (match opDo T N o fr σ with | some r => treeL T N l q n (D.set i true) r.1 r.2 | none => none)
        | some _ => none)
      | none => none
/-- the sets that the first part may end with -/
def bitsX (m : Nat) (fl : List Nat) : Nat → Nat → List (List Bool)
  | 0, _ => [[]]
  | k + 1, i => (bitsX m fl k (i + 1)).flatMap fun r => match Nat.ble m i with
    | true => [false :: r]
    | false => (match fl.contains i with | true => [true :: r, false :: r] | false => [true :: r])
theorem bitsX_mem {m : Nat} {fl : List Nat} : ∀ (k i : Nat) (D : List Bool), D.length = k → (∀ j, j < k → m ≤ i + j → D.getD j false = false) → (∀ j, j < k → i + j < m → fl.contains (i + j) = false → D.getD j false = true) → D ∈ bitsX m fl k i
  | 0, i, D, h, _, _ => by
    obtain rfl := List.eq_nil_of_length_eq_zero h
    simp [bitsX]
  | k + 1, i, D, h, h1, h2 => by
    cases D with
    | nil => simp at h
    | cons b r =>
      have ih := bitsX_mem (m := m) (fl := fl) k (i + 1) r (by simpa using h) (fun j hj hmj => by
          have h3 : m ≤ i + (j + 1) := by omega
          have h4 := h1 (j + 1) (by omega) h3
          simpa using h4) (fun j hj hmj hc => by
          have h3 : i + (j + 1) < m := by omega
          have h4 : fl.contains (i + (j + 1)) = false := by rw [show i + (j + 1) = i + 1 + j by omega]; exact hc
          have h5 := h2 (j + 1) (by omega) h3 h4
          simpa using h5)
      unfold bitsX
      rw [List.mem_flatMap]
      refine ⟨r, ih, ?_⟩
      cases hm : Nat.ble m i with
      | true =>
        have := h1 0 (by omega) (by have := Nat.le_of_ble_eq_true hm; omega)
        simp at this; subst this; simp
      | false =>
        have hlt : i < m := by
          rcases Nat.lt_or_ge i m with h3 | h3
          · exact h3
          · rw [Nat.ble_eq_true_of_le h3] at hm; cases hm
        cases hc : fl.contains i with
        | true => cases b <;> simp
        | false =>
          have := h2 0 (by omega) (by omega) (by simpa using hc)
          simp at this; subst this; simp
def maskC : List AV → List Bool → List AV
  | c :: cs, b :: bs => (bif b then c else .any) :: maskC cs bs
  | _, _ => []
theorem maskC_get : ∀ {cs : List AV} {bs : List Bool}, cs.length ≤ bs.length → ∀ (i : Nat) (c : AV), cs[i]? = some c → (maskC cs bs)[i]? = some (bif bs.getD i false then c else .any)
  | [], _, _, i, c, h => by simp at h
  | c0 :: cs, [], hl, _, _, _ => by simp at hl
  | c0 :: cs, b :: bs, hl, i, c, h => by
    cases i with
    | zero => simp at h; subst h; simp [maskC]
    | succ i => have := maskC_get (cs := cs) (bs := bs) (by simpa using hl) i c (by simpa using h); simpa [maskC] using this
def leavesX (T : Tab) (N : Nat) (l : List Oper) (m q : Nat) (fl : List Nat) (fuel : Nat) (cs : List AV) (fr : Fr) (σ : Sto) : Option (List (Fr × Sto)) :=
  forkL (bitsX m fl l.length 0) fun D => treeL T N l q fuel D (newOf (l.take m) (maskC cs D) [] ++ fr) σ
def drawOkX (l : List Oper) (m q : Nat) (fl : List Nat) : Bool :=
  leadsBack .any l.toArray &&
  ((l.take m).all fun o => o.dst.isSome) &&
  (List.range m).all (fun i => (List.range m).all fun j => Nat.beq i j || (l[i]?).bind (·.dst) != (l[j]?).bind (·.dst)) &&
  ((l.take m).all fun o => (tmpsOf o).all fun t => (List.range m).all fun j => (l[j]?).bind (·.dst) != some t || directly o j) &&
  ((l.take m).all fun o => match o.guard with | none => true | some (j, _) => directly o j) &&
  (List.range l.length).all (fun i => Nat.ble (i + 1) m || (List.range i).all fun j => (Nat.ble (i + 1) q && fl.contains j) || ((masksN l l.length).getD i 0).testBit j)
/-- while the region runs -/
def JDX (E : Env) (T : Tab) (l : List Oper) (m q : Nat) (fl : List Nat) (cs : List AV) (az : ObX) (fr : Fr) (σ : Sto) (frJ : Fr) (σJ : Sto) (K : Post) (D : Nat → Bool) (a : Act) (w : World) : Prop :=
  (∀ i o, l[i]? = some o → D i = true → ∀ e ∈ o.after, Region.binds .any e = true → D e.on = true) ∧
  ((∃ g, g.w = w ∧ (∀ i, m ≤ i → D i = false) ∧ (∃ i, i < m ∧ fl.contains i = false ∧ D i = false) ∧ a.tmps.size = E.N ∧ DokE E g.w a.defers ∧ Sok E.S E.g0 g (objX D 0 az ++ σ) ∧
     (∀ d, (∀ i o, i < m → l[i]? = some o → o.dst ≠ some d) → Rel g (fr.get d) (a.tmps.getD d undef)) ∧
     (∀ i o c d, i < m → D i = true → l[i]? = some o → cs[i]? = some c → o.dst = some d → Rel g c (a.tmps.getD d undef)))
   ∨ (∃ s, q ≤ s ∧ (∀ i, i < l.length → (D i = true ↔ i < s)) ∧ s ≤ l.length ∧ wpListIn (fen E.rd) 0 E.P l.toArray (Ends E K) (l.drop s) a w)
   ∨ (∃ (Dl : List Bool) (fr2 : Fr) (σ2 : Sto) (g : G) (n : Nat) (ls : List (Fr × Sto)), g.w = w ∧ Dl.length = l.length ∧ (∀ i, i < l.length → D i = Dl.getD i false) ∧ (∀ i, q ≤ i → D i = false) ∧ (Dl.take q).all id = false ∧ St E g a fr2 σ2 ∧
       treeL T E.N l q n Dl fr2 σ2 = some ls ∧ ∀ p ∈ ls, FrLe p.1 frJ ∧ StoLe p.2 σJ))

set_option maxHeartbeats 2000000 in
theorem awp_drawnX {id : Nat} {l : List Oper} (m q fuel : Nat) (fl : List Nat) (new : Fr) {cs : List AV} {az : ObX} {σ' : Sto} {T : Tab} {ls : List (Fr × Sto)} (frJ : Fr) (σJ : Sto) (hT : TabOk E.P T) (hmix : E.P.follows .mixedOrders = true) (hok : drawOkX l m q fl = true) (hm : Nat.ble m q = true) (hq : Nat.ble q l.length = true)
    (hfl : (fl.all fun f => match az[f]? with | some none => true | _ => false) = true) (hN : ((l.take m).all fun o => o.dst.all fun d => Nat.ble (d + 1) E.N) = true)
    (hp : PresX E l.toArray (new ++ fr) σ (l.take m) cs az) (hfree : freeX fr σ cs az = true) (hσ : objX (fun _ => true) 0 az ++ σ = σ') (hnew : newOf (l.take m) cs [] = new)
    (hl : leavesX T E.N l m q fl fuel cs fr σ' = some ls) (hle : ∀ p ∈ ls, FrLe p.1 frJ ∧ StoLe p.2 σJ) (h : AWPL E l.toArray (l.drop q) frJ σJ K) : AWP E (.region id l.toArray true) fr σ K := by
  have hmq := Nat.le_of_ble_eq_true hm
  have hq := Nat.le_of_ble_eq_true hq
  have hm : m ≤ l.length := by omega
  simp only [drawOkX, Bool.and_eq_true, List.all_eq_true] at hok
  obtain ⟨⟨⟨⟨⟨hlb, hsome⟩, hdist⟩, hdat⟩, hgrd⟩, hsuf⟩ := hok
  have hcslen : cs.length = m := by rw [hp.len.1]; simp; omega
  have haslen : az.length = m := by rw [hp.len.2]; simp; omega
  simp only [freeX, Bool.and_eq_true, List.all_eq_true] at hfree
  obtain ⟨⟨⟨hdist2, hids⟩, hcells⟩, hcsid⟩ := hfree
  have hids' : ∀ k ∈ idX az, fr.has k = false ∧ σ.has k = false ∧ σ.get k = none := by
    intro k hk
    have := hids k hk
    simp only [Bool.not_eq_true', Option.isNone_iff_eq_none] at this
    exact ⟨this.1.1, this.1.2, this.2⟩
  have hcells' : ∀ (j id : Nat) (c : AO), az[j]? = some (some (id, c)) → ∀ k ∈ idX az, AO.has k c = false := by
    intro j id c hj k hk
    have := hcells _ (List.mem_of_getElem? hj)
    simp only [List.all_eq_true, Bool.not_eq_true'] at this
    exact this k hk
  have hcs' : ∀ (j : Nat) (c : AV) (x : Option (Nat × AO)), cs[j]? = some c → az[j]? = some x → ∀ k ∈ idX az, (∀ id ds, x = some (id, ds) → id ≠ k) → c.has k = false := by
    intro j c x hc hx k hk hne
    have hmz : (c, x) ∈ cs.zip az := by
      refine List.mem_of_getElem? (i := j) ?_
      rw [List.getElem?_zip_eq_some]
      exact ⟨hc, hx⟩
    have := hcsid _ hmz k hk
    simp only [Bool.or_eq_true, Bool.not_eq_true'] at this
    rcases this with h1 | h1
    · cases x with
      | none => cases h1
      | some x => obtain ⟨id, ds⟩ := x; exact absurd (Nat.eq_of_beq_eq_true h1) (hne id ds rfl)
    · exact h1
  have hsub : ∀ (D : Nat → Bool) o ob, σ.get o = some ob → Sto.get (objX D 0 az ++ σ) o = some ob := by
    intro D o ob ho
    rcases objX_cases (σ := σ) (D := D) az hdist2 o with ⟨j, c, _, h2, _⟩ | ⟨_, h2⟩
    · have := (hids' o (idX_mem h2)).2.2
      rw [this] at ho; cases ho
    · rw [h2]; exact ho
  have htake : ∀ i, i < m → (l.take m)[i]? = l[i]? := fun i hi => List.getElem?_take_of_lt hi
  have hmem : ∀ i o, i < m → l[i]? = some o → o ∈ l.take m := fun i o hi ho => List.mem_of_getElem? (by rw [htake i hi]; exact ho)
  have hdist' : ∀ i j o o', i < m → j < m → l[i]? = some o → l[j]? = some o' → i ≠ j → o.dst ≠ o'.dst := by
    intro i j o o' hi hj ho ho' hne hc
    have := hdist i (by simpa using hi) j (by simpa using hj)
    simp only [Bool.or_eq_true, bne_iff_ne, ne_eq] at this
    rcases this with h1 | h1
    · exact hne (Nat.eq_of_beq_eq_true h1)
    · exact h1 (by rw [ho, ho']; simpa using hc)
  have hA : ∀ (cs' : List AV) d, (∀ i o, i < m → l[i]? = some o → o.dst ≠ some d) → (newOf (l.take m) cs' [] ++ fr).get d = fr.get d := by
    intro cs' d hd
    rw [← newOf_append, List.nil_append]
    refine newOf_other _ _ _ _ fun o ho => ?_
    obtain ⟨i, hi, rfl⟩ := List.getElem_of_mem ho
    have hi' : i < m := by simp at hi; omega
    exact hd i _ hi' (by rw [← htake i hi']; exact List.getElem?_eq_getElem hi)
  have hB : ∀ (cs' : List AV) i o c d, i < m → l[i]? = some o → cs'[i]? = some c → o.dst = some d → (newOf (l.take m) cs' [] ++ fr).get d = c := by
    intro cs' i o c d hi ho hc hd
    rw [← newOf_append, List.nil_append]
    refine newOf_get _ _ _ i o c d (fun i j o o' h1 h2 hne => ?_) (by rw [htake i hi]; exact ho) hc hd
    have hi1 : i < m := by have := (List.getElem?_eq_some_iff.1 h1).1; simp at this; omega
    have hj1 : j < m := by have := (List.getElem?_eq_some_iff.1 h2).1; simp at this; omega
    rw [htake i hi1] at h1; rw [htake j hj1] at h2
    exact hdist' i j o o' hi1 hj1 h1 h2 hne
  have hsuf' : ∀ {D : Nat → Bool} i o, (∀ i o, l[i]? = some o → D i = true → ∀ e ∈ o.after, Region.binds .any e = true → D e.on = true) → m ≤ i → l[i]? = some o → (∀ e ∈ o.after, Region.binds .any e = true → D e.on = true) → ∀ j, j < i → (q ≤ i ∨ fl.contains j = false) → D j = true := by
    intro D i o hcl hi ho he j hj hqj
    have hil : i < l.length := (List.getElem?_eq_some_iff.1 ho).1
    have := hsuf i (by simpa using hil)
    simp only [Bool.or_eq_true, List.all_eq_true, Bool.and_eq_true] at this
    rcases this with h1 | h1
    · have := Nat.le_of_ble_eq_true h1; omega
    · rcases h1 j (by simpa using hj) with ⟨h2, h3⟩ | h2
      · have := Nat.le_of_ble_eq_true h2
        rcases hqj with h4 | h4
        · omega
        · rw [h4] at h3; cases h3
      · exact masks_ready hcl l.length i o ho he j h2
  have hdir : ∀ {D : Nat → Bool} {o : Oper} {j : Nat}, (∀ e ∈ o.after, Region.binds .any e = true → D e.on = true) → directly o j = true → D j = true := by
    intro D o j he hd
    simp only [directly, List.any_eq_true, Bool.and_eq_true] at hd
    obtain ⟨e, h1, h2, h3⟩ := hd
    rw [← Nat.eq_of_beq_eq_true h3]
    exact he e (by simpa using h1) h2
  have hflz : ∀ j x, az[j]? = some (some x) → fl.contains j = false := by
    intro j x hj
    cases hc : fl.contains j with
    | false => rfl
    | true =>
      rw [List.all_eq_true] at hfl
      have := hfl j (by simpa using hc)
      rw [hj] at this; cases this
  -- the second part begins, or the third
  have enter2 : ∀ (g : G) (a : Act) (D : Nat → Bool) (Dl : List Bool) (fr2 : Fr) (σ2 : Sto) (n : Nat) (ls2 : List (Fr × Sto)), (∀ i o, l[i]? = some o → D i = true → ∀ e ∈ o.after, Region.binds .any e = true → D e.on = true) → Dl.length = l.length → (∀ i, i < l.length → D i = Dl.getD i false) → (∀ i, q ≤ i → D i = false) → St E g a fr2 σ2 → treeL T E.N l q n Dl fr2 σ2 = some ls2 → (∀ p ∈ ls2, FrLe p.1 frJ ∧ StoLe p.2 σJ) → JDX E T l m q fl cs az fr σ frJ σJ K D a g.w := by
    intro g a D Dl fr2 σ2 n ls2 hcl hlen hbits hge hst htree hls
    cases hall : (Dl.take q).all _root_.id with
    | false => exact ⟨hcl, .inr (.inr ⟨Dl, fr2, σ2, g, n, ls2, rfl, hlen, hbits, hge, hall, hst, htree, hls⟩)⟩
    | true =>
      cases n with
      | zero => unfold treeL at htree; cases htree
      | succ n =>
        unfold treeL at htree
        rw [hall] at htree
        cases htree
        obtain ⟨h1, h2⟩ := hls (fr2, σ2) (by simp)
        refine ⟨hcl, .inr (.inl ⟨q, Nat.le_refl _, fun i hi => ⟨fun hd => ?_, fun hlt => ?_⟩, hq, h.go g a (hst.le h1 h2)⟩)⟩
        · rcases Nat.lt_or_ge i q with h3 | h3
          · exact h3
          · rw [hge i h3] at hd; cases hd
        · rw [hbits i hi]
          rw [List.all_eq_true] at hall
          have hiD : i < Dl.length := by omega
          have := hall Dl[i] (List.mem_of_getElem? (i := i) (by rw [List.getElem?_take_of_lt hlt]; exact List.getElem?_eq_getElem hiD))
          simpa [List.getD_eq_getElem?_getD, hiD] using this
  have close1 : ∀ (g : G) (a : Act) (D : Nat → Bool), (∀ i o, l[i]? = some o → D i = true → ∀ e ∈ o.after, Region.binds .any e = true → D e.on = true) → (∀ i, m ≤ i → D i = false) → (∀ i, i < m → fl.contains i = false → D i = true) → a.tmps.size = E.N → DokE E g.w a.defers → Sok E.S E.g0 g (objX D 0 az ++ σ) →
     (∀ d, (∀ i o, i < m → l[i]? = some o → o.dst ≠ some d) → Rel g (fr.get d) (a.tmps.getD d undef)) →
     (∀ i o c d, i < m → D i = true → l[i]? = some o → cs[i]? = some c → o.dst = some d → Rel g c (a.tmps.getD d undef)) → JDX E T l m q fl cs az fr σ frJ σJ K D a g.w := by
    intro g a D hcl hge hdone hsz hdf hso hf0 hfD
    have hlen : ((List.range l.length).map D).length = l.length := by simp
    have hbits : ∀ i, i < l.length → D i = ((List.range l.length).map D).getD i false := by intro i hi; simp [List.getD_eq_getElem?_getD, hi]
    have hmem2 : (List.range l.length).map D ∈ bitsX m fl l.length 0 := bitsX_mem l.length 0 _ hlen (fun j hj hmj => by rw [← hbits j hj]; exact hge j (by omega)) (fun j hj hmj hc => by rw [← hbits j hj]; rw [Nat.zero_add] at hmj hc; exact hdone j hmj hc)
    obtain ⟨ls2, h1, h2⟩ := forkL_mem hl _ hmem2
    refine enter2 g a D _ _ σ' fuel ls2 hcl hlen hbits (fun i hi => hge i (by omega)) ⟨fun d => ?_, hsz, hdf, ?_⟩ h1 (fun p hp => hle p (h2 p hp))
    · by_cases hex2 : ∃ j o', j < m ∧ l[j]? = some o' ∧ o'.dst = some d
      · obtain ⟨j, o', hj, q1, q2⟩ := hex2
        obtain ⟨c', hc'⟩ : ∃ c, cs[j]? = some c := ⟨cs[j]'(by omega), List.getElem?_eq_getElem (by omega)⟩
        have hmk := maskC_get (cs := cs) (bs := (List.range l.length).map D) (by rw [hlen]; omega) j c' hc'
        rw [hB _ j o' _ d hj q1 hmk q2, ← hbits j (by omega)]
        cases hD : D j with
        | false => exact .any _
        | true => exact hfD j o' c' d hj hD q1 hc' q2
      · rw [hA _ d (fun j o' hj q1 q2 => hex2 ⟨j, o', hj, q1, q2⟩)]
        exact hf0 d (fun j o' hj q1 q2 => hex2 ⟨j, o', hj, q1, q2⟩)
    · have e : objX D 0 az = objX (fun _ => true) 0 az := objX_same az 0 (fun j x hj => by
        rw [Nat.zero_add]
        have hjm : j < m := by have := (List.getElem?_eq_some_iff.1 hj).1; omega
        exact hdone j hjm (hflz j x hj))
      rw [← hσ, ← e]; exact hso
  refine ⟨fun g a hst => ?_⟩
  have hst0 := hst.drew
  refine wpIn_region_inv hmix hlb (JDX E T l m q fl cs az fr σ frJ σJ K) ?_ ?_ ?_
  · have hso0 : Sok E.S E.g0 ⟨g.w.drew, g.u, g.loc⟩ (objX (fun _ => false) 0 az ++ σ) := hst0.so.le (fun o ob ho => by rw [← objX_none (D := fun _ => false) az 0 (fun _ _ _ => rfl)]; exact ho)
    by_cases hex : ∃ i, i < m ∧ fl.contains i = false
    · obtain ⟨i, hi1, hi2⟩ := hex
      exact ⟨fun i o _ hd => by simp at hd, .inl ⟨⟨g.w.drew, g.u, g.loc⟩, rfl, fun _ _ => rfl, ⟨i, hi1, hi2, rfl⟩, hst0.n, hst0.df, hso0, fun d _ => hst0.fr d, fun i o c d _ hd => by simp at hd⟩⟩
    · exact close1 ⟨g.w.drew, g.u, g.loc⟩ a (fun _ => false) (fun i o _ hd => by simp at hd) (fun _ _ => rfl) (fun i h1 h2 => absurd ⟨i, h1, h2⟩ hex) hst0.n hst0.df hso0 (fun d _ => hst0.fr d) (fun i o c d _ hd => by simp at hd)
  · rintro D a w ⟨_, ⟨g, _, _, ⟨i, hi, _, hd⟩, _⟩ | ⟨s, hs1, hs2, hs3, hs4⟩ | ⟨Dl, _, _, _, _, _, _, hlen, hbits, _, hall2, _⟩⟩ hall
    · rw [hall i (by simp; omega)] at hd; cases hd
    · have : s = l.length := by
        rcases Nat.lt_or_ge s l.length with h1 | h1
        · have := (hs2 s h1).1 (hall s (by simpa using h1)); omega
        · omega
      subst this
      rw [List.drop_length] at hs4
      exact hs4
    · exfalso
      have : (Dl.take q).all _root_.id = true := by
        rw [List.all_eq_true]
        intro x hx
        obtain ⟨i, hi, rfl⟩ := List.mem_iff_getElem.1 (List.mem_of_mem_take hx)
        have h1 := hbits i (by omega)
        rw [hall i (by simp; omega)] at h1
        simp only [List.getD_eq_getElem?_getD, List.getElem?_eq_getElem hi, Option.getD_some] at h1
        simp [← h1]
      rw [this] at hall2; cases hall2
  · rintro D a w i o ⟨hcl, hJ⟩ ho hDi he
    have ho' : l[i]? = some o := by simpa using ho
    have hil : i < l.length := (List.getElem?_eq_some_iff.1 ho').1
    have hcl' : ∀ i' o', l[i']? = some o' → upd D i i' = true → ∀ e ∈ o'.after, Region.binds .any e = true → upd D i e.on = true := by
      intro i' o' h1 h2 e h3 h4
      unfold upd at h2 ⊢
      split
      · rfl
      · split at h2
        · rename_i hii; subst hii
          rw [ho'] at h1; cases h1
          exact he e h3 h4
        · exact hcl i' o' h1 h2 e h3 h4
    rcases hJ with ⟨g, rfl, hge, ⟨i0, hi0, hfl0, hd0⟩, hsz, hdf, hso, hf0, hfD⟩ | ⟨s, hs1, hs2, hs3, hs4⟩ | ⟨Dl, fr2, σ2, g, n, ls2, rfl, hlen, hbits, hge, hall2, hst2, htree, hls2⟩
    · have him : i < m := by
        rcases Nat.lt_or_ge i m with h1 | h1
        · exact h1
        · have := hsuf' i o hcl h1 ho' he i0 (by omega) (.inr hfl0)
          rw [hd0] at this; cases this
      obtain ⟨c, hc⟩ : ∃ c, cs[i]? = some c := ⟨cs[i]'(by omega), List.getElem?_eq_getElem (by omega)⟩
      have hslot : ∀ d, (∃ j o' , j < m ∧ l[j]? = some o' ∧ o'.dst = some d ∧ D j = true) ∨ (∀ j o', j < m → l[j]? = some o' → o'.dst ≠ some d) → Rel g ((new ++ fr).get d) (a.tmps.getD d undef) := by
        rintro d (⟨j, o', hj, ho1, hd1, hD1⟩ | hno)
        · obtain ⟨c', hc'⟩ : ∃ c, cs[j]? = some c := ⟨cs[j]'(by omega), List.getElem?_eq_getElem (by omega)⟩
          rw [← hnew, hB cs j o' c' d hj ho1 hc' hd1]
          exact hfD j o' c' d hj hD1 ho1 hc' hd1
        · rw [← hnew, hA cs d hno]; exact hf0 d hno
      have hops : ∀ x ∈ o.op.operands, Rel g ((new ++ fr).ev x) (a.eval x) := by
        intro x hx
        cases x with
        | const v => exact rel_const g v
        | global q => exact .pv (.b rfl)
        | func f => exact .fn (by simp) (by simp) (fun i c h => by simp at h) (fun i c h => by simp at h)
        | tmp t =>
          refine hslot t ?_
          by_cases hex : ∃ j o', j < m ∧ l[j]? = some o' ∧ o'.dst = some t
          · obtain ⟨j, o', hj, ho1, hd1⟩ := hex
            have h1 := hdat o (hmem i o him ho') t (by simp only [tmpsOf, List.mem_filterMap]; exact ⟨.tmp t, by simpa using hx, rfl⟩) j (by simpa using hj)
            simp only [Bool.or_eq_true, bne_iff_ne, ne_eq] at h1
            rcases h1 with h1 | h1
            · exact absurd (by rw [ho1]; simpa using hd1) h1
            · exact .inl ⟨j, o', hj, ho1, hd1, hdir he h1⟩
          · exact .inr fun j o' hj ho1 hd1 => hex ⟨j, o', hj, ho1, hd1⟩
      have hguard : ∀ j want d, o.guard = some (j, want) → (l.toArray[j]?).bind (·.dst) = some d → Rel g ((new ++ fr).get d) (a.tmps.getD d undef) := by
        intro j want d hg hj
        have h1 := hgrd o (hmem i o him ho')
        rw [hg] at h1
        have hDj := hdir he h1
        have hjm : j < m := by
          rcases Nat.lt_or_ge j m with h2 | h2
          · exact h2
          · rw [hge j h2] at hDj; cases hDj
        cases hoj : l[j]? with
        | none => rw [List.getElem?_toArray, hoj] at hj; cases hj
        | some o' =>
          rw [List.getElem?_toArray, hoj] at hj
          exact hslot d (.inl ⟨j, o', hjm, hoj, by simpa using hj, hDj⟩)
      -- the state behind the operation
      have hafter : ∀ (g' : G) (v : Value) (d : Nat), o.dst = some d → Old (fun _ => False) g g' → Sok E.S E.g0 g' (objX (upd D i) 0 az ++ σ) → (∀ c v, Rel g c v → (∀ k, k ∈ idX az → az[i]?.bind (fun x => x.map (·.1)) = some k → c.has k = false) → Rel g' c v) → Rel g' c v → JDX E T l m q fl cs az fr σ frJ σJ K (upd D i) (a.put o.dst v) g'.w := by
        intro g' v d hd hold hso' hmono0 hv
        have hdN : d < E.N := by
          rw [List.all_eq_true] at hN
          have := hN o (hmem i o him ho')
          rw [hd] at this
          exact Nat.le_of_ble_eq_true (by simpa using this)
        have hget : ∀ d', (a.put o.dst v).tmps.getD d' undef = if d = d' then v else a.tmps.getD d' undef := by
          intro d'
          rw [hd]
          simp only [Act.put]
          rw [getD_set_eq]
          by_cases h1 : d = d'
          · rw [if_pos ⟨h1, by omega⟩, if_pos h1]
          · rw [if_neg (fun x => h1 x.1), if_neg h1]
        have hsz' : (a.put o.dst v).tmps.size = E.N := by rw [hd]; simp [Act.put, hsz]
        have hdf' : DokE E g'.w (a.put o.dst v).defers := by rw [hd]; exact hdf.mono hold.ext
        have hF0 : ∀ d', (∀ i o, i < m → l[i]? = some o → o.dst ≠ some d') → Rel g' (fr.get d') ((a.put o.dst v).tmps.getD d' undef) := by
          intro d' hno
          rw [hget, if_neg (by rintro rfl; exact hno i o him ho' hd)]
          exact hmono0 _ _ (hf0 d' hno) (fun k hk _ => by
            cases hx : (fr.get d').has k with
            | false => rfl
            | true => have := Fr.has_get hx; rw [(hids' k hk).1] at this; cases this)
        have hFD : ∀ i' o' c' d', i' < m → upd D i i' = true → l[i']? = some o' → cs[i']? = some c' → o'.dst = some d' → Rel g' c' ((a.put o.dst v).tmps.getD d' undef) := by
          intro i' o' c' d' hi' hD' h1 h2 h3
          by_cases hii : i' = i
          · subst hii
            rw [ho'] at h1; cases h1
            rw [hc] at h2; cases h2
            rw [hd] at h3; cases h3
            rw [hget, if_pos rfl]
            exact hv
          · have hD1 : D i' = true := by unfold upd at hD'; rwa [if_neg hii] at hD'
            have hne : d ≠ d' := by
              rintro rfl
              exact hdist' i' i o' o hi' him h1 ho' hii (h3.trans hd.symm)
            rw [hget, if_neg hne]
            refine hmono0 _ _ (hfD i' o' c' d' hi' hD1 h1 h2 h3) (fun k hk hki => ?_)
            obtain ⟨x, hx⟩ : ∃ x, az[i']? = some x := ⟨az[i']'(by omega), List.getElem?_eq_getElem (by omega)⟩
            refine hcs' i' c' x h2 hx k hk (fun id ds hxe hik => ?_)
            subst hxe; subst hik
            cases hai : az[i]? with
            | none => rw [hai] at hki; cases hki
            | some y =>
              rw [hai] at hki
              cases y with
              | none => cases hki
              | some y =>
                obtain ⟨id2, ds2⟩ := y
                simp at hki; subst hki
                exact hii (idX_dist hdist2 hx hai)
        have hge' : ∀ i', m ≤ i' → upd D i i' = false := by
          intro i' hi'
          unfold upd
          rw [if_neg (by omega)]
          exact hge i' hi'
        by_cases hex : ∃ i', i' < m ∧ fl.contains i' = false ∧ upd D i i' = false
        · exact ⟨hcl', .inl ⟨g', rfl, hge', hex, hsz', hdf', hso', hF0, hFD⟩⟩
        · refine close1 g' _ _ hcl' hge' (fun i' h1 h2 => ?_) hsz' hdf' hso' hF0 hFD
          cases h3 : upd D i i' with
          | true => rfl
          | false => exact absurd ⟨i', h1, h2, h3⟩ hex
      obtain ⟨d, hd⟩ : ∃ d, o.dst = some d := by
        have := hsome o (hmem i o him ho')
        cases hd : o.dst with
        | none => rw [hd] at this; cases this
        | some d => exact ⟨d, rfl⟩
      unfold wpOpIn
      rw [ho]
      simp only
      have hyes : GuardYes l.toArray (new ++ fr) o → Region.wanted o (yielded l.toArray a.tmps) = true := by
        intro hg
        cases hg with
        | plain h1 => simp [Region.wanted, h1]
        | @yes j d' want t h1 h2 h3 h4 =>
          have hr := hguard j want d' h1 h2
          rw [h3] at hr
          have hy : yielded l.toArray a.tmps j = some t := by
            unfold yielded
            rw [h2]
            simp only [Option.bind_some]
            have h5 := rel_bool hr
            cases hx : a.tmps[d']? with
            | none => rw [Array.getD_eq_getD_getElem?, hx] at h5; simp [undef] at h5
            | some x => rw [Array.getD_eq_getD_getElem?, hx] at h5; simp at h5; rw [h5]
          have h6 : (yielded l.toArray a.tmps j == some want) = true := by rw [hy, h4]; cases want <;> rfl
          simp only [Region.wanted, h1, h6]
      have hsame : az[i]? = some none → objX (upd D i) 0 az = objX D 0 az := fun hn => objX_same az 0 (fun j x hj => by
        rw [Nat.zero_add]
        unfold upd
        rw [if_neg (by rintro rfl; rw [hn] at hj; cases hj)])
      rcases hp.get (i := i) (by rw [htake i him]; exact ho') hc with ⟨hg, hop, has⟩ | ⟨hg, rfl, has⟩ | ⟨hg, id, ob, hop, has⟩
      · have hw := hyes hg
        simp only [hw, if_true]
        exact hop.go g a _ _ hops (hso.le (hsub D)) fun g' v h1 h2 h3 h4 => hafter g' v d hd h1 (by rw [hsame has]; exact hso.grow h1 h2 (fun k _ => by rw [h3])) (fun c v hr _ => hr.mono h1.ext (fun k _ => by rw [h3])) h4
      · have hw : Region.wanted o (yielded l.toArray a.tmps) = false := by
          cases hg with
          | @no j d' want t h1 h2 h3 h4 =>
            have hr := hguard j want d' h1 h2
            rw [h3] at hr
            have hy : yielded l.toArray a.tmps j = some t := by
              unfold yielded
              rw [h2]
              simp only [Option.bind_some]
              have h5 := rel_bool hr
              cases hx : a.tmps[d']? with
              | none => rw [Array.getD_eq_getD_getElem?, hx] at h5; simp [undef] at h5
              | some x => rw [Array.getD_eq_getD_getElem?, hx] at h5; simp at h5; rw [h5]
            have h6 : (yielded l.toArray a.tmps j == some want) = false := by rw [hy, h4]; cases want <;> rfl
            simp only [Region.wanted, h1, h6]
          | @none j d' want h1 h2 h3 =>
            have hr := hguard j want d' h1 h2
            rw [h3] at hr
            have hy : yielded l.toArray a.tmps j = none := by
              unfold yielded
              rw [h2]
              simp only [Option.bind_some]
              cases hx : a.tmps[d']? with
              | none => rfl
              | some x => rw [Array.getD_eq_getD_getElem?, hx] at hr; simp only [Option.getD_some] at hr; cases hr; rfl
            have h6 : (yielded l.toArray a.tmps j == some want) = false := by rw [hy]; rfl
            simp only [Region.wanted, h1, h6]
        simp only [hw]
        exact ⟨fun _ _ => trivial, hafter g undef d hd (Old.refl _ g) (by rw [hsame has]; exact hso) (fun c v hr _ => hr) (.tup rfl (fun i c hi => by simp at hi))⟩
      · have hw := hyes hg
        simp only [hw, if_true]
        have hidm := idX_mem has
        have hst1 : St E g a [] (objX D 0 az ++ σ) := ⟨fun _ => .any _, hsz, hdf, hso⟩
        refine hop.go g a _ _ _ hops hst1 (objX_has (hids' id hidm).2.1 az 0 (fun j id' c hj => hcells' j id' c hj id hidm)) (hcells' i id ob has id hidm) fun g' v hold hloc hso2 hv => hafter g' v d hd hold ?_ ?_ hv
        · refine hso2.le fun o' ob ho1 => ?_
          rw [Sto.get_cons]
          rcases objX_cases (σ := σ) (D := upd D i) az hdist2 o' with ⟨j, c', h1, h2, h3⟩ | ⟨h1, h2⟩
          · by_cases hji : j = i
            · subst hji
              rw [has] at h2
              simp at h2
              obtain ⟨rfl, rfl⟩ := h2
              rw [if_pos rfl, ← ho1, h3]
            · have hne : id ≠ o' := by rintro rfl; exact hji (idX_dist hdist2 h2 has)
              rw [if_neg hne, ← ho1, h3]
              have hDj : D j = true := by unfold upd at h1; rwa [if_neg hji] at h1
              exact objX_some az 0 j hdist2 h2 (by simpa using hDj)
          · have hne : id ≠ o' := by
              rintro rfl
              have := h1 i _ has
              simp [upd] at this
            rw [if_neg hne, ← ho1, h2]
            refine objX_none az 0 (fun j c' hj => ?_)
            rw [Nat.zero_add]
            have h3 := h1 j c' hj
            unfold upd at h3
            split at h3
            · cases h3
            · exact h3
        · intro c v hr hk
          refine hr.mono hold.ext (fun k hck => hloc k ?_)
          rintro rfl
          have := hk k hidm (by rw [has]; rfl)
          rw [this] at hck; cases hck
    · have hil : i < l.length := (List.getElem?_eq_some_iff.1 ho').1
      have his : s ≤ i := by
        rcases Nat.lt_or_ge i s with h1 | h1
        · rw [(hs2 i hil).2 h1] at hDi; cases hDi
        · exact h1
      have hsi : i = s := by
        rcases Nat.lt_or_ge s i with h1 | h1
        · have := hsuf' i o hcl (by omega) ho' he s h1 (.inl (by omega))
          have := (hs2 s (by omega)).1 this
          omega
        · omega
      subst hsi
      have hdrop : l.drop i = o :: l.drop (i + 1) := by
        rw [List.drop_eq_getElem_cons hil]
        congr 1
        exact (List.getElem?_eq_some_iff.1 ho').2
      rw [hdrop] at hs4
      unfold wpOpIn
      rw [ho]
      simp only [wpListIn] at hs4 ⊢
      have hJ' : ∀ a' w', wpListIn (fen E.rd) 0 E.P l.toArray (Ends E K) (l.drop (i + 1)) a' w' → JDX E T l m q fl cs az fr σ frJ σJ K (upd D i) a' w' := by
        intro a' w' hw'
        refine ⟨hcl', .inr (.inl ⟨i + 1, by omega, fun i' hi' => ?_, by omega, hw'⟩)⟩
        unfold upd
        split
        · rename_i hii; subst hii; simp
        · rename_i hii
          rw [hs2 i' hi']
          omega
      split
      · rename_i hw
        rw [if_pos hw] at hs4
        exact Oper.wpIn_mono hJ' hs4
      · rename_i hw
        rw [if_neg hw] at hs4
        exact ⟨hs4.1, hJ' _ _ hs4.2⟩
    · have hnq : i < q := by
        rcases Nat.lt_or_ge i q with h1 | h1
        · exact h1
        · exfalso
          have : (Dl.take q).all _root_.id = true := by
            rw [List.all_eq_true]
            intro x hx
            obtain ⟨j, hj, rfl⟩ := List.mem_iff_getElem.1 hx
            have hjq : j < q := by simp at hj; omega
            have hjl : j < Dl.length := by simp at hj; omega
            have h2 := hsuf' i o hcl (by omega) ho' he j (by omega) (.inl h1)
            rw [hbits j (by omega)] at h2
            simp only [List.getElem_take]
            simpa [List.getD_eq_getElem?_getD, hjl] using h2
          rw [this] at hall2; cases hall2
      have hready : i ∈ readyL l Dl := by
        simp only [readyL, List.mem_filter, List.mem_range]
        refine ⟨hil, ?_⟩
        unfold readyB
        rw [ho']
        simp only [Bool.and_eq_true, Bool.not_eq_true', List.all_eq_true, Bool.or_eq_true]
        refine ⟨by rw [← hbits i hil]; exact hDi, fun e he1 => ?_⟩
        cases hb : Region.binds .any e with
        | false => exact .inl rfl
        | true =>
          refine .inr ?_
          have h1 := he e (by simpa using he1) hb
          have hlt := leadsBack_spec hlb ho e (by simpa using he1) hb
          rw [← hbits e.on (by omega)]
          exact h1
      have hnext : ∀ k, k < l.length → upd D i k = (Dl.set i true).getD k false := by
        intro k hk
        unfold upd
        simp only [List.getD_eq_getElem?_getD, List.getElem?_set]
        by_cases hki : k = i
        · subst hki; simp [hlen, hk]
        · rw [if_neg hki, if_neg (Ne.symm hki), ← List.getD_eq_getElem?_getD]; exact hbits k hk
      cases n with
      | zero => unfold treeL at htree; cases htree
      | succ n =>
        unfold treeL at htree
        rw [hall2] at htree
        obtain ⟨b, h1, h2⟩ := forkL_mem htree i hready
        rw [ho'] at h1
        simp only at h1
        cases hgd : o.guard with
        | some _ => rw [hgd] at h1; cases h1
        | none =>
          rw [hgd] at h1
          cases hdo : opDo T E.N o fr2 σ2 with
          | none => rw [hdo] at h1; cases h1
          | some r =>
            rw [hdo] at h1
            obtain ⟨fr3, σ3⟩ := r
            unfold wpOpIn
            rw [ho]
            have hw : Region.wanted o (yielded l.toArray a.tmps) = true := by simp [Region.wanted, hgd]
            simp only [hw, if_true]
            exact (opDo_ok hT hdo).go g a _ _ hst2 fun g' a' hst3 => enter2 g' a' _ _ _ _ n b hcl' (by simp [hlen]) hnext (fun k hk => by unfold upd; rw [if_neg (by omega)]; exact hge k hk) hst3 h1 (fun p hp => hls2 p (h2 p hp))

section
variable {E : Env} {fr : Fr} {σ : Sto} {k : KS} {ops : Array Oper} {T : Tab} {c : AV} {t ty : TypeId} {pos : String} {af : Array Edge} {row : TyRow}
theorem drX {id : Nat} {l : List Oper} (m q fuel cnt : Nat) (fl : List Nat) (new : Fr) {cs : List AV} {az : ObX} {σ' : Sto} (frJ : Fr) (σJ : Sto) (hT : TabOk E.P T) (hmix : E.P.follows .mixedOrders = true) (hok : drawOkX l m q fl = true) (hm : Nat.ble m q = true) (hq : Nat.ble q l.length = true)
    (hN : ((l.take m).all fun o => o.dst.all fun d => Nat.ble (d + 1) E.N) = true)
    (hp : PresX E l.toArray (new ++ fr) σ (l.take m) cs az) (hfl : (fl.all fun f => match az[f]? with | some none => true | _ => false) = true) (hfree : freeX fr σ cs az = true) (hσ : objX (fun _ => true) 0 az ++ σ = σ') (hnew : newOf (l.take m) cs [] = new)
    (hl : (leavesX T E.N l m q fl fuel cs fr σ').map (fun ls => ls.map fun p => (frJ.map p.1.sel, σJ.map p.2.sel)) = some (List.replicate cnt (frJ, σJ.map fun p => some p.2))) (h : (GS.ops l.toArray (l.drop q) frJ σJ k).holds E) : (GS.code (.region id l.toArray true) fr σ k).holds E := by
  cases hls : leavesX T E.N l m q fl fuel cs fr σ' with
  | none => rw [hls] at hl; cases hl
  | some ls =>
    rw [hls] at hl
    simp only [Option.map_some, Option.some.injEq] at hl
    refine awp_drawnX m q fuel fl new frJ σJ hT hmix hok hm hq hfl hN hp hfree hσ hnew hls (fun p hp => ?_) h
    have h1 : (frJ.map p.1.sel, σJ.map p.2.sel) ∈ List.replicate cnt (frJ, σJ.map fun p => some p.2) := by rw [← hl]; exact List.mem_map.2 ⟨p, hp, rfl⟩
    rw [List.mem_replicate] at h1
    have h2 := Prod.mk.inj h1.2
    exact ⟨frw h2.1, stw h2.2⟩
theorem pqX {o : Oper} {l : List Oper} {cs : List AV} {az : ObX} (hT : TabOk E.P T) (hq : qval T fr.ev σ o.op = some c) (hg : GuardYes ops fr o) (hr : PresX E ops fr σ l cs az) : PresX E ops fr σ (o :: l) (c :: cs) (none :: az) := .run hg (opG_q (qval_ok hT hq)) hr
end
end Go.Proofs.YtpclhpncmlbccaaGreatDoor

/- Arrays as values: literals, elements. No program is named. -/
namespace Go.Proofs.YtpclhpncmlbccaaGreatDoor
open Go.RowKit
section
variable {P : Program} {dst : Option Tmp} {ty : TypeId} {pos : String} {af : Array Edge} {gu : Option (Nat × Bool)} {ρ : Operand → AV} {σ : Sto}
variable {t e : TypeId} {size bytes ss sb len : Nat} {zero sz : Value} {d : TypeDesc} {x y : Operand} {k : IntKind} {n : Int}
/-- an array's literal -/
theorem ev_buildA {ps : List (Nat × Operand)} {z cs : List AV} (ht : TyOk P t ss sb sz (.array len e)) (he : TyOk P e size bytes zero d)
    (hz : (constAV sz).cells = some z ∨ sz.cells.toList.map constAV = z ∧ sz.cells.toList.all cellV = true) (hc : fillA (fun i => some (i * size, size)) z (ps.map fun p => (p.1, ρ p.2)) = some cs) : EvQ P ⟨dst, .build t ps.toArray, ty, pos, af, gu⟩ ρ σ (.agg cs) :=
  ⟨fun c => by simp, fun g ρv hh _ => by
    obtain ⟨out, h1, h2⟩ := fill_ok (g := g) (ps.map fun p => (p.1, ρ p.2)) (ps.map fun p => (p.1, ρv p.2)) z sz.cells cs (cells_zero g sz hz) (by simp) (fun i p v hp hv => by
      simp only [List.getElem?_map, Option.map_eq_some_iff] at hp hv
      obtain ⟨q, hq, rfl⟩ := hp
      obtain ⟨q', hq', rfl⟩ := hv
      rw [hq] at hq'
      cases hq'
      refine ⟨rfl, hh q.2 ?_⟩
      simp only [Op.operands]
      simp only [List.mem_toArray, List.mem_map]
      exact ⟨q, List.mem_of_getElem? hq, rfl⟩) hc
    refine ⟨.agg out, ?_, .agg h2.n h2.c h2.r⟩
    show Sem.run P (do let v ← Instr.build t (ps.toArray.map fun (i, x) => (i, ρv x)); pure (Next.value v)) g.w = _
    simp only [Instr.build, underlying, program, Sem.run_bind, Sem.run, ht.u, ht.zeroValue, Result.andThen_ok, Sem.run_pure, he.sizeOf]
    have e1 : (ps.toArray.map fun (x : Nat × Operand) => (x.1, ρv x.2)).toList = ps.map fun p => (p.1, ρv p.2) := by simp
    simp only [e1, h1]
    rfl⟩
/-- an element of an array: one cell -/
theorem ev_aidx {α : Type} {f : α → List PV} {L : List α} {a : α} {p : PV} (hx : ρ x = .agg (L.flatMap fun a => (f a).map AV.pv)) (hy : ρ y = .pv (.b (.int k n))) (ht : TyOk P t ss sb sz (.array len e)) (he : TyOk P e 1 bytes zero d) (hd : dAgg d = false)
    (hl : L.length = len) (hz : ∀ a, (f a).length = 1) (hi : idx L n = some a) (hp : f a = [p]) : EvQ P ⟨dst, .index t x y, ty, pos, af, gu⟩ ρ σ (.pv p) :=
  ⟨fun c => by simp, fun g ρv h _ => by
    obtain ⟨h1, h2⟩ := ops2 (o := ⟨dst, .index t x y, ty, pos, af, gu⟩) (x := x) (y := y) rfl h
    rw [hx] at h1
    rw [hy] at h2
    have e2 := rel_b h2
    obtain ⟨h0, hc⟩ := idx_spec hi
    have hlt : n.toNat < L.length := (List.getElem?_eq_some_iff.1 hc).1
    generalize hv : ρv x = v at h1
    cases h1 with
    | @agg _ vs hn hcv hr =>
      have hg := flatMap_get hz L n.toNat 0 a p hc (by rw [hp]; rfl)
      simp only [Nat.mul_one, Nat.add_zero] at hg
      have hsz : n.toNat < vs.size := by rw [hn]; exact (List.getElem?_eq_some_iff.1 hg).1
      refine ⟨vs.getD n.toNat undef, ?_, hr _ _ hg⟩
      simp only [execOp, Instr.index, hv, e2, asIntOf, underlying, program, Sem.run_bind, Sem.run, ht.u, Result.andThen_ok, Sem.run_pure, he.sizeOf, Nat.mul_one]
      rw [if_pos ⟨h0, by omega⟩]
      simp only [Sem.run_bind, he.sizeOf, Result.andThen_ok, Nat.mul_one, part_one he hd hsz]
      done⟩
end
end Go.Proofs.YtpclhpncmlbccaaGreatDoor

/- Interface values by whether they hold something: comparisons with nil. No program is named. -/
namespace Go.Proofs.YtpclhpncmlbccaaGreatDoor
open Go.RowKit
variable {P : Program} {ρ : Operand → AV} {σ : Sto} {dst : Option Tmp} {ty : TypeId} {pos : String} {af : Array Edge} {gu : Option (Nat × Bool)}
end Go.Proofs.YtpclhpncmlbccaaGreatDoor

/- Variables that are written no more are published with their cells; calls of function values by contract. No program is named. -/
namespace Go.Proofs.YtpclhpncmlbccaaGreatDoor
open Go.RowKit
mutual
/-- a pointer to the object o is one to published cells -/
def AV.epS (o : Nat) (cs : List PV) : AV → AV
  | .ptr o' off => bif Nat.beq o' o then (bif Nat.ble off cs.length then .ep (cs.drop off) else .any) else .ptr o' off
  | .agg l => .agg (AV.epL o cs l)
  | .tup l => .tup (AV.epL o cs l)
  | .fn f a c => .fn f (AV.epL o cs a) (AV.epL o cs c)
  | .ls o' => bif Nat.beq o' o then .any else .ls o'
  | c => c
def AV.epL (o : Nat) (cs : List PV) : List AV → List AV
  | [] => []
  | c :: l => c.epS o cs :: AV.epL o cs l
end
theorem AV.epL_eq (o : Nat) (cs : List PV) (l : List AV) : AV.epL o cs l = l.map (AV.epS o cs) := by
  induction l with
  | nil => rfl
  | cons c l ih => unfold AV.epL; rw [ih]; rfl
def Fr.epS (o : Nat) (cs : List PV) : Fr → Fr
  | [] => []
  | (k, c) :: r => (k, c.epS o cs) :: Fr.epS o cs r
theorem Fr.get_epS (o : Nat) (cs : List PV) (fr : Fr) (d : Nat) : (fr.epS o cs).get d = (fr.get d).epS o cs := by
  induction fr with
  | nil => simp [Fr.epS, Fr.get, AV.epS]
  | cons x r ih =>
    obtain ⟨k, c⟩ := x
    unfold Fr.epS
    rw [Fr.get_cons, Fr.get_cons, ih]
    split <;> rfl
theorem rel_epS {g g' : G} {o b : Nat} {cs : List PV} {vs : Array Value} {t : TypeId} {fz : Nat × Nat} (hl : g.loc o = .blk b) (hb : g.w.heap[b]? = some (.cells vs t fz)) (hn : vs.size = cs.length)
    (hc : ∀ i c, cs[i]? = some c → RelP g.w g.u c (vs.getD i undef)) (hx : Ext g.w g.u g'.w g'.u) (hh : g'.w.heap[b]? = g.w.heap[b]?) (hu : g'.u b = cs.length) (hloc : ∀ k, k ≠ o → g'.loc k = g.loc k)
    {c : AV} {v : Value} (h : Rel g c v) : Rel g' (c.epS o cs) v := by
  induction h with
  | any v => exact .any v
  | pv h => exact .pv (h.mono hx)
  | agg hl2 hc2 h ih =>
    unfold AV.epS; rw [AV.epL_eq]
    refine .agg (by simp [hl2]) hc2 fun i c hi => ?_
    simp only [List.getElem?_map, Option.map_eq_some_iff] at hi
    obtain ⟨c', h1, rfl⟩ := hi
    exact ih i c' h1
  | tup hl2 h ih =>
    unfold AV.epS; rw [AV.epL_eq]
    refine .tup (by simp [hl2]) fun i c hi => ?_
    simp only [List.getElem?_map, Option.map_eq_some_iff] at hi
    obtain ⟨c', h1, rfl⟩ := hi
    exact ih i c' h1
  | @ptr o' off b' h1 =>
    unfold AV.epS
    cases hbq : Nat.beq o' o with
    | false =>
      have hk : o' ≠ o := fun e => by rw [e] at hbq; simp at hbq
      rw [cond_false]; exact .ptr ((hloc o' hk).trans h1)
    | true =>
      have hk : o' = o := Nat.eq_of_beq_eq_true hbq
      subst hk
      rw [hl] at h1
      cases h1
      rw [cond_true]
      cases hle : Nat.ble off cs.length with
      | false => exact .any _
      | true =>
        have hle := Nat.le_of_ble_eq_true hle
        rw [cond_true]
        refine .ep (fun i => vs.getD (off + i) undef) (by rw [hu]; simp; omega) ?_ (fun i hi => ?_) (fun i c hi => ?_)
        · have := blk_lt hb
          have := hx.size
          omega
        · have hi' : off + i < vs.size := by simp at hi; omega
          simp only [World.cell?, hh, hb]
          simp [Array.getD, hi']
        · rw [List.getElem?_drop] at hi
          exact (hc _ c hi).mono hx
  | ep val h1 h2 h3 h4 => exact (Rel.ep (g := g) val h1 h2 h3 h4).mono hx (fun o' ho' => by cases ho')
  | @hsNil r a h1 =>
    by_cases hk : r = o
    · subst hk; rw [hl] at h1; cases h1
    · exact .hsNil a ((hloc r hk).trans h1)
  | @hs r b1 off cap size n a h1 h2 =>
    by_cases hk : r = o
    · subst hk; rw [hl] at h1; cases h1
    · exact .hs ((hloc r hk).trans h1) h2
  | @hp r idx j b1 off cap size n h1 h2 =>
    by_cases hk : r = o
    · subst hk; rw [hl] at h1; cases h1
    · exact .hp ((hloc r hk).trans h1) h2
  | @fn f first captured fv cv h1 h2 hf hc2 ihf ihc =>
    unfold AV.epS; rw [AV.epL_eq, AV.epL_eq]
    refine .fn (by simp [h1]) (by simp [h2]) (fun i c hi => ?_) (fun i c hi => ?_)
    · simp only [List.getElem?_map, Option.map_eq_some_iff] at hi
      obtain ⟨c', h3, rfl⟩ := hi
      exact ihf i c' h3
    · simp only [List.getElem?_map, Option.map_eq_some_iff] at hi
      obtain ⟨c', h3, rfl⟩ := hi
      exact ihc i c' h3
  | @mp o' b1 h1 =>
    by_cases hk : o' = o
    · subst hk; rw [hl] at h1; cases h1
    · exact .mp ((hloc o' hk).trans h1)
  | @hsubNil r lo a h1 =>
    by_cases hk : r = o
    · subst hk; rw [hl] at h1; cases h1
    · exact .hsubNil a ((hloc r hk).trans h1)
  | @hsub r lo b1 off cap size n a h1 h2 h3 =>
    by_cases hk : r = o
    · subst hk; rw [hl] at h1; cases h1
    · exact .hsub ((hloc r hk).trans h1) h2 h3
  | z0 a => exact .z0 a
  | ifc h => exact .ifc h
  | @hpreNil r a h1 =>
    by_cases hk : r = o
    · subst hk; rw [hl] at h1; cases h1
    · exact .hpreNil a ((hloc r hk).trans h1)
  | @hpre r hi b1 off cap size n a h1 h2 h3 =>
    by_cases hk : r = o
    · subst hk; rw [hl] at h1; cases h1
    · exact .hpre ((hloc r hk).trans h1) h2 h3
  | @nsNil r a h1 =>
    by_cases hk : r = o
    · subst hk; rw [hl] at h1; cases h1
    · exact .nsNil a ((hloc r hk).trans h1)
  | @ns r b1 off cap size n size2 subs a h1 h2 =>
    by_cases hk : r = o
    · subst hk; rw [hl] at h1; cases h1
    · exact .ns ((hloc r hk).trans h1) h2
  | @np r idx j b1 off cap size n size2 subs h1 h2 =>
    by_cases hk : r = o
    · subst hk; rw [hl] at h1; cases h1
    · exact .np ((hloc r hk).trans h1) h2
  | @hnNil r idx b1 off cap size n size2 subs a cap2 h1 h2 =>
    by_cases hk : r = o
    · subst hk; rw [hl] at h1; cases h1
    · exact .hnNil a cap2 ((hloc r hk).trans h1) h2
  | @hn r idx b1 off cap size n size2 b2 off2 cap2 n2 subs h1 h2 =>
    by_cases hk : r = o
    · subst hk; rw [hl] at h1; cases h1
    · exact .hn ((hloc r hk).trans h1) h2
  | @hnp r idx k j b1 off cap size n size2 b2 off2 cap2 n2 subs h1 h2 h3 =>
    by_cases hk : r = o
    · subst hk; rw [hl] at h1; cases h1
    · exact .hnp ((hloc r hk).trans h1) h2 h3
  | nn h => exact .nn h
  | @ls r b1 h1 =>
    unfold AV.epS
    cases hbq : Nat.beq r o with
    | true => exact .any _
    | false =>
      have hk : r ≠ o := fun e => by rw [e] at hbq; simp at hbq
      exact .ls ((hloc r hk).trans h1)
  | @mr r b1 subs h1 =>
    by_cases hk : r = o
    · subst hk; rw [hl] at h1; cases h1
    · exact .mr ((hloc r hk).trans h1)
variable {P : Program} {σ : Sto} {dst : Option Tmp} {ty : TypeId} {pos : String} {af : Array Edge} {gu : Option (Nat × Bool)} {E : Env} {fr : Fr} {K : Post}
theorem St.pubbox {g : G} {a : Act} {o : Nat} {cs : List PV} (h : St E g a fr σ) (ho : σ.get o = some (.cells (cs.map .pv))) (hd : (σ.del o).has o = false) : ∃ g', g'.w = g.w ∧ St E g' a (fr.epS o cs) (σ.del o) := by
  have hob := h.so.obj o _ ho
  generalize hls : cs.map AV.pv = ls at hob
  cases hob with
  | @cells _ b t vs hl hb hn hu hcv hrel =>
    subst hls
    have hbl := blk_lt hb
    have hx : Ext g.w g.u g.w (fun k => if k = b then cs.length else g.u k) := ⟨Nat.le_refl _, fun k _ => by split <;> simp_all, fun _ _ _ _ => rfl, fun _ h => h⟩
    have hsub : ∀ o' ob b', σ.get o' = some ob → ob.own (g.loc o') b' → o' ≠ o → b' ≠ b := by
      rintro o' ob b' ho' hb' hne rfl
      exact hne (h.so.apart o' o ob _ b' ho' ho hb' (by rw [hl]; rfl))
    have hget : ∀ o' ob, (σ.del o).get o' = some ob → o' ≠ o ∧ σ.get o' = some ob := by
      intro o' ob h1
      rw [Sto.get_del] at h1
      split at h1
      · cases h1
      · rename_i h2; exact ⟨h2, h1⟩
    have hcells : ∀ i c, cs[i]? = some c → RelP g.w g.u c (vs.getD i undef) := fun i c hi => by
      have := hrel i (.pv c) (by simp [hi])
      cases this with
      | pv h => exact h
    refine ⟨⟨g.w, fun k => if k = b then cs.length else g.u k, g.loc⟩, rfl, ⟨fun d => ?_, h.n, h.df, ⟨?_, ?_, ?_, ?_, ?_⟩⟩⟩
    · rw [Fr.get_epS]
      exact rel_epS (g' := ⟨g.w, fun k => if k = b then cs.length else g.u k, g.loc⟩) hl hb (by simpa using hn) hcells hx rfl (if_pos rfl) (fun _ _ => rfl) (h.fr d)
    · intro o' ob h1
      obtain ⟨h2, h3⟩ := hget o' ob h1
      exact (h.so.obj o' ob h3).mono hx rfl (fun _ _ => rfl) fun b' hb' => ⟨rfl, if_neg (hsub o' ob b' h3 hb' h2)⟩
    · intro o1 o2 ob1 ob2 b1 h1 h2
      exact h.so.apart o1 o2 ob1 ob2 b1 (hget o1 ob1 h1).2 (hget o2 ob2 h2).2
    · intro o1 ob1 b1 h1
      exact h.so.mine o1 ob1 b1 (hget o1 ob1 h1).2
    · refine h.so.old.trans ⟨rfl, rfl, rfl, hx, fun k hk hs => ⟨rfl, if_neg ?_⟩⟩
      rintro rfl
      rcases h.so.mine o _ k ho (by rw [hl]; rfl) with h1 | h1
      · exact hs (.inr h1)
      · exact hs (.inl h1)
    · intro k hk
      show (if k = b then cs.length else g.u k) = 0
      rw [if_neg (by have : g.w.heap.size ≤ k := hk; omega)]
      exact h.so.wf k hk
theorem awpl_pubbox {ops : Array Oper} {ol : List Oper} (o : Nat) {cs : List PV} (ho : σ.get o = some (.cells (cs.map .pv))) (hd : (σ.del o).has o = false) (h : AWPL E ops ol (fr.epS o cs) (σ.del o) K) : AWPL E ops ol fr σ K :=
  ⟨fun g a hst => by
    obtain ⟨g', hw, hst'⟩ := hst.pubbox ho hd
    have := h.go g' a hst'
    rw [hw] at this
    exact this⟩
theorem awp_pubbox {c : Code} (o : Nat) {cs : List PV} (ho : σ.get o = some (.cells (cs.map .pv))) (hd : (σ.del o).has o = false) (h : AWP E c (fr.epS o cs) (σ.del o) K) : AWP E c fr σ K :=
  ⟨fun g a hst => by
    obtain ⟨g', hw, hst'⟩ := hst.pubbox ho hd
    have := h.go g' a hst'
    rw [hw] at this
    exact this⟩
theorem flatMap_one {α : Type} {F : α → List PV} (hF : ∀ y, (F y).length = 1) : ∀ (l : List α) (i : Nat), (l.flatMap F)[i]? = (l[i]?).bind fun y => (F y)[0]?
  | [], i => by simp
  | y :: l, i => by
    obtain ⟨c, hc⟩ := List.length_eq_one_iff.1 (hF y)
    rw [List.flatMap_cons, hc]
    cases i with
    | zero => simp [hc]
    | succ i => simpa using flatMap_one hF l i
/-- an array that is published, as a slice -/
theorem ev_sliceArr {ρ : Operand → AV} {α : Type} {F : α → List PV} {l : List α} {x : Operand} {t e : TypeId} {cells : List PV} {n ss sb bytes : Nat} {sz zero : Value} {d : TypeDesc} (hx : ρ x = .ep cells) (hc : cells = l.flatMap F) (hF : ∀ y, (F y).length = 1) (hn : l.length = n)
    (ht : TyOk P t ss sb sz (.array n e)) (he : TyOk P e 1 bytes zero d) : EvQ P ⟨dst, .slice t x none none none, ty, pos, af, gu⟩ ρ σ (.l F l) :=
  ⟨fun c => by simp, fun g ρv h _ => by
    have h1 := h x (by simp [Op.operands])
    rw [hx] at h1
    generalize hv : ρv x = v at h1
    cases h1 with
    | @ep _ b off val hu hb hcell hrel =>
      have hlen : cells.length = l.length := by
        rw [hc]
        clear hc hn hx
        induction l with
        | nil => rfl
        | cons y l ih => rw [List.flatMap_cons, List.length_append, hF, ih, List.length_cons]; omega
      refine ⟨.slice (some ⟨b, off, none⟩) n n, ?_, ?_⟩
      · show Sem.run P (do let v ← Instr.sliceAt t (ρv x) none none none; pure (Next.value v)) g.w = _
        rw [hv]
        have hs : Sem.run P (Instr.sliceAt t (.pointer (some ⟨b, off, none⟩)) none none none) g.w = .ok (.slice (some ⟨b, off, none⟩) n n) g.w := by
          unfold Instr.sliceAt
          simp only [Sem.run_bind, underlying, program, Sem.run, ht.u, Result.andThen_ok, Sem.run_pure]
          by_cases h0 : n = 0
          · subst h0
            simp [Instr.sureAddr, Instr.sliceBounds, he.sizeOf]
          · simp [Instr.sureAddr, Instr.sliceBounds, he.sizeOf, Addr.add, h0]
        rw [Sem.run_bind, hs]; rfl
      · refine .pv ?_
        have := RelP.sl (w := g.w) (u := g.u) (nl := none) (elems := l.map F) (a := some ⟨b, off, none⟩) (cap := n) 1 b off val (fun x hx => by cases hx) (fun hx => by cases hx) (by simp [hn]) (fun x' hx' => by obtain ⟨y', hy', rfl⟩ := List.mem_map.1 hx'; exact hF y') (fun _ => rfl) (fun _ => ⟨by simp; omega, hb⟩)
          (fun i hi => hcell i (by simp at hi; omega)) (fun i j e c hi hj => by
            simp only [List.getElem?_map, Option.map_eq_some_iff] at hi
            obtain ⟨y, hy, rfl⟩ := hi
            have hj0 : j = 0 := by
              have := (List.getElem?_eq_some_iff.1 hj).1
              rw [hF] at this; omega
            subst hj0
            rw [Nat.mul_one, Nat.add_zero]
            refine hrel i c ?_
            rw [hc, flatMap_one hF, hy]
            exact hj)
        rw [List.length_map, hn] at this
        exact this⟩
end Go.Proofs.YtpclhpncmlbccaaGreatDoor

/- From a law's arguments, as they are read, to the calculus: openers; from a contract to the row's end. -/
namespace Go.Proofs.YtpclhpncmlbccaaGreatDoor
open Go.ChangeShapes Go.WideShapes Go.ChangeAt Go.RowKit

/-- every cell that is there is published -/
def uAll (W : World) (k : Nat) : Nat := match W.heap[k]? with
  | some (.cells vs _ _) => vs.size
  | _ => 0
theorem uAll_lt {W : World} {b i : Nat} {v : Value} (h : W.cell? ⟨b, i, none⟩ = some v) : i < uAll W b ∧ b < W.heap.size := by
  unfold World.cell? at h
  simp only [Option.isSome_none, Bool.false_eq_true, if_false] at h
  split at h
  · rename_i c t z hb
    refine ⟨?_, (Array.getElem?_eq_some_iff.1 hb).1⟩
    unfold uAll
    rw [hb]
    exact (Array.getElem?_eq_some_iff.1 h).1
  · cases h
def gAll (W : World) : G := ⟨W, uAll W, fun _ => .none⟩
theorem wf_all (W : World) : Wf (gAll W) := fun k hk => by
  show uAll W k = 0
  unfold uAll
  have : W.heap[k]? = none := Array.getElem?_eq_none hk
  rw [this]

/-- cells and what they hold -/
structure RelC (W : World) (ps : List PV) (cs : List Value) : Prop where
  len : cs.length = ps.length
  rel : ∀ (i : Nat) (c : PV), ps[i]? = some c → RelP W (uAll W) c (cs.getD i undef)
theorem relC_one {W : World} {p : PV} {v : Value} (h : RelP W (uAll W) p v) : RelC W [p] [v] := ⟨rfl, fun i c hi => by
  cases i with
  | zero => simp at hi; subst hi; exact h
  | succ i => simp at hi⟩
theorem relC_append {W : World} {p1 p2 : List PV} {cs : List Value} {n : Nat} (hn : n = p1.length) (h1 : RelC W p1 (cs.take n)) (h2 : RelC W p2 (cs.drop n)) : RelC W (p1 ++ p2) cs := by
  subst hn
  have l1 := h1.len
  have l2 := h2.len
  simp at l1 l2
  refine ⟨by simp; omega, fun i c hi => ?_⟩
  rcases Nat.lt_or_ge i p1.length with hlt | hge
  · rw [List.getElem?_append_left hlt] at hi
    have := h1.rel i c hi
    simpa [List.getD_eq_getElem?_getD, List.getElem?_take, hlt] using this
  · rw [List.getElem?_append_right hge] at hi
    have := h2.rel _ c hi
    simp only [List.getD_eq_getElem?_getD, List.getElem?_drop] at this ⊢
    rwa [show p1.length + (i - p1.length) = i by omega] at this

/-- **how a type's values are read**: as T's; ok: what is known of them; bk: they are no bulkier than what was read -/
structure Opens (P : Program) (t : TypeId) {T : Type} (n : Nat) (pc : T → List PV) (ok : T → Prop) (bk : T → Nat) : Prop where
  cells : P.cellsOf t = n
  len : ∀ x, (pc x).length = n
  op : ∀ {H : Type} {enc : TypeId × Value → H} {W : World} {fuel : Nat} {cs : List Value} {d : DataW H × List MemPlace}, DataW.trod enc P W 0 (fun _ => true) true fuel t cs = some d →
    ∃ x : T, RelC W (pc x) cs ∧ ok x ∧ bk x ≤ Rows.uptoBulk d.1

def ok64 (n : Int) : Prop := -9223372036854775808 ≤ n ∧ n ≤ 9223372036854775807
def okStr (s : Str) : Prop := s.length ≤ maxLen
def okL {T : Type} (ok : T → Prop) (l : List T) : Prop := l.length ≤ maxLen ∧ ∀ x ∈ l, ok x
def bkL {T : Type} (bk : T → Nat) : List T → Nat
  | [] => 1
  | x :: r => bk x + bkL bk r

variable {P : Program} {t e : TypeId}
theorem opens_I (ht : P.underlying t = some (.int .i64)) (hc : P.cellsOf t = 1) : Opens P t 1 cI ok64 (fun _ => 1) := ⟨hc, fun _ => rfl, fun h => by
  obtain ⟨n, rfl, rfl, hw⟩ := DataW.trod_int ht h
  refine ⟨n, relC_one (.b rfl), ?_, by simp [Rows.uptoBulk]⟩
  unfold ok64
  simpa [Lit.wf, IntKind.min, IntKind.max, IntKind.signed, IntKind.bits] using hw⟩
theorem opens_U (ht : P.underlying t = some (.int .u8)) (hc : P.cellsOf t = 1) : Opens P t 1 cU (fun _ => True) (fun _ => 1) := ⟨hc, fun _ => rfl, fun {H enc W fuel cs d} h => by
  obtain ⟨n, rfl, rfl, hw⟩ := DataW.trod_int ht h
  have hw : 0 ≤ n ∧ n ≤ 255 := by simpa [Lit.wf, IntKind.min, IntKind.max, IntKind.signed, IntKind.bits] using hw
  refine ⟨UInt8.ofNat n.toNat, relC_one ?_, trivial, by simp [Rows.uptoBulk]⟩
  have : ((UInt8.ofNat n.toNat).toNat : Int) = n := by
    rw [UInt8.toNat_ofNat']
    omega
  show RelP W (uAll W) (.b (.int .u8 _)) _
  rw [this]
  exact .b rfl⟩
theorem opens_S (ht : P.underlying t = some .string) (hc : P.cellsOf t = 1) : Opens P t 1 cS okStr (fun s => s.length + 1) := ⟨hc, fun _ => rfl, fun {H enc W fuel cs d} h => by
  obtain ⟨s, rfl, rfl, hw⟩ := DataW.trod_string ht h
  refine ⟨s.data.toList, relC_one ?_, ?_, ?_⟩
  · have : strB s.data.toList = s := by cases s; simp [strB]
    show RelP W (uAll W) (.b (.string (strB s.data.toList))) _
    rw [this]; exact .b rfl
  · show s.data.toList.length ≤ maxLen
    have : s.data.toList.length = s.size := by cases s; rfl
    omega
  · simp [Rows.uptoBulk]⟩
theorem bkL_map {T : Type} {H : Type} {bk : T → Nat} (n : Nat) (X : Nat → T) (D : Nat → DataW H) (h : ∀ i, i < n → bk (X i) ≤ Rows.uptoBulk (D i)) : bkL bk ((List.range n).map X) ≤ Rows.uptoBulkAll ((List.range n).map D) + 1 := by
  suffices h' : ∀ l : List Nat, (∀ i ∈ l, i < n) → bkL bk (l.map X) ≤ Rows.uptoBulkAll (l.map D) + 1 from h' _ (fun i hi => List.mem_range.1 hi)
  intro l
  induction l with
  | nil => intro _; simp [bkL]
  | cons i l ih =>
    intro hl
    have h1 := h i (hl i (List.mem_cons_self ..))
    have h2 := ih fun j hj => hl j (List.mem_cons_of_mem _ hj)
    simp only [List.map_cons, bkL, Rows.uptoBulkAll]
    omega
theorem opens_L {T : Type} [Inhabited T] {n : Nat} {pc : T → List PV} {ok : T → Prop} {bk : T → Nat} (h : Opens P e n pc ok bk) (hn : Nat.blt 0 n = true) (ht : P.underlying t = some (.slice e)) (hc : P.cellsOf t = 1) : Opens P t 1 (cL pc) (okL ok) (bkL bk) := ⟨hc, fun _ => rfl, fun {H enc W fuel cs d} hd => by
  have hn : 0 < n := Nat.le_of_ble_eq_true hn
  rcases Go.Deep.open_slice ht hd with ⟨rfl, rfl⟩ | ⟨a, len, cap, m, n', D, Pl, rfl, hb, hl, hm, hmm, rfl, hx⟩
  · refine ⟨[], relC_one (RelP.sl (a := none) (cap := 0) 1 0 0 (fun _ => undef) (fun x hx => by cases hx) (fun _ => ⟨rfl, rfl⟩) (by simp) (by simp) (by simp) (by simp) (fun i hi => by simp at hi) (fun i j e c hi => by simp at hi)), ⟨Nat.zero_le _, by simp⟩, by simp [bkL, Rows.uptoBulk]⟩
  · simp only [if_true] at hmm
    subst hmm
    obtain ⟨X, hX⟩ := Go.Deep.choose_lt (n := len) (p := fun i (x : T) => ∃ cs', W.cells? 0 (a.add (i * P.cellsOf e)) (P.cellsOf e) = some cs' ∧ RelC W (pc x) cs' ∧ ok x ∧ bk x ≤ Rows.uptoBulk (D i)) (fun i hi => by
      obtain ⟨cs', h1, h2⟩ := hx i (by omega)
      obtain ⟨x, h3, h4, h5⟩ := h.op h2
      exact ⟨x, cs', h1, h3, h4, h5⟩)
    rw [h.cells] at hX
    have hcell : ∀ i j, i < len → j < n → ∃ v, W.cell? (a.add (i * n + j)) = some v ∧ ∀ c, (pc (X i))[j]? = some c → RelP W (uAll W) c v := by
      intro i j hi hj
      obtain ⟨cs', h1, h2, _⟩ := hX i hi
      obtain ⟨_, hlen, hget⟩ := World.cells?_some h1
      have hj' := hget j hj
      have hadd : (a.add (i * n)).add j = a.add (i * n + j) := by
        unfold Addr.add
        by_cases h0 : j = 0
        · simp [h0]
        · by_cases h00 : i * n = 0
          · simp [h0, h00]
          · rw [if_neg h0, if_neg h00, if_neg (by omega)]
            simp [Nat.add_assoc]
      rw [hadd] at hj'
      have hlt : j < cs'.length := by omega
      refine ⟨cs'[j], by rw [hj']; exact List.getElem?_eq_getElem hlt, fun c hc' => ?_⟩
      have := h2.rel j c hc'
      simpa [List.getD_eq_getElem?_getD, List.getElem?_eq_getElem hlt] using this
    by_cases h0 : len = 0
    · subst h0
      refine ⟨[], relC_one (RelP.sl (elems := []) (a := some a) (cap := m) 1 0 0 (fun _ => undef) (fun x hx => by cases hx) (fun hx => by cases hx) (by simp) (by simp) (by simp) (by simp) (fun i hi => by simp at hi) (fun i j e c hi => by simp at hi)), ⟨Nat.zero_le _, by simp⟩, by simp [bkL, Rows.uptoBulk]⟩
    obtain ⟨b, off, spot⟩ := a
    have hspot : spot = none := by
      obtain ⟨v, hv, _⟩ := hcell 0 0 (by omega) hn
      simpa [Addr.add] using World.cell?_spot hv
    subst hspot
    have hadd : ∀ i, (⟨b, off, none⟩ : Addr).add i = ⟨b, off + i, none⟩ := by
      intro i
      unfold Addr.add
      by_cases h0 : i = 0
      · simp [h0]
      · simp [h0]
    simp only [hadd] at hcell
    have hdm : ∀ i j, j < n → (i * n + j) / n = i ∧ (i * n + j) % n = j := by
      intro i j hj
      rw [Nat.mul_comm, Nat.mul_add_div hn, Nat.mul_add_mod]
      exact ⟨by rw [Nat.div_eq_of_lt hj]; rfl, Nat.mod_eq_of_lt hj⟩
    have hcv : ∀ k, k < len * n → ∃ v, W.cell? ⟨b, off + k, none⟩ = some v ∧ ∀ c, (pc (X (k / n)))[k % n]? = some c → RelP W (uAll W) c v := by
      intro k hk
      have h1 : k / n < len := Nat.div_lt_of_lt_mul (by rw [Nat.mul_comm]; exact hk)
      have h2 : k % n < n := Nat.mod_lt _ hn
      have := hcell (k / n) (k % n) h1 h2
      rwa [show k / n * n + k % n = k by rw [Nat.mul_comm]; exact Nat.div_add_mod k n] at this
    obtain ⟨V, hV⟩ := Go.Deep.choose_lt (α := Value) hcv
    refine ⟨(List.range len).map X, ?_, ⟨by simp; omega, ?_⟩, ?_⟩
    · have key : RelP W (uAll W) (.sl none (((List.range len).map X).map pc)) (.slice (some ⟨b, off, none⟩) (((List.range len).map X).map pc).length m) := by
        refine .sl n b off V (fun x hx => by cases hx) (fun hx => by cases hx) (by simpa using hl) (fun e he => ?_) (fun _ => rfl) (fun _ => ?_) (fun i hi => ?_) (fun i j e' c hi hj => ?_)
        · simp only [List.map_map, List.mem_map] at he
          obtain ⟨i, _, rfl⟩ := he
          exact h.len _
        · simp only [List.length_map, List.length_range]
          have hpos : 0 < len * n := Nat.mul_pos (by omega) hn
          obtain ⟨hv, _⟩ := hV (len * n - 1) (by omega)
          obtain ⟨h1, h2⟩ := uAll_lt hv
          exact ⟨by omega, h2⟩
        · exact (hV i (by simpa using hi)).1
        · simp only [List.getElem?_map, List.map_map] at hi
          rw [Option.map_eq_some_iff] at hi
          obtain ⟨i', hi', rfl⟩ := hi
          obtain ⟨hlt, rfl⟩ := List.getElem?_eq_some_iff.1 hi'
          simp only [List.length_range] at hlt
          simp only [List.getElem_range, Function.comp] at hj
          have hjn : j < n := by have := (List.getElem?_eq_some_iff.1 hj).1; rw [h.len] at this; exact this
          have hk : i * n + j < len * n := by
            have := Nat.mul_le_mul_right n (show i + 1 ≤ len from hlt)
            rw [Nat.add_mul] at this
            omega
          have := (hV _ hk).2 c
          rw [(hdm i j hjn).1, (hdm i j hjn).2] at this
          exact this hj
      have hl' : (((List.range len).map X).map pc).length = len := by simp
      rw [hl'] at key
      exact relC_one key
    · intro x hx
      simp only [List.mem_map, List.mem_range] at hx
      obtain ⟨i, hi, rfl⟩ := hx
      obtain ⟨_, _, _, h4, _⟩ := hX i hi
      exact h4
    · have := bkL_map len X D (fun i hi => by obtain ⟨_, _, _, _, h5⟩ := hX i hi; exact h5)
      simp only [Rows.uptoBulk]
      omega⟩

/-- an argument of one cell -/
theorem arg_one {T : Type} {pc : T → List PV} {ok : T → Prop} {bk : T → Nat} (h : Opens P t 1 pc ok bk) {H : Type} {enc : TypeId × Value → H} {W : World} {v : Value} {d : DataW H} {ps : List MemPlace} (hv : cellV v = true) (hd : DataW.Trod enc P W 0 (fun _ => true) true t v d ps) :
    ∃ x, (∀ p, pc x = [p] → Rel (gAll W) (.pv p) v) ∧ ok x ∧ bk x ≤ Rows.uptoBulk d := by
  obtain ⟨fuel, hf⟩ := hd
  obtain ⟨x, h1, h2, h3⟩ := h.op hf
  refine ⟨x, fun p hp => .pv ?_, h2, h3⟩
  have hcs : v.cells.toList = [v] := by cases v <;> first | rfl | cases hv
  rw [hcs, hp] at h1
  have := h1.rel 0 p rfl
  exact this
/-- an argument that is a structure -/
theorem arg_agg {T : Type} {n : Nat} {pc : T → List PV} {ok : T → Prop} {bk : T → Nat} (h : Opens P t n pc ok bk) {H : Type} {enc : TypeId × Value → H} {W : World} {v : Value} {d : DataW H} {ps : List MemPlace} (hv : ∃ cs, v = .agg cs) (hd : DataW.Trod enc P W 0 (fun _ => true) true t v d ps) :
    ∃ x, Rel (gAll W) (.agg ((pc x).map .pv)) v ∧ ok x ∧ bk x ≤ Rows.uptoBulk d := by
  obtain ⟨cs, rfl⟩ := hv
  obtain ⟨fuel, hf⟩ := hd
  obtain ⟨x, h1, h2, h3⟩ := h.op hf
  refine ⟨x, ?_, h2, h3⟩
  have hl := h1.len
  simp only [Value.cells, Array.length_toList] at hl
  have hr : ∀ (i : Nat) (c : PV), (pc x)[i]? = some c → RelP W (uAll W) c (cs.getD i undef) := fun i c hi => by
    have := h1.rel i c hi
    simpa [Value.cells, List.getD_eq_getElem?_getD, Array.getD_eq_getD_getElem?] using this
  refine .agg (by simpa using hl) (fun i hi => ?_) (fun i c hi => ?_)
  · have hlt : i < (pc x).length := by omega
    exact (hr i _ (List.getElem?_eq_getElem hlt)).cellV
  · simp only [List.getElem?_map, Option.map_eq_some_iff] at hi
    obtain ⟨c', hc, rfl⟩ := hi
    exact .pv (hr i c' hc)

/-- **a contract is a law's walk** -/
theorem calls_of_run {f : FuncId} {args : List AV} (h : Run P f args (.pv (pB true))) {W : World} {vs : Array Value} (hgl : Gl (gAll W)) (ha : RelArgs (gAll W) args vs) : Calls P f vs W fun e W' => e = .returned (.bool true) ∧ Below W.heap.size W W' := by
  refine callsIn_wide.1 ((h.run (gAll W) vs (wf_all W) hgl ha).mono ?_)
  rintro e w' ⟨g', v, rfl, hl, ho, hw, rfl, hv⟩
  refine ⟨by rw [rel_bool hv], ⟨ho.os, ho.tape, ho.output, ho.ext.size, fun k hk => (ho.block k hk (by simp)).1⟩⟩

theorem relC_seg {W : World} {p1 p2 : List PV} {cs : List Value} {off n : Nat} (hn : n = p1.length) (h1 : RelC W p1 ((cs.drop off).take n)) (h2 : RelC W p2 (cs.drop (off + n))) : RelC W (p1 ++ p2) (cs.drop off) := relC_append hn h1 (by rw [List.drop_drop]; exact h2)
theorem relC_end {W : World} {cs : List Value} {k : Nat} (h : cs.length = k) : RelC W [] (cs.drop k) := ⟨by simp [h], fun i c hi => by simp at hi⟩
inductive RelL (g : G) : List AV → List Value → Prop
  | nil : RelL g [] []
  | cons {c : AV} {v : Value} {cs : List AV} {vs : List Value} (h : Rel g c v) (r : RelL g cs vs) : RelL g (c :: cs) (v :: vs)
theorem relArgs_of {g : G} {cs : List AV} {vs : List Value} (h : RelL g cs vs) : RelArgs g cs vs.toArray := by
  have key : vs.length = cs.length ∧ ∀ (i : Nat) (c : AV), cs[i]? = some c → Rel g c (vs.getD i undef) := by
    induction h with
    | nil => exact ⟨rfl, fun i c hi => by simp at hi⟩
    | cons h _ ih =>
      refine ⟨by simp [ih.1], fun i c hi => ?_⟩
      cases i with
      | zero => simp at hi; subst hi; exact h
      | succ i => exact ih.2 i c (by simpa using hi)
  exact ⟨by simpa using key.1, fun i c hi => by have := key.2 i c hi; simpa [List.getD_eq_getElem?_getD] using this⟩

end Go.Proofs.YtpclhpncmlbccaaGreatDoor

/- Small facts that all my walks use: endings, blocks, rows, frames. No program is named. -/
namespace Go.Proofs.YtpclhpncmlbccaaGreatDoor
open Go.RowKit

/-- block b is just these cells, none frozen -/
def Blk (w : World) (b : Nat) (t : TypeId) (cs : Array Value) : Prop := w.heap[b]? = some (.cells cs t (0, 0))
theorem Blk.lt {w : World} {b : Nat} {t : TypeId} {cs : Array Value} (h : Blk w b t cs) : b < w.heap.size := by
  rcases Nat.lt_or_ge b w.heap.size with hlt | hge
  · exact hlt
  · unfold Blk at h; rw [Array.getElem?_eq_none hge] at h; cases h
theorem Blk.two {w : World} {b : Nat} {t : TypeId} {x y : Value} (h : Blk w b t #[x, y]) :
    w.cell? ⟨b, 0, none⟩ = some x ∧ w.cell? ⟨b, 1, none⟩ = some y ∧ w.frozen? ⟨b, 0, none⟩ = false ∧ w.frozen? ⟨b, 1, none⟩ = false ∧ b < w.heap.size := by
  refine ⟨?_, ?_, ?_, ?_, h.lt⟩ <;> unfold Blk at h <;> simp [World.cell?, World.frozen?, h]
theorem Blk.new (w : World) (t : TypeId) (cs : Array Value) : Blk (w.alloc (.cells cs t)) w.heap.size t cs := heap_alloc_new w _
theorem Blk.alloc {w : World} {b : Nat} {t : TypeId} {cs : Array Value} (h : Blk w b t cs) (o : Obj) : Blk (w.alloc o) b t cs := (Below.heap_alloc w o b h.lt).trans h
section
variable {w1 w2 : World} {b t : Nat} {cs : Array Value} {o : Obj}
end
end Go.Proofs.YtpclhpncmlbccaaGreatDoor

/- What every law's row wants at its end: arguments of any shape read as they did where nothing that was there has turned. -/
namespace Go.Proofs.YtpclhpncmlbccaaGreatDoor
open Go.ChangeShapes Go.WideShapes Go.ChangeAt Go.RowKit
open Go.ChangeMaps (open_string shut_string)

theorem own : ownKnob Tryz.prog.godebug = none := by kernel_rfl
theorem laidOut : laidOutB Tryz.prog = true := by kernel_rfl

theorem trodAll_stays {H : Type} {enc : TypeId × Value → H} {P : Program} (hl : laidOutB P = true) {W W' : World} (hb : Below W.heap.size W W') :
    ∀ (ts : List TypeId) (vs : List Value) (ds : List (DataW H)) (ps : List MemPlace), (ts.all fun t => P.readableRec t && decide (t < P.types.size)) = true →
      DataW.TrodAll enc P W 0 (fun _ => true) true ts vs ds ps → DataW.TrodAll enc P W' 0 (fun b => decide (b < W.heap.size)) true ts vs ds ps
  | [], [], [], _, _, h => h
  | t :: ts, v :: vs, d :: ds, ps, hts, ⟨p, q, h, hs, e⟩ => by
    simp only [List.all_cons, Bool.and_eq_true, decide_eq_true_eq] at hts
    have lt : ∀ x ∈ p, x.block < W.heap.size := by obtain ⟨m, hm⟩ := h; exact DataW.trod_lt m _ _ _ hm
    exact ⟨p, q, Below.trod hl hts.1.1 hts.1.2 h hb lt, trodAll_stays hl hb ts vs ds q hts.2 hs, e⟩

/-- THE POST of a law: it returned true, and nothing that was there has turned. -/
theorem post_true {H : Type} {enc : TypeId × Value → H} {P : Program} {f : Func} {s : ChangeSpec} {t : TypeId} (hl : laidOutB P = true) (hres : f.resultTypes = #[t]) (ht : P.underlying t = some .bool)
    (hts : (f.params.toList.all fun t => P.readableRec t && decide (t < P.types.size)) = true) {W W' : World} {args : Array Value} {ds gs : List (DataW H)} {before : List MemPlace} (hv : s.vars = [])
    (hspec : s.fn H (ds ++ gs) = { results := [.lit (.bool true)], args := ds, vars := [] })
    (hW : DataW.Whole enc P f.params.toList s.vars false W args.toList ds gs before) (hb : Below W.heap.size W W') :
    s.post enc P f false true false false W args (.bool true) W' := by
  have hW' := hW
  obtain ⟨p, q, hA, hV, hbe, hfz, hnd⟩ := hW
  refine ⟨ds, gs, before, [], p, [], hW', ?_, ?_, ?_, ?_, fun h => by cases h⟩
  · rw [hspec, hres]; exact trodAll_mk1 (shut_bool ht _)
  · rw [hspec]; exact trodAll_stays hl hb _ _ _ _ hts hA
  · rw [hspec, hv]; rfl
  · have hq : q = [] := by rw [hv] at hV; cases gs with
      | nil => exact hV
      | cons g gs => exact hV.elim
    refine World.keptBut_mono (fun p hp => ⟨hp, ?_⟩) (hb.frame (· ∈ before))
    rw [hbe, hq, List.append_nil] at hp
    exact .inr (.inl hp)

end Go.Proofs.YtpclhpncmlbccaaGreatDoor

/- The closed facts of a card, one by one: so the kernel gives its memory back between them. No program is named. -/
namespace Go.Proofs.YtpclhpncmlbccaaGreatDoor
open Go.WideShapes
def jf0 (P : Program) (f : FuncId) (fn : Func) (s : ChangeSpec) (c : OpenClaim) : Bool := c.wf (OpenSpec.ofChange s)
def jf1 (P : Program) (f : FuncId) (fn : Func) (s : ChangeSpec) (c : OpenClaim) : Bool := laidOutB P
def jf2 (P : Program) (f : FuncId) (fn : Func) (s : ChangeSpec) (c : OpenClaim) : Bool := mapsRowed P
def jf3 (P : Program) (f : FuncId) (fn : Func) (s : ChangeSpec) (c : OpenClaim) : Bool := fn.params.all (P.readableRec ·)
def jf4 (P : Program) (f : FuncId) (fn : Func) (s : ChangeSpec) (c : OpenClaim) : Bool := namedTie P c.named s.vars
def jf5 (P : Program) (f : FuncId) (fn : Func) (s : ChangeSpec) (c : OpenClaim) : Bool := (c.stops == [])
def jf6 (P : Program) (f : FuncId) (fn : Func) (s : ChangeSpec) (c : OpenClaim) : Bool := (P.stops == [])
def jf7 (P : Program) (f : FuncId) (fn : Func) (s : ChangeSpec) (c : OpenClaim) : Bool := (c.knobs == [])
def jf8 (P : Program) (f : FuncId) (fn : Func) (s : ChangeSpec) (c : OpenClaim) : Bool := (P.stopKnobs == [])
def jf9 (P : Program) (f : FuncId) (fn : Func) (s : ChangeSpec) (c : OpenClaim) : Bool := (c.inPlace == P.inPlace f)
def jf10 (P : Program) (f : FuncId) (fn : Func) (s : ChangeSpec) (c : OpenClaim) : Bool := (c.unfollowed == P.unfollowed f)
def jf11 (P : Program) (f : FuncId) (fn : Func) (s : ChangeSpec) (c : OpenClaim) : Bool := (c.recurses == P.recurses f)
def jf12 (P : Program) (f : FuncId) (fn : Func) (s : ChangeSpec) (c : OpenClaim) : Bool := (c.named == P.varsNamed f)
def jf13 (P : Program) (f : FuncId) (fn : Func) (s : ChangeSpec) (c : OpenClaim) : Bool := (c.maps == (fn.params.toList ++ s.plain.varTypes P).any (P.mapsRec ·))
def jf14 (P : Program) (f : FuncId) (fn : Func) (s : ChangeSpec) (c : OpenClaim) : Bool := (c.ifaces == (fn.params.toList ++ s.plain.varTypes P).any (P.ifacesRec ·))
def jf15 (P : Program) (f : FuncId) (fn : Func) (s : ChangeSpec) (c : OpenClaim) : Bool := (c.mapsOut == P.mapsAmong fn.resultTypes.toList)
def jf16 (P : Program) (f : FuncId) (fn : Func) (s : ChangeSpec) (c : OpenClaim) : Bool := (c.loops == (fn.params.toList ++ s.plain.varTypes P).any (P.loopsFrom ·))
def jf17 (P : Program) (f : FuncId) (fn : Func) (s : ChangeSpec) (c : OpenClaim) : Bool := (c.wideKeys == (fn.params.toList ++ s.plain.varTypes P ++ fn.resultTypes.toList).any (P.wideKeysFrom ·))
def jf18 (P : Program) (f : FuncId) (fn : Func) (s : ChangeSpec) (c : OpenClaim) : Bool := s.vars.all (P.varReadable ·)
def jf19 (P : Program) (f : FuncId) (fn : Func) (s : ChangeSpec) (c : OpenClaim) : Bool := fn.resultTypes.all (fun t => P.readableRec t && decide (t < P.types.size))
def jf20 (P : Program) (f : FuncId) (fn : Func) (s : ChangeSpec) (c : OpenClaim) : Bool := (c.ifacesOut == fn.resultTypes.toList.any (P.ifacesRec ·))
def jf21 (P : Program) (f : FuncId) (fn : Func) (s : ChangeSpec) (c : OpenClaim) : Bool := (c.loopsOut == fn.resultTypes.toList.any (P.loopsFrom ·))
def jf22 (P : Program) (f : FuncId) (fn : Func) (s : ChangeSpec) (c : OpenClaim) : Bool := (c.plainKeys == P.plainKeys)
def jf23 (P : Program) (f : FuncId) (fn : Func) (s : ChangeSpec) (c : OpenClaim) : Bool := c.shortTexts.isNone
def jf24 (P : Program) (f : FuncId) (fn : Func) (s : ChangeSpec) (c : OpenClaim) : Bool := P.stopsHeard
def jf25 (P : Program) (f : FuncId) (fn : Func) (s : ChangeSpec) (c : OpenClaim) : Bool := P.mayEnter
def jf26 (P : Program) (f : FuncId) (fn : Func) (s : ChangeSpec) (c : OpenClaim) : Bool := (c.lifted == P.liftsFinal)
def jf27 (P : Program) (f : FuncId) (fn : Func) (s : ChangeSpec) (c : OpenClaim) : Bool := (P.make == some c.make)
def jf28 (P : Program) (f : FuncId) (fn : Func) (s : ChangeSpec) (c : OpenClaim) : Bool := (c.kinds == (if c.domain.isEmpty then [] else fn.params.toList.map fun t => match P.underlying t with | some (.int k) => some k | _ => none))
def jf29 (P : Program) (f : FuncId) (fn : Func) (s : ChangeSpec) (c : OpenClaim) : Bool := (c.pinned == c.pinnedBy)
def jf30 (P : Program) (f : FuncId) (fn : Func) (s : ChangeSpec) (c : OpenClaim) : Bool := (c.veiled == (fn.params.toList ++ s.plain.varTypes P ++ fn.resultTypes.toList).any (P.veiledRec ·))
def jf31 (P : Program) (f : FuncId) (fn : Func) (s : ChangeSpec) (c : OpenClaim) : Bool := c.veiledFits P fn.params.toList (fn.params.toList ++ s.plain.varTypes P ++ fn.resultTypes.toList)
theorem joined_of {P : Program} {f : FuncId} {fn : Func} {s : ChangeSpec} {c : OpenClaim} (h0 : jf0 P f fn s c = true) (h1 : jf1 P f fn s c = true) (h2 : jf2 P f fn s c = true) (h3 : jf3 P f fn s c = true) (h4 : jf4 P f fn s c = true) (h5 : jf5 P f fn s c = true) (h6 : jf6 P f fn s c = true) (h7 : jf7 P f fn s c = true) (h8 : jf8 P f fn s c = true) (h9 : jf9 P f fn s c = true) (h10 : jf10 P f fn s c = true) (h11 : jf11 P f fn s c = true) (h12 : jf12 P f fn s c = true) (h13 : jf13 P f fn s c = true) (h14 : jf14 P f fn s c = true) (h15 : jf15 P f fn s c = true) (h16 : jf16 P f fn s c = true) (h17 : jf17 P f fn s c = true) (h18 : jf18 P f fn s c = true) (h19 : jf19 P f fn s c = true) (h20 : jf20 P f fn s c = true) (h21 : jf21 P f fn s c = true) (h22 : jf22 P f fn s c = true) (h23 : jf23 P f fn s c = true) (h24 : jf24 P f fn s c = true) (h25 : jf25 P f fn s c = true) (h26 : jf26 P f fn s c = true) (h27 : jf27 P f fn s c = true) (h28 : jf28 P f fn s c = true) (h29 : jf29 P f fn s c = true) (h30 : jf30 P f fn s c = true) (h31 : jf31 P f fn s c = true) : joinedFacts P f fn s c = true := by
  unfold joinedFacts
  simp only [Bool.and_eq_true]
  exact ⟨⟨⟨⟨⟨⟨⟨⟨⟨⟨⟨⟨⟨⟨⟨⟨⟨⟨⟨⟨⟨⟨⟨⟨⟨⟨⟨⟨⟨⟨⟨h0, h1⟩, h2⟩, h3⟩, h4⟩, h5⟩, h6⟩, h7⟩, h8⟩, h9⟩, h10⟩, h11⟩, h12⟩, h13⟩, h14⟩, h15⟩, h16⟩, h17⟩, h18⟩, h19⟩, h20⟩, h21⟩, h22⟩, h23⟩, h24⟩, h25⟩, h26⟩, h27⟩, h28⟩, h29⟩, h30⟩, h31⟩
end Go.Proofs.YtpclhpncmlbccaaGreatDoor

/- A card's frame for laws over tables of the library: what the row lists gives the tables. -/
namespace Go.Proofs.YtpclhpncmlbccaaGreatDoor
open Go.ChangeShapes Go.WideShapes Go.ChangeAt Go.RowKit
abbrev laid3 (rest : List (String × DataW Unit)) : List (String × DataW Unit) := ("math/bits.deBruijn32tab", Rows.laid_math_bits_deBruijn32tab) :: ("math/bits.deBruijn64tab", Rows.laid_math_bits_deBruijn64tab) :: ("internal/strconv.uint64pow10", Rows.laid_internal_strconv_uint64pow10) :: rest
theorem gl_of_laid {W : World} {rest : List (String × DataW Unit)} (h : W.ShapedOpen Tryz.prog) (hn : ((laid3 rest).all fun x => x.2.handleName?.isNone) = true) (hL : laidMetH Tryz.prog (laid3 rest) W) (hI : laidMet Tryz.prog (laid3 rest) W → ∀ k ∈ globI, ∃ tp x t fz, W.heap[k]? = some (.cells #[.iface tp x] t fz)) : Gl (gAll W) := by
  have hm : laidMet Tryz.prog (laid3 rest) W := by
    have := Go.MakeChecks.laidMetH_plain Tryz.prog (laid3 rest) W hn
    rw [← this]; exact hL
  refine ⟨fun p hp => ?_, fun p hp => ?_, hI hm⟩
  · simp only [globs, List.mem_cons, List.not_mem_nil, or_false] at hp
    subst hp
    obtain ⟨m, hm⟩ := cell_of_shapedOpen_int (P := Tryz.prog) (g := 0) (t := 3) (zero := #[.int .i64 0]) h (of_decide_eq_true (by kernel_rfl)) (by kernel_rfl) rfl (by kernel_rfl) (by kernel_rfl) Tryz.underlying3
    obtain ⟨h1, h2⟩ := uAll_lt hm
    exact ⟨h2, h1, m, hm⟩
  · simp only [globK, List.mem_cons, List.not_mem_nil, or_false] at hp
    subst hp
    have hT := Lib.tabIs_of_head (P := Tryz.prog) (W := W) (name := "internal/strconv.uint64pow10") (k := .u64) (zs := Lib.pow10Tab) (g := 1) (t := 211) (e := 181) (n := 20) (by kernel_rfl) (by kernel_rfl) (by kernel_rfl) (by kernel_rfl) (by kernel_rfl) (by kernel_rfl) hm.tail.tail
    have hn : Tryz.prog.globalNamed "internal/strconv.uint64pow10" = some 1 := by kernel_rfl
    unfold Lib.TabIs World.var? at hT
    rw [hn] at hT
    simp only [Option.bind_some] at hT
    show ∃ t fz, W.heap[1]? = _
    cases hh : W.heap[1]? with
    | none => rw [hh] at hT; cases hT
    | some o =>
      rw [hh] at hT
      cases o with
      | cells cs t fz => simp only [Option.some.injEq] at hT; subst hT; exact ⟨t, fz, rfl⟩
      | _ => simp at hT
end Go.Proofs.YtpclhpncmlbccaaGreatDoor

/- The abstract calculus: contracts of methods: the variable that the receiver points to, and the rows that it owns. No program is named. -/
namespace Go.Proofs.YtpclhpncmlbccaaGreatDoor
open Go.RowKit

theorem Sto.get_mem {σ : Sto} {o : Nat} {ob : AO} (h : σ.get o = some ob) : (o, ob) ∈ σ := by
  induction σ with
  | nil => simp [Sto.get] at h
  | cons x s ih =>
    obtain ⟨k, a⟩ := x
    rw [Sto.get_cons] at h
    split at h
    · rename_i hk; cases h; subst hk; exact List.mem_cons_self
    · exact List.mem_cons_of_mem _ (ih h)
theorem Sto.get_append (s1 s2 : Sto) (o : Nat) : Sto.get (s1 ++ s2) o = (Sto.get s1 o).or (Sto.get s2 o) := by
  induction s1 with
  | nil => simp [Sto.get]
  | cons x s ih =>
    obtain ⟨k, a⟩ := x
    rw [List.cons_append, Sto.get_cons, Sto.get_cons, ih]
    split <;> rfl

theorem cont_mem {l : List Nat} {a : Nat} (h : l.contains a = true) : a ∈ l := by simpa using h

/-! ### what a method may own: plain cells, rows -/
def AV.okS (rows : List Nat) : AV → Bool
  | .pv _ => true
  | .hs r _ => rows.contains r
  | _ => false
def AO.okS (rows : List Nat) : AO → Bool
  | .cells cs => cs.all (AV.okS rows)
  | .row _ _ _ _ => true
  | .opq _ _ _ => true
  | _ => false
def Sto.okS (O : Nat) (rows : List Nat) (σ : Sto) : Bool := σ.all fun p => (Nat.beq p.1 O || rows.contains p.1) && p.2.okS rows
theorem Sto.okS_get {O : Nat} {rows : List Nat} {σ : Sto} (h : σ.okS O rows = true) {o : Nat} {ob : AO} (ho : σ.get o = some ob) : (o = O ∨ o ∈ rows) ∧ ob.okS rows = true := by
  have := List.all_eq_true.1 h _ (Sto.get_mem ho)
  simp only [Bool.and_eq_true, Bool.or_eq_true] at this
  exact ⟨this.1.imp Nat.eq_of_beq_eq_true cont_mem, this.2⟩
/-- the objects of a store, in blocks of their own -/
structure Own (g : G) (σ : Sto) : Prop where
  obj : ∀ o ob, σ.get o = some ob → RelO g o ob
  apart : ∀ o o' ob ob' b, σ.get o = some ob → σ.get o' = some ob' → ob.own (g.loc o) b → ob'.own (g.loc o') b → o = o'
  low : ∀ o ob b, σ.get o = some ob → ob.own (g.loc o) b → ¬ GlB b
def SB (g : G) (σ : Sto) (b : Nat) : Prop := ∃ o ob, σ.get o = some ob ∧ ob.own (g.loc o) b
/-- a contract of a method: the objects of σ0 become those of σ1; the rows may move -/
structure RunS (P : Program) (f : FuncId) (args : List AV) (σ0 : Sto) (r : AV) (σ1 : Sto) (O : Nat) (rows : List Nat) : Prop where
  ok : ∃ fn c, FnOk P f fn c
  ok0 : σ0.okS O rows = true
  ok1 : σ1.okS O rows = true
  run : ∀ g vs, Wf g → Gl g → Own g σ0 → RelArgs g args vs → CallsIn (fen none) 0 P f vs g.w fun e w' => ∃ g' v, g'.w = w' ∧ (∀ k, k ∉ rows → g'.loc k = g.loc k) ∧ Old (SB g σ0) g g' ∧ Wf g' ∧ e = .returned v ∧ Rel g' r v ∧
    (∀ o ob, σ1.get o = some ob → RelO g' o ob) ∧ (∀ o o' ob ob' b, σ1.get o = some ob → σ1.get o' = some ob' → ob.own (g'.loc o) b → ob'.own (g'.loc o') b → o = o') ∧
    (∀ o ob b, σ1.get o = some ob → ob.own (g'.loc o) b → g.w.heap.size ≤ b ∨ SB g σ0 b)

variable {P : Program} {σ : Sto} {dst : Option Tmp} {ty : TypeId} {pos : String} {af : Array Edge} {gu : Option (Nat × Bool)} {E : Env} {fr : Fr} {K : Post}

/-! ### a method's contract from a walk -/
/-! ### functions that write into a row that is handed to them -/
/-! ### the call -/
def Sto.dels (ids : List Nat) : Sto → Sto
  | [] => []
  | (k, a) :: l => bif ids.contains k then Sto.dels ids l else (k, a) :: Sto.dels ids l
theorem Sto.get_dels (ids : List Nat) (σ : Sto) (o : Nat) : (σ.dels ids).get o = if o ∈ ids then none else σ.get o := by
  induction σ with
  | nil => simp [Sto.dels, Sto.get]
  | cons x l ih =>
    obtain ⟨k, a⟩ := x
    unfold Sto.dels
    cases hc : ids.contains k with
    | true =>
      have hk : k ∈ ids := by simpa using hc
      rw [cond_true, ih, Sto.get_cons]
      by_cases ho : o ∈ ids
      · rw [if_pos ho, if_pos ho]
      · rw [if_neg ho, if_neg ho, if_neg (by rintro rfl; exact ho hk)]
    | false =>
      have hk : k ∉ ids := by simpa using hc
      rw [cond_false, Sto.get_cons, Sto.get_cons, ih]
      by_cases ho : k = o
      · subst ho; simp [hk]
      · rw [if_neg ho, if_neg ho]
def AV.clrs (rows : List Nat) (c : AV) : AV := bif rows.any (fun r => c.has r) then .any else c
def Fr.clrs (rows : List Nat) : Fr → Fr
  | [] => []
  | (k, a) :: l => (k, a.clrs rows) :: Fr.clrs rows l
def AO.clrs (rows : List Nat) : AO → AO
  | .cells cs => .cells (cs.map (AV.clrs rows))
  | .hold c v => .hold (c.clrs rows) v
  | o => o
def Sto.clrs (rows : List Nat) : Sto → Sto
  | [] => []
  | (k, a) :: l => (k, a.clrs rows) :: Sto.clrs rows l
theorem Fr.get_clrs (rows : List Nat) (fr : Fr) (d : Nat) : (fr.clrs rows).get d = (fr.get d).clrs rows := by
  induction fr with
  | nil => unfold Fr.clrs Fr.get AV.clrs; cases rows.any (fun r => AV.has r AV.any) <;> rfl
  | cons x l ih =>
    obtain ⟨k, a⟩ := x
    simp only [Fr.clrs, Fr.get_cons, ih]
    split <;> rfl
theorem Sto.get_clrs (rows : List Nat) (σ : Sto) (o : Nat) : (σ.clrs rows).get o = (σ.get o).map (AO.clrs rows) := by
  induction σ with
  | nil => rfl
  | cons x l ih =>
    obtain ⟨k, a⟩ := x
    simp only [Sto.clrs, Sto.get_cons, ih]
    split <;> rfl
theorem rel_clrs {g g' : G} {rows : List Nat} (hx : Ext g.w g.u g'.w g'.u) (hl : ∀ k, k ∉ rows → g'.loc k = g.loc k) {c : AV} {v : Value} (h : Rel g c v) : Rel g' (c.clrs rows) v := by
  unfold AV.clrs
  cases hc : rows.any (fun r => c.has r) with
  | true => exact .any _
  | false => exact h.mono hx fun k hk => hl k fun hin => List.any_eq_false.1 hc k hin hk
theorem AO.own_clrs (rows : List Nat) (ob : AO) (l : Loc) : (ob.clrs rows).own l = ob.own l := by cases ob <;> rfl
theorem relO_clrs {g g' : G} {o : Nat} {ob : AO} {rows : List Nat} (hro : RelO g o ob) (hx : Ext g.w g.u g'.w g'.u) (hl : ∀ k, k ∉ rows → g'.loc k = g.loc k) (ho : o ∉ rows)
    (hb : ∀ b, ob.own (g.loc o) b → g'.w.heap[b]? = g.w.heap[b]? ∧ g'.u b = g.u b) : RelO g' o (ob.clrs rows) := by
  cases hro with
  | @cells cs b t vs h1 h2 h3 h4 h5 h6 =>
    obtain ⟨b1, b2⟩ := hb b (by rw [h1]; rfl)
    refine .cells ((hl o ho).trans h1) (b1.trans h2) (by simpa using h3) (b2.trans h4) h5 fun i c hi => ?_
    simp only [List.getElem?_map, Option.map_eq_some_iff] at hi
    obtain ⟨c', hc', rfl⟩ := hi
    exact rel_clrs hx hl (h6 i c' hc')
  | nil h1 => exact .nil ((hl o ho).trans h1)
  | @row e mu size elems b off cap vs h1 h2 h3 h3' h4 h5 h6 h7 h9 =>
    obtain ⟨b1, b2⟩ := hb b (by rw [h1]; rfl)
    exact .row ((hl o ho).trans h1) (b1.trans h2) h3 h3' h4 h5 (by rw [b2]; exact h6) (by rw [b2]; exact h7) fun i j x c hi hj => (h9 i j x c hi hj).mono hx
  | hold h1 => exact .hold (rel_clrs hx hl h1)
  | sus h1 => exact .sus (h1.mono hx)
  | @lp L b h1 h2 =>
    obtain ⟨b1, b2⟩ := hb b (by rw [h1]; rfl)
    exact .lp ((hl o ho).trans h1) (b1.trans h2)
  | @it s pos b h1 h2 h3 =>
    obtain ⟨b1, b2⟩ := hb b (by rw [h1]; rfl)
    exact .it ((hl o ho).trans h1) (b1.trans h2) (b2.trans h3)
  | @buf l e b cap vs h1 h2 h3 h4 h5 h6 =>
    obtain ⟨b1, b2⟩ := hb b (by rw [h1]; rfl)
    exact .buf ((hl o ho).trans h1) (b1.trans h2) h3 h4 (b2.trans h5) h6
  | @mapo ag es b clock ents h1 h2 h3 h4 h5 =>
    obtain ⟨b1, b2⟩ := hb b (by rw [h1]; rfl)
    exact .mapo ((hl o ho).trans h1) (b1.trans h2) (b2.trans h3) h4 fun i k c hi => by
      obtain ⟨x, e1, e2, e3⟩ := h5 i k c hi
      exact ⟨x, e1, e2, e3.mono hx⟩
  | @opq t t1 n Q b vs h1 h2 h3 h4 h5 =>
    obtain ⟨b1, b2⟩ := hb b (by rw [h1]; rfl)
    exact .opq ((hl o ho).trans h1) (b1.trans h2) h3 (b2.trans h4) fun w' u' hx' => h5 w' u' (hx.to0.trans hx')
  | nrowNil h1 => exact .nrowNil ((hl o ho).trans h1)
  | nrow h1 h2 h3 h4 h5 h6 h7 h8 h9 h10 h11 h12 => exact (RelO.nrow h1 h2 h3 h4 h5 h6 h7 h8 h9 h10 h11 h12).mono hx (hl o ho) (fun _ hk => by cases hk) hb
  | mapr h1 h2 h3 h4 h5 h6 h7 => exact (RelO.mapr h1 h2 h3 h4 h5 h6 h7).mono hx (hl o ho) (fun _ hk => by cases hk) hb
theorem gl_lt {g : G} (h : Gl g) {k : Nat} (hk : GlB k) : k < g.w.heap.size := by
  rcases hk with ⟨p, hp, rfl⟩ | hk
  · obtain ⟨t, fz, h1⟩ := h.2.1 p hp
    exact blk_lt h1
  · obtain ⟨tp, x, t, fz, h1⟩ := h.2.2 k hk
    exact blk_lt h1
theorem opTo_callS {f : FuncId} {k : Nat} {xs : List Operand} {ats : Array TypeId} {args : List AV} {r : AV} {σ0 σ1 : Sto} {O : Nat} {rows : List Nat} (hr : RunS E.P f args σ0 r σ1 O rows) (hN : Nat.ble (k + 1) E.N = true) (ha : xs.map (fun x => (fr.ev x).weak) = args) (hle : StoLe σ σ0) :
    OpTo E ⟨some k, .call ⟨.value (.func f), xs.toArray, ats⟩, ty, pos, af, gu⟩ fr σ ((k, r) :: fr.clrs rows) (σ1 ++ (σ.dels (O :: rows)).clrs rows) :=
  ⟨fun g a K Q hst hK => by
    obtain ⟨fn, c, hok⟩ := hr.ok
    refine ⟨fun _ _ => trivial, ?_⟩
    rw [Oper.semAt_plain _ _ _ (fun c => by simp), run_call_op hok (first := #[]) (cap := #[]) rfl, Oper.uponIn_enter]
    refine ⟨fun h => by simp [fen] at h, ?_⟩
    have hargs : RelArgs g args (#[] ++ xs.toArray.map a.eval ++ #[]) := by
      subst ha
      refine ⟨by simp, fun i c hi => ?_⟩
      simp only [List.getElem?_map, Option.map_eq_some_iff] at hi
      obtain ⟨x, hx, rfl⟩ := hi
      have := rel_weak (hst.ev x)
      simpa [hx] using this
    have hsb : ∀ b, SB g σ0 b → b < g.w.heap.size ∧ (E.g0.w.heap.size ≤ b ∨ E.S b) := by
      rintro b ⟨o, ob, h1, h2⟩
      obtain ⟨ob', h3, h4⟩ := hle.some h1
      rw [← h4] at h2
      exact ⟨(hst.so.obj o ob' h3).block_lt h2, hst.so.mine o ob' b h3 h2⟩
    have hown : Own g σ0 := ⟨hle.obj hst.so.obj, fun o o' ob ob' b h1 h2 h3 h4 => by
        obtain ⟨_, p1, e1⟩ := hle.some h1
        obtain ⟨_, p2, e2⟩ := hle.some h2
        rw [← e1] at h3
        rw [← e2] at h4
        exact hst.so.apart o o' _ _ b p1 p2 h3 h4, fun o ob b h1 h2 hb => by
        rcases (hsb b ⟨o, ob, h1, h2⟩).2 with h3 | h3
        · have := gl_lt E.gl hb; omega
        · exact E.sg b hb h3⟩
    refine (callsIn_fen (hr.run g _ hst.so.wf (E.glOf hst.so) hown hargs)).mono ?_
    rintro e w' ⟨g', v, rfl, hl, ho, hw, rfl, hv, hobj, hap, hmine⟩
    -- the objects behind the call
    have hget : ∀ o ob, Sto.get (σ1 ++ (σ.dels (O :: rows)).clrs rows) o = some ob → σ1.get o = some ob ∨ (o ∉ O :: rows ∧ ∃ ob1, σ.get o = some ob1 ∧ ob = ob1.clrs rows) := by
      intro o ob hg
      rw [Sto.get_append] at hg
      cases h1 : σ1.get o with
      | some ob1 => rw [h1] at hg; exact .inl (by simpa using hg)
      | none =>
        rw [h1, Option.none_or, Sto.get_clrs, Sto.get_dels] at hg
        split at hg
        · cases hg
        · rename_i hno
          cases h2 : σ.get o with
          | none => rw [h2] at hg; cases hg
          | some ob1 => rw [h2] at hg; exact .inr ⟨hno, ob1, rfl, by simpa using hg.symm⟩
    have hout : ∀ o ob1 b, o ∉ O :: rows → σ.get o = some ob1 → ob1.own (g.loc o) b → ¬ SB g σ0 b := by
      rintro o ob1 b hno ho1 hb ⟨o2, ob2, h2, hb2⟩
      obtain ⟨ob3, h3, e3⟩ := hle.some h2
      rw [← e3] at hb2
      have := hst.so.apart o o2 _ _ b ho1 h3 hb hb2
      subst this
      rcases (Sto.okS_get hr.ok0 h2).1 with rfl | hin
      · exact hno List.mem_cons_self
      · exact hno (List.mem_cons_of_mem _ hin)
    have hnr : ∀ o, o ∉ O :: rows → o ∉ rows := fun o h hin => h (List.mem_cons_of_mem _ hin)
    have hst' : St E g' a (fr.clrs rows) (σ1 ++ (σ.dels (O :: rows)).clrs rows) := by
      refine ⟨fun d => by rw [Fr.get_clrs]; exact rel_clrs ho.ext hl (hst.fr d), hst.n, hst.df.mono ho.ext, ⟨?_, ?_, ?_, ?_, hw⟩⟩
      · intro o ob hg
        rcases hget o ob hg with h1 | ⟨hno, ob1, ho1, rfl⟩
        · exact hobj o ob h1
        · have hro := hst.so.obj o ob1 ho1
          exact relO_clrs hro ho.ext hl (hnr o hno) fun b hb => ho.block b (hro.block_lt hb) (hout o ob1 b hno ho1 hb)
      · intro o o' ob ob' b h1 h2 h3 h4
        rcases hget o ob h1 with h1 | ⟨hno, ob1, ho1, rfl⟩ <;> rcases hget o' ob' h2 with h2 | ⟨hno', ob1', ho1', rfl⟩
        · exact hap o o' ob ob' b h1 h2 h3 h4
        · exfalso
          rw [AO.own_clrs, hl o' (hnr o' hno')] at h4
          have hlt := (hst.so.obj o' ob1' ho1').block_lt h4
          rcases hmine o ob b h1 h3 with h5 | h5
          · omega
          · exact hout o' ob1' b hno' ho1' h4 h5
        · exfalso
          rw [AO.own_clrs, hl o (hnr o hno)] at h3
          have hlt := (hst.so.obj o ob1 ho1).block_lt h3
          rcases hmine o' ob' b h2 h4 with h5 | h5
          · omega
          · exact hout o ob1 b hno ho1 h3 h5
        · rw [AO.own_clrs, hl o (hnr o hno)] at h3
          rw [AO.own_clrs, hl o' (hnr o' hno')] at h4
          exact hst.so.apart o o' ob1 ob1' b ho1 ho1' h3 h4
      · intro o ob b h1 h2
        rcases hget o ob h1 with h1 | ⟨hno, ob1, ho1, rfl⟩
        · rcases hmine o ob b h1 h2 with h5 | h5
          · exact .inl (Nat.le_trans hst.so.old.ext.size h5)
          · exact (hsb b h5).2
        · rw [AO.own_clrs, hl o (hnr o hno)] at h2
          exact hst.so.mine o ob1 b ho1 h2
      · refine hst.so.old.trans (ho.mono fun b _ hb => ?_)
        exact (hsb b hb).2.symm
    exact hK g' _ (hst'.put (Nat.le_of_ble_eq_true hN) hv)⟩

/-! ### objects are dropped, and get other names -/
section
variable {α : Type} {F : α → List PV} {l : List α} {size : Nat} {e : TypeId}
end
section
variable {g g' : G} {r r' : Nat}
end
/-! ### make -/
section
variable {α : Type} {F : α → List PV} {r' : List α} {size bytes sb ss k lim : Nat} {e t : TypeId} {zero sz : Value} {d : TypeDesc} {x : Operand} {n : Int} {z : α}
end

/-! ### short forms -/
end Go.Proofs.YtpclhpncmlbccaaGreatDoor

/- The abstract calculus: regions that draw their order: a few operations that change the store, and any number that do not, in any order. No program is named. -/
namespace Go.Proofs.YtpclhpncmlbccaaGreatDoor
open Go.RowKit Go.Lib

variable {E : Env} {fr : Fr} {σ : Sto} {K : Post}
/-- what is known of the slots of the pure operations that have come up (none: an operation that is not pure) -/
def purF : List Oper → List (Option AV) → List Bool → Fr
  | o :: l, some c :: cs, b :: D => (match o.dst with | some d => [(d, bif b then c else .any)] | none => []) ++ purF l cs D
  | _ :: l, none :: cs, _ :: D => purF l cs D
  | _, _, _ => []
def dstOf (l : List Oper) (cs : List (Option AV)) (i : Nat) : Option Nat := match cs[i]? with
  | some (some _) => (l[i]?).bind (·.dst)
  | _ => none
theorem purF_other : ∀ (l : List Oper) (cs : List (Option AV)) (D : List Bool) (d : Nat), (∀ i, dstOf l cs i ≠ some d) → (purF l cs D ++ fr).get d = fr.get d
  | [], _, _, _, _ => rfl
  | _ :: _, [], _, _, _ => rfl
  | _ :: _, some _ :: _, [], _, _ => rfl
  | _ :: _, none :: _, [], _, _ => rfl
  | o :: l, none :: cs, b :: D, d, h => purF_other l cs D d fun i => h (i + 1)
  | o :: l, some c :: cs, b :: D, d, h => by
    have ih := purF_other l cs D d fun i => h (i + 1)
    have h0 : o.dst ≠ some d := h 0
    unfold purF
    cases hd : o.dst with
    | none => exact ih
    | some d' =>
      show Fr.get ((d', _) :: (purF l cs D ++ fr)) d = _
      rw [Fr.get_cons, if_neg (fun e => h0 (by rw [hd, e]))]
      exact ih
theorem purF_get : ∀ (l : List Oper) (cs : List (Option AV)) (D : List Bool) (i : Nat) (c : AV) (d : Nat), (∀ i j d, dstOf l cs i = some d → dstOf l cs j = some d → i = j) → l.length ≤ D.length → dstOf l cs i = some d → cs[i]? = some (some c) → (purF l cs D ++ fr).get d = bif D.getD i false then c else .any
  | [], _, _, i, _, _, _, _, h, hc => by unfold dstOf at h; rw [hc] at h; simp at h
  | _ :: _, [], _, i, _, _, _, _, h, hc => by simp at hc
  | _ :: _, _ :: _, [], _, _, _, _, hl, _, _ => by simp at hl
  | o :: l, none :: cs, b :: D, 0, c, d, _, _, h, hc => by simp at hc
  | o :: l, none :: cs, b :: D, i + 1, c, d, hd, hl, h, hc => by
    have := purF_get l cs D i c d (fun i j d h1 h2 => by have := hd (i + 1) (j + 1) d h1 h2; omega) (by simpa using hl) h (by simpa using hc)
    simpa [purF] using this
  | o :: l, some c0 :: cs, b :: D, 0, c, d, hd, hl, h, hc => by
    simp at hc; subst hc
    have h0 : o.dst = some d := h
    unfold purF
    rw [h0]
    show Fr.get ((d, _) :: (purF l cs D ++ fr)) d = _
    rw [Fr.get_cons, if_pos rfl]
    rfl
  | o :: l, some c0 :: cs, b :: D, i + 1, c, d, hd, hl, h, hc => by
    have ih := purF_get l cs D i c d (fun i j d h1 h2 => by have := hd (i + 1) (j + 1) d h1 h2; omega) (by simpa using hl) h (by simpa using hc)
    unfold purF
    cases h0 : o.dst with
    | none => simpa using ih
    | some d' =>
      show Fr.get ((d', _) :: (purF l cs D ++ fr)) d = _
      rw [Fr.get_cons, if_neg (fun e => by
        have := hd 0 (i + 1) d (by show o.dst = some d; rw [h0, e]) h
        omega)]
      simpa using ih
theorem Fr.has_append (q : Nat) : ∀ (x y : Fr), Fr.has q (x ++ y) = (Fr.has q x || Fr.has q y)
  | [], y => by simp [Fr.has]
  | (k, a) :: x, y => by simp [Fr.has, Fr.has_append q x y, Bool.or_assoc]
theorem purF_has (q : Nat) : ∀ (l : List Oper) (cs : List (Option AV)) (D T : List Bool), T = List.replicate D.length true → Fr.has q (purF l cs D) = true → Fr.has q (purF l cs T) = true
  | [], _, _, _, _, h => by simp [purF, Fr.has] at h
  | _ :: _, [], _, _, _, h => by simp [purF, Fr.has] at h
  | _ :: _, some _ :: _, [], _, _, h => by simp [purF, Fr.has] at h
  | _ :: _, none :: _, [], _, _, h => by simp [purF, Fr.has] at h
  | o :: l, none :: cs, b :: D, T, hT, h => by
    subst hT
    exact purF_has q l cs D _ rfl (by simpa [purF] using h)
  | o :: l, some c :: cs, b :: D, T, hT, h => by
    subst hT
    have ih := purF_has q l cs D _ rfl
    unfold purF at h ⊢
    simp only [List.length_cons, List.replicate_succ] at h ⊢
    cases h0 : o.dst with
    | none => rw [h0] at h; simp [Fr.has_append, Fr.has] at h ⊢; exact ih h
    | some d =>
      rw [h0] at h
      simp only [Fr.has_append, Fr.has, Bool.or_false, Bool.or_eq_true, cond_true] at h ⊢
      rcases h with h | h
      · refine .inl ?_
        cases b with
        | true => exact h
        | false => simp [AV.has] at h
      · exact .inr (ih h)
/-- an operation that changes the store, whatever else has come up -/
structure HvS (E : Env) (o : Oper) (FR : Fr) (σ σ' : Sto) : Prop where
  go : ∀ fr, (∀ x ∈ o.op.operands, fr.ev x = FR.ev x) → (∀ q, FR.has q = false → fr.has q = false) → OpTo E o fr σ fr σ'
structure HvD (E : Env) (o : Oper) (FR : Fr) (σ : Sto) (k : Nat) (c : AV) (rs : List Nat) (σ' : Sto) : Prop where
  go : ∀ fr, (∀ x ∈ o.op.operands, fr.ev x = FR.ev x) → (∀ q, FR.has q = false → fr.has q = false) → OpTo E o fr σ ((k, c) :: fr.clrs rs) σ'
def allT (l : List Oper) : List Bool := List.replicate l.length true
def noRows (cs : List (Option AV)) (rs : List Nat) : Bool := cs.all fun c => match c with | some c => rs.all fun r => !c.has r | none => true
inductive MStep (E : Env) (l : List Oper) (cs : List (Option AV)) (all : List Node) (H : List Bool) (fr : Fr) (σ : Sto) (i : Nat) : Prop
  | pure {o : Oper} {c : AV} (ho : l[i]? = some o) (hc : cs[i]? = some (some c)) (h : OpG E o (purF l cs (allT l) ++ fr) σ c)
  | sto {o : Oper} {σ' σ2 : Sto} {fr2 : Fr} (j : Nat) (ho : l[i]? = some o) (hc : cs[i]? = some none) (h : HvS E o (purF l cs (allT l) ++ fr) σ σ') (hn : all[j]? = some (H.set i true, fr2, σ2)) (hf : FrLe fr fr2) (hs : StoLe σ' σ2)
  | dst {o : Oper} {k : Nat} {c : AV} {rs : List Nat} {σ' σ2 : Sto} {fr2 : Fr} (j : Nat) (ho : l[i]? = some o) (hc : cs[i]? = some none) (hk : ((List.range l.length).all fun i => dstOf l cs i != some k) = true) (hrs : noRows cs rs = true)
      (h : HvD E o (purF l cs (allT l) ++ fr) σ k c rs σ') (hn : all[j]? = some (H.set i true, fr2, σ2)) (hf : FrLe ((k, c) :: fr.clrs rs) fr2) (hs : StoLe σ' σ2)
inductive MSteps (E : Env) (l : List Oper) (cs : List (Option AV)) (all : List Node) (H : List Bool) (fr : Fr) (σ : Sto) : List Nat → Prop
  | nil : MSteps E l cs all H fr σ []
  | cons {i : Nat} {is : List Nat} (h : MStep E l cs all H fr σ i) (r : MSteps E l cs all H fr σ is) : MSteps E l cs all H fr σ (i :: is)
def isHv (cs : List (Option AV)) (i : Nat) : Bool := match cs[i]? with | some none => true | _ => false
/-- what may come up while the store is so -/
def mayL (l : List Oper) (cs : List (Option AV)) (H : List Bool) : List Nat := (List.range l.length).filter fun i =>
  !(H.getD i false) && (List.range l.length).all fun j => !(isHv cs j) || ((!(((masksN l l.length).getD i 0).testBit j) || H.getD j false) && (!(H.getD j false) || !(((masksN l l.length).getD j 0).testBit i)))
inductive MNode (E : Env) (l : List Oper) (cs : List (Option AV)) (K : Post) (all : List Node) : Node → Prop
  | full {H : List Bool} {fr : Fr} {σ : Sto} (is : List Nat) (hD : mayL l cs H = is) (hs : MSteps E l cs all H fr σ is) {frJ : Fr} {σJ : Sto} (hf : FrLe (purF l cs (allT l) ++ fr) frJ) (hso : StoLe σ σJ) (h : K .normal frJ σJ) : MNode E l cs K all (H, fr, σ)
  | step {H : List Bool} {fr : Fr} {σ : Sto} (is : List Nat) (hD : mayL l cs H = is) (hn : ((List.range l.length).all fun i => !(isHv cs i) || H.getD i false) = false) (hs : MSteps E l cs all H fr σ is) : MNode E l cs K all (H, fr, σ)
inductive MNodes (E : Env) (l : List Oper) (cs : List (Option AV)) (K : Post) (all : List Node) : List Node → Prop
  | nil : MNodes E l cs K all []
  | cons {nd : Node} {r : List Node} (h : MNode E l cs K all nd) (hr : MNodes E l cs K all r) : MNodes E l cs K all (nd :: r)
theorem MSteps.get {l : List Oper} {cs : List (Option AV)} {all : List Node} {H : List Bool} {is : List Nat} (h : MSteps E l cs all H fr σ is) {i : Nat} (hi : i ∈ is) : MStep E l cs all H fr σ i := by
  induction h with
  | nil => cases hi
  | cons h _ ih =>
    rcases List.mem_cons.1 hi with rfl | hi
    · exact h
    · exact ih hi
theorem MNodes.get {l : List Oper} {cs : List (Option AV)} {all r : List Node} (h : MNodes E l cs K all r) {nd : Node} (hi : nd ∈ r) : MNode E l cs K all nd := by
  induction h with
  | nil => cases hi
  | cons h _ ih =>
    rcases List.mem_cons.1 hi with rfl | hi
    · exact h
    · exact ih hi
def maskOk (N : Nat) (l : List Oper) (cs : List (Option AV)) : Bool :=
  leadsBack .any l.toArray && Nat.beq cs.length l.length && (l.all fun o => o.guard.isNone) &&
  (l.all fun o => o.dst.all fun d => Nat.ble (d + 1) N) &&
  ((List.range l.length).all fun i => isHv cs i || (dstOf l cs i).isSome) &&
  ((List.range l.length).all fun i => (List.range l.length).all fun j => Nat.beq i j || (dstOf l cs i).isNone || dstOf l cs i != dstOf l cs j) &&
  (l.all fun o => (tmpsOf o).all fun t => (List.range l.length).all fun j => dstOf l cs j != some t || directly o j)
theorem clrs_same {rs : List Nat} {c : AV} (h : (rs.all fun r => !c.has r) = true) : c.clrs rs = c := by
  unfold AV.clrs
  have : (rs.any fun r => c.has r) = false := by
    rw [List.any_eq_false]
    intro r hr
    have := List.all_eq_true.1 h r hr
    simpa using this
  rw [this]; rfl
theorem awp_masked {id : Nat} {l : List Oper} (cs : List (Option AV)) (all : List Node) {H0 : List Bool} {fr0 : Fr} {σ0 : Sto} (hmix : E.P.follows .mixedOrders = true) (hok : maskOk E.N l cs = true) (h0 : all[0]? = some (H0, fr0, σ0)) (hH0 : H0 = List.replicate l.length false)
    (hf : FrLe fr fr0) (hs : StoLe σ σ0) (h : MNodes E l cs K all all) : AWP E (.region id l.toArray true) fr σ K := by
  simp only [maskOk, Bool.and_eq_true, List.all_eq_true] at hok
  obtain ⟨⟨⟨⟨⟨⟨hlb, hlen⟩, hgd⟩, hN⟩, hall⟩, hdist⟩, hdat⟩ := hok
  have hlen := Nat.eq_of_beq_eq_true hlen
  have hdl : ∀ i d, dstOf l cs i = some d → i < l.length := by
    intro i d hd
    rcases Nat.lt_or_ge i l.length with h1 | h1
    · exact h1
    · unfold dstOf at hd
      rw [List.getElem?_eq_none (by omega)] at hd
      cases hd
  have hdist' : ∀ i j d, dstOf l cs i = some d → dstOf l cs j = some d → i = j := by
    intro i j d h1 h2
    have := hdist i (by simpa using hdl i d h1) j (by simpa using hdl j d h2)
    simp only [Bool.or_eq_true, bne_iff_ne, ne_eq] at this
    rcases this with (h3 | h3) | h3
    · exact Nat.eq_of_beq_eq_true h3
    · rw [h1] at h3; cases h3
    · exact absurd (h1.trans h2.symm) h3
  have hdirD : ∀ {D : Nat → Bool} {o : Oper} {j : Nat}, (∀ e ∈ o.after, Region.binds .any e = true → D e.on = true) → directly o j = true → D j = true := by
    intro D o j he hd
    simp only [directly, List.any_eq_true, Bool.and_eq_true] at hd
    obtain ⟨e, h1, h2, h3⟩ := hd
    rw [← Nat.eq_of_beq_eq_true h3]
    exact he e (by simpa using h1) h2
  let bits : (Nat → Bool) → List Bool := fun D => (List.range l.length).map D
  have hbl : ∀ D, (bits D).length = l.length := fun D => by simp [bits]
  have hbg : ∀ D i, i < l.length → (bits D).getD i false = D i := fun D i hi => by simp [bits, List.getD_eq_getElem?_getD, hi]
  have hTl : (allT l).length = l.length := by simp [allT]
  have hTg : ∀ i, i < l.length → (allT l).getD i false = true := fun i hi => by simp [allT, List.getD_eq_getElem?_getD, hi]
  -- a slot: of a pure operation, or another one
  have hslot : ∀ d, (∃ i c, dstOf l cs i = some d ∧ cs[i]? = some (some c) ∧ i < l.length) ∨ (∀ i, dstOf l cs i ≠ some d) := by
    intro d
    by_cases hex : ∃ i, dstOf l cs i = some d
    · obtain ⟨i, hi⟩ := hex
      refine .inl ⟨i, ?_⟩
      have hil := hdl i d hi
      cases hc : cs[i]? with
      | none => unfold dstOf at hi; rw [hc] at hi; cases hi
      | some x =>
        cases x with
        | none => unfold dstOf at hi; rw [hc] at hi; cases hi
        | some c => exact ⟨c, hi, rfl, hil⟩
    · exact .inr fun i hi => hex ⟨i, hi⟩
  have hev : ∀ (D : Nat → Bool) (o : Oper) (frA : Fr), o ∈ l → (∀ e ∈ o.after, Region.binds .any e = true → D e.on = true) → ∀ x ∈ o.op.operands, (purF l cs (bits D) ++ frA).ev x = (purF l cs (allT l) ++ frA).ev x := by
    intro D o frA hm he x hx
    cases x with
    | const v => rfl
    | global q => rfl
    | func f => rfl
    | tmp t =>
      show (purF l cs (bits D) ++ frA).get t = (purF l cs (allT l) ++ frA).get t
      rcases hslot t with ⟨i, c, h1, h2, h3⟩ | h1
      · rw [purF_get l cs (bits D) i c t hdist' (by rw [hbl]; omega) h1 h2, purF_get l cs (allT l) i c t hdist' (by rw [hTl]; omega) h1 h2, hbg D i h3, hTg i h3]
        have := hdat o hm t (by simp only [tmpsOf, List.mem_filterMap]; exact ⟨.tmp t, by simpa using hx, rfl⟩) i (by simpa using h3)
        simp only [Bool.or_eq_true, bne_iff_ne, ne_eq] at this
        rcases this with h4 | h4
        · exact absurd h1 h4
        · rw [hdirD he h4]
      · rw [purF_other l cs _ t h1, purF_other l cs _ t h1]
  have hhas : ∀ (D : Nat → Bool) (frA : Fr) q, (purF l cs (allT l) ++ frA).has q = false → (purF l cs (bits D) ++ frA).has q = false := by
    intro D frA q hq
    rw [Fr.has_append, Bool.or_eq_false_iff] at hq ⊢
    refine ⟨?_, hq.2⟩
    cases hb : Fr.has q (purF l cs (bits D)) with
    | false => rfl
    | true =>
      have := purF_has q l cs (bits D) (allT l) (by rw [hbl]; rfl) hb
      rw [this] at hq; cases hq.1
  let J : (Nat → Bool) → Act → World → Prop := fun D a w => (∀ i o, l[i]? = some o → D i = true → ∀ e ∈ o.after, Region.binds .any e = true → D e.on = true) ∧
    ∃ nd ∈ all, nd.1.length = l.length ∧ (∀ i, i < l.length → isHv cs i = true → D i = nd.1.getD i false) ∧ (∀ i, i < l.length → isHv cs i = false → nd.1.getD i false = false) ∧ ∃ g, g.w = w ∧ St E g a (purF l cs (bits D) ++ nd.2.1) nd.2.2
  refine ⟨fun g a hst => wpIn_region_inv hmix hlb J ?_ ?_ ?_⟩
  · refine ⟨fun i o _ hd => by simp at hd, _, List.mem_of_getElem? h0, by subst hH0; simp, fun i hi _ => by subst hH0; simp [List.getD_eq_getElem?_getD, hi], fun i hi _ => by subst hH0; simp [List.getD_eq_getElem?_getD, hi], ⟨g.w.drew, g.u, g.loc⟩, rfl, (hst.le (fun d => ?_) hs).drew⟩
    rcases hslot d with ⟨i, c, h1, h2, h3⟩ | h1
    · rw [purF_get l cs _ i c d hdist' (by rw [hbl]; omega) h1 h2, hbg _ i h3]
      exact .inl rfl
    · rw [purF_other l cs _ d h1]; exact hf d
  · rintro D a w ⟨_, ⟨H, frA, σA⟩, hm, hl, hD, _, g, rfl, hst'⟩ hfin
    have hfin' : ∀ i, i < l.length → D i = true := fun i hi => hfin i (by simpa using hi)
    cases h.get hm with
    | full is _ _ hfJ hsJ hk =>
      refine ⟨g, _, _, rfl, St.le ?_ hfJ hsJ, hk⟩
      have : bits D = allT l := by
        apply List.ext_getElem (by rw [hbl, hTl])
        intro i h1 h2
        have hi : i < l.length := by rw [hbl] at h1; exact h1
        simp [bits, allT, hfin' i hi]
      rw [← this]; exact hst'
    | step is _ hn _ =>
      exfalso
      have : ((List.range l.length).all fun i => !(isHv cs i) || H.getD i false) = true := by
        rw [List.all_eq_true]
        intro i hi
        have hi : i < l.length := by simpa using hi
        cases hh : isHv cs i with
        | false => rfl
        | true => rw [← hD i hi hh, hfin' i hi]; rfl
      rw [this] at hn; cases hn
  · rintro D a w i o ⟨hcl, ⟨H, frA, σA⟩, hm, hl, hD, hD0, g, rfl, hst'⟩ ho hDi he
    have ho' : l[i]? = some o := by simpa using ho
    have hil : i < l.length := (List.getElem?_eq_some_iff.1 ho').1
    have hom : o ∈ l := List.mem_of_getElem? ho'
    have hgo : o.guard = none := by simpa using hgd o hom
    have hcl' : ∀ i' o', l[i']? = some o' → upd D i i' = true → ∀ e ∈ o'.after, Region.binds .any e = true → upd D i e.on = true := by
      intro i' o' h1 h2 e h3 h4
      unfold upd at h2 ⊢
      split
      · rfl
      · split at h2
        · rename_i hii; subst hii
          rw [ho'] at h1; cases h1
          exact he e h3 h4
        · exact hcl i' o' h1 h2 e h3 h4
    have hmay : i ∈ mayL l cs H := by
      simp only [mayL, List.mem_filter, List.mem_range, Bool.and_eq_true, Bool.not_eq_true', List.all_eq_true, Bool.or_eq_true]
      refine ⟨hil, ?_, fun j hj => ?_⟩
      · cases hh : isHv cs i with
        | true => rw [← hD i hil hh]; exact hDi
        | false => exact hD0 i hil hh
      · cases hh : isHv cs j with
        | false => exact .inl rfl
        | true =>
          refine .inr ⟨?_, ?_⟩
          · cases hb : ((masksN l l.length).getD i 0).testBit j with
            | false => exact .inl rfl
            | true => exact .inr (by rw [← hD j hj hh]; exact masks_ready hcl l.length i o ho' he j hb)
          · cases hHj : H.getD j false with
            | false => exact .inl rfl
            | true =>
              refine .inr ?_
              cases hb : ((masksN l l.length).getD j 0).testBit i with
              | false => rfl
              | true =>
                have := masks_closed hcl l.length j i hb (by rw [hD j hj hh]; exact hHj)
                rw [hDi] at this; cases this
    have hstep : MStep E l cs all H frA σA i := by
      cases h.get hm with
      | full is hD2 hs _ _ _ => exact (hD2 ▸ hs : MSteps E l cs all H frA σA (mayL l cs H)).get hmay
      | step is hD2 _ hs => exact (hD2 ▸ hs : MSteps E l cs all H frA σA (mayL l cs H)).get hmay
    have hw : Region.wanted o (yielded l.toArray a.tmps) = true := by simp [Region.wanted, hgo]
    have hheavy : ∀ (_ : cs[i]? = some none), (∀ k, k < l.length → isHv cs k = true → upd D i k = (H.set i true).getD k false) ∧ (∀ k, k < l.length → isHv cs k = false → (H.set i true).getD k false = false) ∧ ∀ frX d, (purF l cs (bits (upd D i)) ++ frX).get d = (purF l cs (bits D) ++ frX).get d := by
      intro hc
      have hhv : isHv cs i = true := by unfold isHv; rw [hc]
      refine ⟨fun k hk hh => ?_, fun k hk hh => ?_, fun frX d => ?_⟩
      · unfold upd
        simp only [List.getD_eq_getElem?_getD, List.getElem?_set]
        by_cases hki : k = i
        · subst hki; simp [hl, hk]
        · rw [if_neg hki, if_neg (Ne.symm hki), ← List.getD_eq_getElem?_getD]; exact hD k hk hh
      · have hki : k ≠ i := by rintro rfl; rw [hhv] at hh; cases hh
        simp only [List.getD_eq_getElem?_getD, List.getElem?_set]
        rw [if_neg (Ne.symm hki), ← List.getD_eq_getElem?_getD]
        exact hD0 k hk hh
      · rcases hslot d with ⟨j, c, h1, h2, h3⟩ | h1
        · rw [purF_get l cs _ j c d hdist' (by rw [hbl]; omega) h1 h2, purF_get l cs _ j c d hdist' (by rw [hbl]; omega) h1 h2, hbg _ j h3, hbg _ j h3]
          have hji : j ≠ i := by rintro rfl; rw [hc] at h2; cases h2
          unfold upd
          rw [if_neg hji]
        · rw [purF_other l cs _ d h1, purF_other l cs _ d h1]
    unfold wpOpIn
    rw [ho]
    simp only [hw, if_true]
    cases hstep with
    | @pure o2 c ho2 hc hop =>
      rw [ho'] at ho2; cases ho2
      have hhv : isHv cs i = false := by unfold isHv; rw [hc]
      have hops : ∀ x ∈ o.op.operands, Rel g ((purF l cs (allT l) ++ frA).ev x) (a.eval x) := fun x hx => by
        rw [← hev D o frA hom he x hx]; exact hst'.ev x
      obtain ⟨d, hd⟩ : ∃ d, dstOf l cs i = some d := by
        have := hall i (by simpa using hil)
        rw [hhv] at this
        simpa [Option.isSome_iff_exists] using this
      have hod : o.dst = some d := by
        unfold dstOf at hd
        rw [hc, ho'] at hd
        simpa using hd
      refine hop.go g a _ _ hops hst'.so fun g' v h1 h2 h3 h4 => ⟨hcl', (H, frA, σA), hm, hl, fun k hk hh => ?_, hD0, g', rfl, ?_⟩
      · have hki : k ≠ i := by rintro rfl; rw [hhv] at hh; cases hh
        unfold upd
        rw [if_neg hki]
        exact hD k hk hh
      · have hdN : d < E.N := by
          have := hN o hom
          rw [hod] at this
          exact Nat.le_of_ble_eq_true (by simpa using this)
        have hsz := hst'.n
        refine ⟨fun d' => ?_, by rw [hod]; simp [Act.put, hsz], by rw [hod]; exact hst'.df.mono h1.ext, hst'.so.grow h1 h2 (fun k _ => by rw [h3])⟩
        have hget : (a.put o.dst v).tmps.getD d' undef = if d = d' then v else a.tmps.getD d' undef := by
          rw [hod]
          simp only [Act.put]
          rw [getD_set_eq]
          by_cases h5 : d = d'
          · rw [if_pos ⟨h5, by omega⟩, if_pos h5]
          · rw [if_neg (fun x => h5 x.1), if_neg h5]
        rw [hget]
        by_cases h5 : d = d'
        · subst h5
          rw [if_pos rfl, purF_get l cs _ i c d hdist' (by rw [hbl]; omega) hd hc, hbg _ i hil]
          have : upd D i i = true := by unfold upd; rw [if_pos rfl]
          rw [this]; exact h4
        · rw [if_neg h5]
          have hsame : (purF l cs (bits (upd D i)) ++ frA).get d' = (purF l cs (bits D) ++ frA).get d' := by
            rcases hslot d' with ⟨j, c', q1, q2, q3⟩ | q1
            · rw [purF_get l cs _ j c' d' hdist' (by rw [hbl]; omega) q1 q2, purF_get l cs _ j c' d' hdist' (by rw [hbl]; omega) q1 q2, hbg _ j q3, hbg _ j q3]
              have hji : j ≠ i := by rintro rfl; rw [hd] at q1; cases q1; exact h5 rfl
              unfold upd
              rw [if_neg hji]
            · rw [purF_other l cs _ d' q1, purF_other l cs _ d' q1]
          rw [hsame]
          exact (hst'.fr d').mono h1.ext (fun k _ => by rw [h3])
    | @sto o2 σ' σ2 fr2 j ho2 hc hop hn hf2 hs2 =>
      rw [ho'] at ho2; cases ho2
      obtain ⟨q1, q2, q3⟩ := hheavy hc
      refine (hop.go _ (hev D o frA hom he) (hhas D frA)).go g a _ _ hst' fun g' a' hst2 => ⟨hcl', _, List.mem_of_getElem? hn, by simp [hl], q1, q2, g', rfl, hst2.le (fun d => ?_) hs2⟩
      rw [q3]
      rcases hslot d with ⟨k, c, h1, h2, h3⟩ | h1
      · rw [purF_get l cs _ k c d hdist' (by rw [hbl]; omega) h1 h2, purF_get l cs _ k c d hdist' (by rw [hbl]; omega) h1 h2]
        exact .inr (.inl rfl)
      · rw [purF_other l cs _ d h1, purF_other l cs _ d h1]; exact hf2 d
    | @dst o2 k c rs σ' σ2 fr2 j ho2 hc hk hrs hop hn hf2 hs2 =>
      rw [ho'] at ho2; cases ho2
      obtain ⟨q1, q2, q3⟩ := hheavy hc
      refine (hop.go _ (hev D o frA hom he) (hhas D frA)).go g a _ _ hst' fun g' a' hst2 => ⟨hcl', _, List.mem_of_getElem? hn, by simp [hl], q1, q2, g', rfl, hst2.le (fun d => ?_) hs2⟩
      rw [q3]
      rcases hslot d with ⟨m, c', h1, h2, h3⟩ | h1
      · have hkd : k ≠ d := by
          rintro rfl
          have := List.all_eq_true.1 hk m (by simpa using h3)
          simp [h1] at this
        rw [Fr.get_cons, if_neg hkd, Fr.get_clrs, purF_get l cs _ m c' d hdist' (by rw [hbl]; omega) h1 h2, purF_get l cs _ m c' d hdist' (by rw [hbl]; omega) h1 h2]
        refine .inr (.inl ?_)
        cases (bits D).getD m false with
        | false => exact clrs_same (by rw [List.all_eq_true]; intro r _; rfl)
        | true =>
          refine clrs_same ?_
          have := List.all_eq_true.1 hrs _ (List.mem_of_getElem? h2)
          exact this
      · have := hf2 d
        rw [Fr.get_cons, Fr.get_clrs] at this ⊢
        rw [purF_other l cs _ d h1, purF_other l cs _ d h1]
        exact this
section
variable {FR : Fr} {ty : TypeId} {pos : String} {af : Array Edge} {gu : Option (Nat × Bool)} {T : Tab} {P : Program} {id k r size bytes : Nat} {e t : TypeId} {zero : Value} {d : TypeDesc}
theorem stoLe_refl2 : StoLe σ σ := fun _ _ h => .inl h
end
end Go.Proofs.YtpclhpncmlbccaaGreatDoor

/- The calculus: integers of 64 bits without a sign: conversions, arithmetic, bits, shifts. No program is named. -/
namespace Go.Proofs.YtpclhpncmlbccaaGreatDoor
open Go.RowKit
set_option linter.unusedVariables false
set_option linter.unusedSimpArgs false
section
variable {P : Program} {ρ : Operand → AV} {σ : Sto} {dst : Option Tmp} {ty : TypeId} {pos : String} {af : Array Edge} {gu : Option (Nat × Bool)} {x y : Operand} {t t' : TypeId} {ss sb ss' sb' : Nat} {sz sz' : Value} {a b n : Int}
end
end Go.Proofs.YtpclhpncmlbccaaGreatDoor

/- Go's structures as Lean's, and their cells. Written by program. -/
namespace Go.Proofs.YtpclhpncmlbccaaGreatDoor
open Go.RowKit
structure TFault where
  Code : Int
  Index : Int
def TFault.pc (x : TFault) : List PV := [pI x.Code, pI x.Index]
structure TAlias where
  Address : Str
  To : List Str
def TAlias.pc (x : TAlias) : List PV := [pS x.Address, pL cS x.To]
structure TRecipient where
  Address : Str
  Notify : Int
def TRecipient.pc (x : TRecipient) : List PV := [pS x.Address, pI x.Notify]
structure TEnvelope where
  From : Str
  To : List TRecipient
  Id : Str
def TEnvelope.pc (x : TEnvelope) : List PV := [pS x.From, pL TRecipient.pc x.To, pS x.Id]
structure TField where
  Name : Str
  Value : Str
def TField.pc (x : TField) : List PV := [pS x.Name, pS x.Value]
structure TMessage where
  Fields : List TField
  Body : List UInt8
def TMessage.pc (x : TMessage) : List PV := [pL TField.pc x.Fields, pL cU x.Body]
structure TMail where
  Envelope : TEnvelope
  Message : TMessage
def TMail.pc (x : TMail) : List PV := [pS x.Envelope.From, pL TRecipient.pc x.Envelope.To, pS x.Envelope.Id, pL TField.pc x.Message.Fields, pL cU x.Message.Body]
structure TDate where
  Year : Int
  Month : Int
  Day : Int
  Hour : Int
  Minute : Int
  Second : Int
  Zone : Int
def TDate.pc (x : TDate) : List PV := [pI x.Year, pI x.Month, pI x.Day, pI x.Hour, pI x.Minute, pI x.Second, pI x.Zone]
structure TTold where
  Address : Str
  Result : Int
def TTold.pc (x : TTold) : List PV := [pS x.Address, pI x.Result]
structure TNotice where
  Kind : Int
  Id : Str
  Told : List TTold
def TNotice.pc (x : TNotice) : List PV := [pI x.Kind, pS x.Id, pL TTold.pc x.Told]
end Go.Proofs.YtpclhpncmlbccaaGreatDoor

/- Rows of the table of types. Written by program. -/
namespace Go.Proofs.YtpclhpncmlbccaaGreatDoor
open Go.RowKit
set_option maxRecDepth 100000
set_option maxHeartbeats 40000000
set_option linter.unusedVariables false
theorem mixed : Tryz.prog.follows .mixedOrders = true := by kernel_rfl
theorem cmp_api_Recipient : CmpOk Tryz.prog 67 := ⟨by kernel_rfl, by kernel_rfl⟩
theorem cmp_api_Told : CmpOk Tryz.prog 72 := ⟨by kernel_rfl, by kernel_rfl⟩
theorem pl_api_Date (w : World) : Sem.run Tryz.prog (Array.mapM (fun (f : Field) => do pure (f.offset, ← sizeOf f.type)) #[⟨"Year", 3, 0, false, "", "", 0⟩, ⟨"Month", 3, 1, false, "", "", 8⟩, ⟨"Day", 3, 2, false, "", "", 16⟩, ⟨"Hour", 3, 3, false, "", "", 24⟩, ⟨"Minute", 3, 4, false, "", "", 32⟩, ⟨"Second", 3, 5, false, "", "", 40⟩, ⟨"Zone", 3, 6, false, "", "", 48⟩]) w = .ok #[(0, 1), (1, 1), (2, 1), (3, 1), (4, 1), (5, 1), (6, 1)] w := by kernel_rfl
theorem pl_api_Envelope (w : World) : Sem.run Tryz.prog (Array.mapM (fun (f : Field) => do pure (f.offset, ← sizeOf f.type)) #[⟨"From", 9, 0, false, "", "", 0⟩, ⟨"To", 22, 1, false, "", "", 16⟩, ⟨"Id", 9, 2, false, "", "", 40⟩]) w = .ok #[(0, 1), (1, 1), (2, 1)] w := by kernel_rfl
theorem pl_api_Fault (w : World) : Sem.run Tryz.prog (Array.mapM (fun (f : Field) => do pure (f.offset, ← sizeOf f.type)) #[⟨"Code", 3, 0, false, "", "", 0⟩, ⟨"Index", 3, 1, false, "", "", 8⟩]) w = .ok #[(0, 1), (1, 1)] w := by kernel_rfl
theorem pl_api_Field (w : World) : Sem.run Tryz.prog (Array.mapM (fun (f : Field) => do pure (f.offset, ← sizeOf f.type)) #[⟨"Name", 9, 0, false, "", "", 0⟩, ⟨"Value", 9, 1, false, "", "", 16⟩]) w = .ok #[(0, 1), (1, 1)] w := by kernel_rfl
theorem pl_api_Mail (w : World) : Sem.run Tryz.prog (Array.mapM (fun (f : Field) => do pure (f.offset, ← sizeOf f.type)) #[⟨"Envelope", 24, 0, false, "", "", 0⟩, ⟨"Message", 28, 3, false, "", "", 56⟩]) w = .ok #[(0, 3), (3, 2)] w := by kernel_rfl
theorem pl_api_Message (w : World) : Sem.run Tryz.prog (Array.mapM (fun (f : Field) => do pure (f.offset, ← sizeOf f.type)) #[⟨"Fields", 25, 0, false, "", "", 0⟩, ⟨"Body", 26, 1, false, "", "", 24⟩]) w = .ok #[(0, 1), (1, 1)] w := by kernel_rfl
theorem pl_api_Notice (w : World) : Sem.run Tryz.prog (Array.mapM (fun (f : Field) => do pure (f.offset, ← sizeOf f.type)) #[⟨"Kind", 3, 0, false, "", "", 0⟩, ⟨"Id", 9, 1, false, "", "", 8⟩, ⟨"Told", 31, 2, false, "", "", 24⟩]) w = .ok #[(0, 1), (1, 1), (2, 1)] w := by kernel_rfl
theorem pl_api_Recipient (w : World) : Sem.run Tryz.prog (Array.mapM (fun (f : Field) => do pure (f.offset, ← sizeOf f.type)) #[⟨"Address", 9, 0, false, "", "", 0⟩, ⟨"Notify", 3, 1, false, "", "", 16⟩]) w = .ok #[(0, 1), (1, 1)] w := by kernel_rfl
theorem pl_api_Told (w : World) : Sem.run Tryz.prog (Array.mapM (fun (f : Field) => do pure (f.offset, ← sizeOf f.type)) #[⟨"Address", 9, 0, false, "", "", 0⟩, ⟨"Result", 3, 1, false, "", "", 16⟩]) w = .ok #[(0, 1), (1, 1)] w := by kernel_rfl
theorem ty__12_int : TyOk Tryz.prog 167 12 96 (.agg #[.int .i64 0, .int .i64 0, .int .i64 0, .int .i64 0, .int .i64 0, .int .i64 0, .int .i64 0, .int .i64 0, .int .i64 0, .int .i64 0, .int .i64 0, .int .i64 0]) (.array 12 3) := ⟨by kernel_rfl, by kernel_rfl⟩
theorem ty__12_string : TyOk Tryz.prog 99 12 192 (.agg #[.string ⟨#[]⟩, .string ⟨#[]⟩, .string ⟨#[]⟩, .string ⟨#[]⟩, .string ⟨#[]⟩, .string ⟨#[]⟩, .string ⟨#[]⟩, .string ⟨#[]⟩, .string ⟨#[]⟩, .string ⟨#[]⟩, .string ⟨#[]⟩, .string ⟨#[]⟩]) (.array 12 9) := ⟨by kernel_rfl, by kernel_rfl⟩
theorem ty__4_string : TyOk Tryz.prog 105 4 64 (.agg #[.string ⟨#[]⟩, .string ⟨#[]⟩, .string ⟨#[]⟩, .string ⟨#[]⟩]) (.array 4 9) := ⟨by kernel_rfl, by kernel_rfl⟩
theorem ty__5_string : TyOk Tryz.prog 64 5 80 (.agg #[.string ⟨#[]⟩, .string ⟨#[]⟩, .string ⟨#[]⟩, .string ⟨#[]⟩, .string ⟨#[]⟩]) (.array 5 9) := ⟨by kernel_rfl, by kernel_rfl⟩
theorem ty__7_string : TyOk Tryz.prog 97 7 112 (.agg #[.string ⟨#[]⟩, .string ⟨#[]⟩, .string ⟨#[]⟩, .string ⟨#[]⟩, .string ⟨#[]⟩, .string ⟨#[]⟩, .string ⟨#[]⟩]) (.array 7 9) := ⟨by kernel_rfl, by kernel_rfl⟩
theorem ty_api_Date : TyOk Tryz.prog 55 7 56 (.agg #[.int .i64 0, .int .i64 0, .int .i64 0, .int .i64 0, .int .i64 0, .int .i64 0, .int .i64 0]) (.struct #[⟨"Year", 3, 0, false, "", "", 0⟩, ⟨"Month", 3, 1, false, "", "", 8⟩, ⟨"Day", 3, 2, false, "", "", 16⟩, ⟨"Hour", 3, 3, false, "", "", 24⟩, ⟨"Minute", 3, 4, false, "", "", 32⟩, ⟨"Second", 3, 5, false, "", "", 40⟩, ⟨"Zone", 3, 6, false, "", "", 48⟩]) := ⟨by kernel_rfl, by kernel_rfl⟩
theorem ty_api_Envelope : TyOk Tryz.prog 24 3 56 (.agg #[.string ⟨#[]⟩, .slice none 0 0, .string ⟨#[]⟩]) (.struct #[⟨"From", 9, 0, false, "", "", 0⟩, ⟨"To", 22, 1, false, "", "", 16⟩, ⟨"Id", 9, 2, false, "", "", 40⟩]) := ⟨by kernel_rfl, by kernel_rfl⟩
theorem ty_api_Fault : TyOk Tryz.prog 33 2 16 (.agg #[.int .i64 0, .int .i64 0]) (.struct #[⟨"Code", 3, 0, false, "", "", 0⟩, ⟨"Index", 3, 1, false, "", "", 8⟩]) := ⟨by kernel_rfl, by kernel_rfl⟩
theorem ty_api_Field : TyOk Tryz.prog 63 2 32 (.agg #[.string ⟨#[]⟩, .string ⟨#[]⟩]) (.struct #[⟨"Name", 9, 0, false, "", "", 0⟩, ⟨"Value", 9, 1, false, "", "", 16⟩]) := ⟨by kernel_rfl, by kernel_rfl⟩
theorem ty_api_Mail : TyOk Tryz.prog 30 5 104 (.agg #[.string ⟨#[]⟩, .slice none 0 0, .string ⟨#[]⟩, .slice none 0 0, .slice none 0 0]) (.struct #[⟨"Envelope", 24, 0, false, "", "", 0⟩, ⟨"Message", 28, 3, false, "", "", 56⟩]) := ⟨by kernel_rfl, by kernel_rfl⟩
theorem ty_api_Message : TyOk Tryz.prog 28 2 48 (.agg #[.slice none 0 0, .slice none 0 0]) (.struct #[⟨"Fields", 25, 0, false, "", "", 0⟩, ⟨"Body", 26, 1, false, "", "", 24⟩]) := ⟨by kernel_rfl, by kernel_rfl⟩
theorem ty_api_Notice : TyOk Tryz.prog 43 3 48 (.agg #[.int .i64 0, .string ⟨#[]⟩, .slice none 0 0]) (.struct #[⟨"Kind", 3, 0, false, "", "", 0⟩, ⟨"Id", 9, 1, false, "", "", 8⟩, ⟨"Told", 31, 2, false, "", "", 24⟩]) := ⟨by kernel_rfl, by kernel_rfl⟩
theorem ty_api_Recipient : TyOk Tryz.prog 67 2 24 (.agg #[.string ⟨#[]⟩, .int .i64 0]) (.struct #[⟨"Address", 9, 0, false, "", "", 0⟩, ⟨"Notify", 3, 1, false, "", "", 16⟩]) := ⟨by kernel_rfl, by kernel_rfl⟩
theorem ty_api_Told : TyOk Tryz.prog 72 2 24 (.agg #[.string ⟨#[]⟩, .int .i64 0]) (.struct #[⟨"Address", 9, 0, false, "", "", 0⟩, ⟨"Result", 3, 1, false, "", "", 16⟩]) := ⟨by kernel_rfl, by kernel_rfl⟩
theorem ty_bool : TyOk Tryz.prog 4 1 1 (.bool false) .bool := ⟨by kernel_rfl, by kernel_rfl⟩
theorem ty_error : TyOk Tryz.prog 129 1 16 (.nilIface) (.interface #[("Error", 132)]) := ⟨by kernel_rfl, by kernel_rfl⟩
theorem ty_int : TyOk Tryz.prog 3 1 8 (.int .i64 0) (.int .i64) := ⟨by kernel_rfl, by kernel_rfl⟩
theorem ty_int32 : TyOk Tryz.prog 21 1 4 (.int .i32 0) (.int .i32) := ⟨by kernel_rfl, by kernel_rfl⟩
theorem ty_s_api_Field : TyOk Tryz.prog 25 1 24 (.slice none 0 0) (.slice 63) := ⟨by kernel_rfl, by kernel_rfl⟩
theorem ty_s_api_Recipient : TyOk Tryz.prog 22 1 24 (.slice none 0 0) (.slice 67) := ⟨by kernel_rfl, by kernel_rfl⟩
theorem ty_s_api_Told : TyOk Tryz.prog 31 1 24 (.slice none 0 0) (.slice 72) := ⟨by kernel_rfl, by kernel_rfl⟩
theorem ty_s_int : TyOk Tryz.prog 239 1 24 (.slice none 0 0) (.slice 3) := ⟨by kernel_rfl, by kernel_rfl⟩
theorem ty_s_s_api_Field : TyOk Tryz.prog 161 1 24 (.slice none 0 0) (.slice 25) := ⟨by kernel_rfl, by kernel_rfl⟩
theorem ty_s_string : TyOk Tryz.prog 80 1 24 (.slice none 0 0) (.slice 9) := ⟨by kernel_rfl, by kernel_rfl⟩
theorem ty_s_uint8 : TyOk Tryz.prog 26 1 24 (.slice none 0 0) (.slice 5) := ⟨by kernel_rfl, by kernel_rfl⟩
theorem ty_string : TyOk Tryz.prog 9 1 16 (.string ⟨#[]⟩) .string := ⟨by kernel_rfl, by kernel_rfl⟩
theorem ty_uint : TyOk Tryz.prog 168 1 8 (.int .u64 0) (.int .u64) := ⟨by kernel_rfl, by kernel_rfl⟩
theorem ty_uint8 : TyOk Tryz.prog 5 1 1 (.int .u8 0) (.int .u8) := ⟨by kernel_rfl, by kernel_rfl⟩
def tab : Tab := [(167, ⟨12, 96, (.agg #[.int .i64 0, .int .i64 0, .int .i64 0, .int .i64 0, .int .i64 0, .int .i64 0, .int .i64 0, .int .i64 0, .int .i64 0, .int .i64 0, .int .i64 0, .int .i64 0]), (.array 12 3), none⟩), (99, ⟨12, 192, (.agg #[.string ⟨#[]⟩, .string ⟨#[]⟩, .string ⟨#[]⟩, .string ⟨#[]⟩, .string ⟨#[]⟩, .string ⟨#[]⟩, .string ⟨#[]⟩, .string ⟨#[]⟩, .string ⟨#[]⟩, .string ⟨#[]⟩, .string ⟨#[]⟩, .string ⟨#[]⟩]), (.array 12 9), none⟩), (105, ⟨4, 64, (.agg #[.string ⟨#[]⟩, .string ⟨#[]⟩, .string ⟨#[]⟩, .string ⟨#[]⟩]), (.array 4 9), none⟩), (64, ⟨5, 80, (.agg #[.string ⟨#[]⟩, .string ⟨#[]⟩, .string ⟨#[]⟩, .string ⟨#[]⟩, .string ⟨#[]⟩]), (.array 5 9), none⟩), (97, ⟨7, 112, (.agg #[.string ⟨#[]⟩, .string ⟨#[]⟩, .string ⟨#[]⟩, .string ⟨#[]⟩, .string ⟨#[]⟩, .string ⟨#[]⟩, .string ⟨#[]⟩]), (.array 7 9), none⟩), (55, ⟨7, 56, (.agg #[.int .i64 0, .int .i64 0, .int .i64 0, .int .i64 0, .int .i64 0, .int .i64 0, .int .i64 0]), (.struct #[⟨"Year", 3, 0, false, "", "", 0⟩, ⟨"Month", 3, 1, false, "", "", 8⟩, ⟨"Day", 3, 2, false, "", "", 16⟩, ⟨"Hour", 3, 3, false, "", "", 24⟩, ⟨"Minute", 3, 4, false, "", "", 32⟩, ⟨"Second", 3, 5, false, "", "", 40⟩, ⟨"Zone", 3, 6, false, "", "", 48⟩]), (some #[(0, 1), (1, 1), (2, 1), (3, 1), (4, 1), (5, 1), (6, 1)])⟩), (24, ⟨3, 56, (.agg #[.string ⟨#[]⟩, .slice none 0 0, .string ⟨#[]⟩]), (.struct #[⟨"From", 9, 0, false, "", "", 0⟩, ⟨"To", 22, 1, false, "", "", 16⟩, ⟨"Id", 9, 2, false, "", "", 40⟩]), (some #[(0, 1), (1, 1), (2, 1)])⟩), (33, ⟨2, 16, (.agg #[.int .i64 0, .int .i64 0]), (.struct #[⟨"Code", 3, 0, false, "", "", 0⟩, ⟨"Index", 3, 1, false, "", "", 8⟩]), (some #[(0, 1), (1, 1)])⟩), (63, ⟨2, 32, (.agg #[.string ⟨#[]⟩, .string ⟨#[]⟩]), (.struct #[⟨"Name", 9, 0, false, "", "", 0⟩, ⟨"Value", 9, 1, false, "", "", 16⟩]), (some #[(0, 1), (1, 1)])⟩), (30, ⟨5, 104, (.agg #[.string ⟨#[]⟩, .slice none 0 0, .string ⟨#[]⟩, .slice none 0 0, .slice none 0 0]), (.struct #[⟨"Envelope", 24, 0, false, "", "", 0⟩, ⟨"Message", 28, 3, false, "", "", 56⟩]), (some #[(0, 3), (3, 2)])⟩), (28, ⟨2, 48, (.agg #[.slice none 0 0, .slice none 0 0]), (.struct #[⟨"Fields", 25, 0, false, "", "", 0⟩, ⟨"Body", 26, 1, false, "", "", 24⟩]), (some #[(0, 1), (1, 1)])⟩), (43, ⟨3, 48, (.agg #[.int .i64 0, .string ⟨#[]⟩, .slice none 0 0]), (.struct #[⟨"Kind", 3, 0, false, "", "", 0⟩, ⟨"Id", 9, 1, false, "", "", 8⟩, ⟨"Told", 31, 2, false, "", "", 24⟩]), (some #[(0, 1), (1, 1), (2, 1)])⟩), (67, ⟨2, 24, (.agg #[.string ⟨#[]⟩, .int .i64 0]), (.struct #[⟨"Address", 9, 0, false, "", "", 0⟩, ⟨"Notify", 3, 1, false, "", "", 16⟩]), (some #[(0, 1), (1, 1)])⟩), (72, ⟨2, 24, (.agg #[.string ⟨#[]⟩, .int .i64 0]), (.struct #[⟨"Address", 9, 0, false, "", "", 0⟩, ⟨"Result", 3, 1, false, "", "", 16⟩]), (some #[(0, 1), (1, 1)])⟩), (4, ⟨1, 1, (.bool false), .bool, none⟩), (129, ⟨1, 16, (.nilIface), (.interface #[("Error", 132)]), none⟩), (3, ⟨1, 8, (.int .i64 0), (.int .i64), none⟩), (21, ⟨1, 4, (.int .i32 0), (.int .i32), none⟩), (25, ⟨1, 24, (.slice none 0 0), (.slice 63), none⟩), (22, ⟨1, 24, (.slice none 0 0), (.slice 67), none⟩), (31, ⟨1, 24, (.slice none 0 0), (.slice 72), none⟩), (239, ⟨1, 24, (.slice none 0 0), (.slice 3), none⟩), (161, ⟨1, 24, (.slice none 0 0), (.slice 25), none⟩), (80, ⟨1, 24, (.slice none 0 0), (.slice 9), none⟩), (26, ⟨1, 24, (.slice none 0 0), (.slice 5), none⟩), (9, ⟨1, 16, (.string ⟨#[]⟩), .string, none⟩), (168, ⟨1, 8, (.int .u64 0), (.int .u64), none⟩), (5, ⟨1, 1, (.int .u8 0), (.int .u8), none⟩)]
theorem tk : TabOk Tryz.prog tab := (tab_cons ty__12_int (tab_cons ty__12_string (tab_cons ty__4_string (tab_cons ty__5_string (tab_cons ty__7_string (tab_consP ty_api_Date pl_api_Date (tab_consP ty_api_Envelope pl_api_Envelope (tab_consP ty_api_Fault pl_api_Fault (tab_consP ty_api_Field pl_api_Field (tab_consP ty_api_Mail pl_api_Mail (tab_consP ty_api_Message pl_api_Message (tab_consP ty_api_Notice pl_api_Notice (tab_consP ty_api_Recipient pl_api_Recipient (tab_consP ty_api_Told pl_api_Told (tab_cons ty_bool (tab_cons ty_error (tab_cons ty_int (tab_cons ty_int32 (tab_cons ty_s_api_Field (tab_cons ty_s_api_Recipient (tab_cons ty_s_api_Told (tab_cons ty_s_int (tab_cons ty_s_s_api_Field (tab_cons ty_s_string (tab_cons ty_s_uint8 (tab_cons ty_string (tab_cons ty_uint (tab_cons ty_uint8 tab_nil))))))))))))))))))))))))))))
end Go.Proofs.YtpclhpncmlbccaaGreatDoor

/- Bounds and bulk of Go's structures. Written by program. -/
namespace Go.Proofs.YtpclhpncmlbccaaGreatDoor
open Go.RowKit
def TFault.ok (x : TFault) : Prop := ok64 x.Code ∧ ok64 x.Index
def TFault.bk (x : TFault) : Nat := (fun _ => 1) x.Code + (fun _ => 1) x.Index + 1
instance : Inhabited TFault := ⟨⟨default, default⟩⟩
def TAlias.ok (x : TAlias) : Prop := okStr x.Address ∧ (okL okStr) x.To
def TAlias.bk (x : TAlias) : Nat := (fun s => s.length + 1) x.Address + (bkL (fun s => s.length + 1)) x.To + 1
instance : Inhabited TAlias := ⟨⟨default, default⟩⟩
def TRecipient.ok (x : TRecipient) : Prop := okStr x.Address ∧ ok64 x.Notify
def TRecipient.bk (x : TRecipient) : Nat := (fun s => s.length + 1) x.Address + (fun _ => 1) x.Notify + 1
instance : Inhabited TRecipient := ⟨⟨default, default⟩⟩
def TEnvelope.ok (x : TEnvelope) : Prop := okStr x.From ∧ (okL TRecipient.ok) x.To ∧ okStr x.Id
def TEnvelope.bk (x : TEnvelope) : Nat := (fun s => s.length + 1) x.From + (bkL TRecipient.bk) x.To + (fun s => s.length + 1) x.Id + 1
instance : Inhabited TEnvelope := ⟨⟨default, default, default⟩⟩
def TField.ok (x : TField) : Prop := okStr x.Name ∧ okStr x.Value
def TField.bk (x : TField) : Nat := (fun s => s.length + 1) x.Name + (fun s => s.length + 1) x.Value + 1
instance : Inhabited TField := ⟨⟨default, default⟩⟩
def TMessage.ok (x : TMessage) : Prop := (okL TField.ok) x.Fields ∧ (okL (fun _ => True)) x.Body
def TMessage.bk (x : TMessage) : Nat := (bkL TField.bk) x.Fields + (bkL (fun _ => 1)) x.Body + 1
instance : Inhabited TMessage := ⟨⟨default, default⟩⟩
def TMail.ok (x : TMail) : Prop := TEnvelope.ok x.Envelope ∧ TMessage.ok x.Message
def TMail.bk (x : TMail) : Nat := TEnvelope.bk x.Envelope + TMessage.bk x.Message + 1
instance : Inhabited TMail := ⟨⟨default, default⟩⟩
def TDate.ok (x : TDate) : Prop := ok64 x.Year ∧ ok64 x.Month ∧ ok64 x.Day ∧ ok64 x.Hour ∧ ok64 x.Minute ∧ ok64 x.Second ∧ ok64 x.Zone
def TDate.bk (x : TDate) : Nat := (fun _ => 1) x.Year + (fun _ => 1) x.Month + (fun _ => 1) x.Day + (fun _ => 1) x.Hour + (fun _ => 1) x.Minute + (fun _ => 1) x.Second + (fun _ => 1) x.Zone + 1
instance : Inhabited TDate := ⟨⟨default, default, default, default, default, default, default⟩⟩
def TTold.ok (x : TTold) : Prop := okStr x.Address ∧ ok64 x.Result
def TTold.bk (x : TTold) : Nat := (fun s => s.length + 1) x.Address + (fun _ => 1) x.Result + 1
instance : Inhabited TTold := ⟨⟨default, default⟩⟩
def TNotice.ok (x : TNotice) : Prop := ok64 x.Kind ∧ okStr x.Id ∧ (okL TTold.ok) x.Told
def TNotice.bk (x : TNotice) : Nat := (fun _ => 1) x.Kind + (fun s => s.length + 1) x.Id + (bkL TTold.bk) x.Told + 1
instance : Inhabited TNotice := ⟨⟨default, default, default⟩⟩
end Go.Proofs.YtpclhpncmlbccaaGreatDoor

/- How the laws' arguments are read. Written by program. -/
namespace Go.Proofs.YtpclhpncmlbccaaGreatDoor
open Go.RowKit
set_option maxRecDepth 100000
set_option linter.unusedVariables false
theorem op_string : Opens Tryz.prog 9 1 cS okStr (fun s => s.length + 1) := opens_S ty_string.u (by kernel_rfl)
theorem op_int : Opens Tryz.prog 3 1 cI ok64 (fun _ => 1) := opens_I ty_int.u (by kernel_rfl)
theorem op_api_Recipient : Opens Tryz.prog 67 2 TRecipient.pc TRecipient.ok TRecipient.bk := ⟨by kernel_rfl, fun _ => rfl, fun {H enc W fuel cs d} h => by
  obtain ⟨xs, n, _, rfl, hl, hlen, hf⟩ := DataW.trod_struct ty_api_Recipient.u h
  have hl2 : cs.length = 2 := hl.trans (by kernel_rfl)
  match xs, hlen with
  | [y0, y1], _ =>
    obtain ⟨x0, r0, o0, b0⟩ := op_string.op (show _ = some y0 from hf 0 _ rfl)
    replace r0 : RelC W _ (List.take (Tryz.prog.cellsOf 9) (List.drop 0 cs)) := r0
    rw [op_string.cells] at r0
    obtain ⟨x1, r1, o1, b1⟩ := op_int.op (show _ = some y1 from hf 1 _ rfl)
    replace r1 : RelC W _ (List.take (Tryz.prog.cellsOf 3) (List.drop 1 cs)) := r1
    rw [op_int.cells] at r1
    exact ⟨⟨x0, x1⟩, (relC_seg (off := 0) rfl r0 (relC_seg (off := 1) rfl r1 (relC_end hl2))), ⟨o0, o1⟩, by simp only [List.map, Rows.uptoBulk, Rows.uptoBulkAll, TRecipient.bk]; omega⟩⟩
theorem op_s_api_Recipient : Opens Tryz.prog 22 1 (cL TRecipient.pc) (okL TRecipient.ok) (bkL TRecipient.bk) := opens_L op_api_Recipient rfl ty_s_api_Recipient.u (by kernel_rfl)
theorem op_api_Envelope : Opens Tryz.prog 24 3 TEnvelope.pc TEnvelope.ok TEnvelope.bk := ⟨by kernel_rfl, fun _ => rfl, fun {H enc W fuel cs d} h => by
  obtain ⟨xs, n, _, rfl, hl, hlen, hf⟩ := DataW.trod_struct ty_api_Envelope.u h
  have hl2 : cs.length = 3 := hl.trans (by kernel_rfl)
  match xs, hlen with
  | [y0, y1, y2], _ =>
    obtain ⟨x0, r0, o0, b0⟩ := op_string.op (show _ = some y0 from hf 0 _ rfl)
    replace r0 : RelC W _ (List.take (Tryz.prog.cellsOf 9) (List.drop 0 cs)) := r0
    rw [op_string.cells] at r0
    obtain ⟨x1, r1, o1, b1⟩ := op_s_api_Recipient.op (show _ = some y1 from hf 1 _ rfl)
    replace r1 : RelC W _ (List.take (Tryz.prog.cellsOf 22) (List.drop 1 cs)) := r1
    rw [op_s_api_Recipient.cells] at r1
    obtain ⟨x2, r2, o2, b2⟩ := op_string.op (show _ = some y2 from hf 2 _ rfl)
    replace r2 : RelC W _ (List.take (Tryz.prog.cellsOf 9) (List.drop 2 cs)) := r2
    rw [op_string.cells] at r2
    exact ⟨⟨x0, x1, x2⟩, (relC_seg (off := 0) rfl r0 (relC_seg (off := 1) rfl r1 (relC_seg (off := 2) rfl r2 (relC_end hl2)))), ⟨o0, o1, o2⟩, by simp only [List.map, Rows.uptoBulk, Rows.uptoBulkAll, TEnvelope.bk]; omega⟩⟩
theorem op_api_Field : Opens Tryz.prog 63 2 TField.pc TField.ok TField.bk := ⟨by kernel_rfl, fun _ => rfl, fun {H enc W fuel cs d} h => by
  obtain ⟨xs, n, _, rfl, hl, hlen, hf⟩ := DataW.trod_struct ty_api_Field.u h
  have hl2 : cs.length = 2 := hl.trans (by kernel_rfl)
  match xs, hlen with
  | [y0, y1], _ =>
    obtain ⟨x0, r0, o0, b0⟩ := op_string.op (show _ = some y0 from hf 0 _ rfl)
    replace r0 : RelC W _ (List.take (Tryz.prog.cellsOf 9) (List.drop 0 cs)) := r0
    rw [op_string.cells] at r0
    obtain ⟨x1, r1, o1, b1⟩ := op_string.op (show _ = some y1 from hf 1 _ rfl)
    replace r1 : RelC W _ (List.take (Tryz.prog.cellsOf 9) (List.drop 1 cs)) := r1
    rw [op_string.cells] at r1
    exact ⟨⟨x0, x1⟩, (relC_seg (off := 0) rfl r0 (relC_seg (off := 1) rfl r1 (relC_end hl2))), ⟨o0, o1⟩, by simp only [List.map, Rows.uptoBulk, Rows.uptoBulkAll, TField.bk]; omega⟩⟩
theorem op_s_api_Field : Opens Tryz.prog 25 1 (cL TField.pc) (okL TField.ok) (bkL TField.bk) := opens_L op_api_Field rfl ty_s_api_Field.u (by kernel_rfl)
theorem op_uint8 : Opens Tryz.prog 5 1 cU (fun _ => True) (fun _ => 1) := opens_U ty_uint8.u (by kernel_rfl)
theorem op_s_uint8 : Opens Tryz.prog 26 1 (cL cU) (okL (fun _ => True)) (bkL (fun _ => 1)) := opens_L op_uint8 rfl ty_s_uint8.u (by kernel_rfl)
theorem op_api_Message : Opens Tryz.prog 28 2 TMessage.pc TMessage.ok TMessage.bk := ⟨by kernel_rfl, fun _ => rfl, fun {H enc W fuel cs d} h => by
  obtain ⟨xs, n, _, rfl, hl, hlen, hf⟩ := DataW.trod_struct ty_api_Message.u h
  have hl2 : cs.length = 2 := hl.trans (by kernel_rfl)
  match xs, hlen with
  | [y0, y1], _ =>
    obtain ⟨x0, r0, o0, b0⟩ := op_s_api_Field.op (show _ = some y0 from hf 0 _ rfl)
    replace r0 : RelC W _ (List.take (Tryz.prog.cellsOf 25) (List.drop 0 cs)) := r0
    rw [op_s_api_Field.cells] at r0
    obtain ⟨x1, r1, o1, b1⟩ := op_s_uint8.op (show _ = some y1 from hf 1 _ rfl)
    replace r1 : RelC W _ (List.take (Tryz.prog.cellsOf 26) (List.drop 1 cs)) := r1
    rw [op_s_uint8.cells] at r1
    exact ⟨⟨x0, x1⟩, (relC_seg (off := 0) rfl r0 (relC_seg (off := 1) rfl r1 (relC_end hl2))), ⟨o0, o1⟩, by simp only [List.map, Rows.uptoBulk, Rows.uptoBulkAll, TMessage.bk]; omega⟩⟩
theorem op_api_Mail : Opens Tryz.prog 30 5 TMail.pc TMail.ok TMail.bk := ⟨by kernel_rfl, fun _ => rfl, fun {H enc W fuel cs d} h => by
  obtain ⟨xs, n, _, rfl, hl, hlen, hf⟩ := DataW.trod_struct ty_api_Mail.u h
  have hl2 : cs.length = 5 := hl.trans (by kernel_rfl)
  match xs, hlen with
  | [y0, y1], _ =>
    obtain ⟨x0, r0, o0, b0⟩ := op_api_Envelope.op (show _ = some y0 from hf 0 _ rfl)
    replace r0 : RelC W _ (List.take (Tryz.prog.cellsOf 24) (List.drop 0 cs)) := r0
    rw [op_api_Envelope.cells] at r0
    obtain ⟨x1, r1, o1, b1⟩ := op_api_Message.op (show _ = some y1 from hf 1 _ rfl)
    replace r1 : RelC W _ (List.take (Tryz.prog.cellsOf 28) (List.drop 3 cs)) := r1
    rw [op_api_Message.cells] at r1
    exact ⟨⟨x0, x1⟩, (relC_seg (off := 0) rfl r0 (relC_seg (off := 3) rfl r1 (relC_end hl2))), ⟨o0, o1⟩, by simp only [List.map, Rows.uptoBulk, Rows.uptoBulkAll, TMail.bk]; omega⟩⟩
theorem op_api_Told : Opens Tryz.prog 72 2 TTold.pc TTold.ok TTold.bk := ⟨by kernel_rfl, fun _ => rfl, fun {H enc W fuel cs d} h => by
  obtain ⟨xs, n, _, rfl, hl, hlen, hf⟩ := DataW.trod_struct ty_api_Told.u h
  have hl2 : cs.length = 2 := hl.trans (by kernel_rfl)
  match xs, hlen with
  | [y0, y1], _ =>
    obtain ⟨x0, r0, o0, b0⟩ := op_string.op (show _ = some y0 from hf 0 _ rfl)
    replace r0 : RelC W _ (List.take (Tryz.prog.cellsOf 9) (List.drop 0 cs)) := r0
    rw [op_string.cells] at r0
    obtain ⟨x1, r1, o1, b1⟩ := op_int.op (show _ = some y1 from hf 1 _ rfl)
    replace r1 : RelC W _ (List.take (Tryz.prog.cellsOf 3) (List.drop 1 cs)) := r1
    rw [op_int.cells] at r1
    exact ⟨⟨x0, x1⟩, (relC_seg (off := 0) rfl r0 (relC_seg (off := 1) rfl r1 (relC_end hl2))), ⟨o0, o1⟩, by simp only [List.map, Rows.uptoBulk, Rows.uptoBulkAll, TTold.bk]; omega⟩⟩
theorem op_s_api_Told : Opens Tryz.prog 31 1 (cL TTold.pc) (okL TTold.ok) (bkL TTold.bk) := opens_L op_api_Told rfl ty_s_api_Told.u (by kernel_rfl)
end Go.Proofs.YtpclhpncmlbccaaGreatDoor

/- Functions of the program as Lean functions: what they compute. Written by program. -/
namespace Go.Proofs.YtpclhpncmlbccaaGreatDoor
open Go.RowKit
set_option maxRecDepth 100000
set_option maxHeartbeats 40000000
set_option linter.unusedVariables false
def R_In (a0 : Int) (a1 : Int) (a2 : Int) : Option Bool :=
  ((bif decide (a1 ≤ a0) then some (decide (a0 ≤ a2)) else some false) : Option Bool).bind fun (j1 : Bool) => some j1
def basic_Fault (a0 : Int) (a1 : Int) : Option TFault :=
  some ((TFault.mk a0 a1))
def basic_None  : Option TFault :=
  some ((TFault.mk 0 0))
def basic_Failed (a0 : TFault) : Option Bool :=
  some ((a0.Code != 0))
def basic_Time (a0 : Int) : Option Bool :=
  ((bif decide ((-68719476736) ≤ a0) then some (decide (a0 ≤ 68719476736)) else some false) : Option Bool).bind fun (j1 : Bool) => some j1
def basic_Letter (a0 : UInt8) : Option Bool :=
  ((bif decide (97 ≤ (a0.toNat : Int)) then (bif decide ((a0.toNat : Int) ≤ 122) then some true else (bif decide (65 ≤ (a0.toNat : Int)) then (bif decide ((a0.toNat : Int) ≤ 90) then some true else (bif decide (48 ≤ (a0.toNat : Int)) then some (decide ((a0.toNat : Int) ≤ 57)) else some false)) else (bif decide (48 ≤ (a0.toNat : Int)) then some (decide ((a0.toNat : Int) ≤ 57)) else some false))) else (bif decide (65 ≤ (a0.toNat : Int)) then (bif decide ((a0.toNat : Int) ≤ 90) then some true else (bif decide (48 ≤ (a0.toNat : Int)) then some (decide ((a0.toNat : Int) ≤ 57)) else some false)) else (bif decide (48 ≤ (a0.toNat : Int)) then some (decide ((a0.toNat : Int) ≤ 57)) else some false))) : Option Bool).bind fun (j1 : Bool) => some j1
def bytes_Equal (a0 : List UInt8) (a1 : List UInt8) : Option Bool :=
  some ((a0 == a1))
def bytes_HasSuffix (a0 : List UInt8) (a1 : List UInt8) : Option Bool :=
  ((bif decide ((a1.length : Int) ≤ (a0.length : Int)) then (cut a0 ((w64 ((a0.length : Int) - (a1.length : Int)))) ((a0.length : Int))).bind fun v3 => (bytes_Equal v3 a1).bind fun v5 => some v5 else some false) : Option Bool).bind fun (j1 : Bool) => some j1
end Go.Proofs.YtpclhpncmlbccaaGreatDoor

/- Library functions as Lean functions. -/
namespace Go.Proofs.YtpclhpncmlbccaaGreatDoor
open Go.RowKit
def strings_IndexByte (s : Str) (c : UInt8) : Option Int := some (Lib.indexByte s c)
def strings_Contains (s t : Str) : Option Bool := if s.length < 4294967281 then some (Lib.contains s t) else none
def strings_Cut (s t : Str) : Option (Str × Str × Bool) := if s.length < 4294967281 then some (Lib.cut s t) else none
end Go.Proofs.YtpclhpncmlbccaaGreatDoor

/- Functions of the program as Lean functions: what they compute. Written by program. -/
namespace Go.Proofs.YtpclhpncmlbccaaGreatDoor
open Go.RowKit
set_option maxRecDepth 100000
set_option maxHeartbeats 40000000
set_option linter.unusedVariables false
def unicode_utf8_ValidRune (a0 : Int) : Option Bool :=
  ((bif decide (0 ≤ a0) then some (decide (a0 < 55296)) else some false) : Option Bool).bind fun (j1 : Bool) => (bif j1 then some true else ((bif decide (57343 < a0) then some (decide (a0 ≤ 1114111)) else some false) : Option Bool).bind fun (j4 : Bool) => (bif j4 then some true else some false))
def strings_IndexRune_l1 (a0 : Str) (s7 : Nat) : Option (Step Nat (Unit ⊕ Int)) :=
  (bif decide (s7 < a0.length) then (bif ((runeAt a0 s7) == 65533) then some (.out (.inr (((s7 : Nat) : Int)))) else some (.cont (s7 + wideAt a0 s7))) else some (.out (.inl (()))))
def strings_IndexRune_l4 (a0 : Str) (a1 : Int) (j23 : Int × Int) (s36 : Int) : Option (Step Int Unit) :=
  (bif decide (s36 < (((runeS a1)).length : Int)) then (idx a0 ((w64 (j23.2 - s36)))).bind fun v40 => (idx ((runeS a1)) ((w64 (j23.1 - s36)))).bind fun v42 => (bif ((v40.toNat : Int) != (v42.toNat : Int)) then none else some (.cont (w64 (s36 + 1)))) else some (.out (())))
noncomputable def strings_IndexRune_k3 (a0 : Str) (a1 : Int) (j23 : Int × Int) : Option (Step Int (Unit ⊕ Int)) :=
  (iter (strings_IndexRune_l4 a0 a1 j23) 1).bind fun b37 => some (.out (.inr ((w64 (j23.2 - j23.1)))))
noncomputable def strings_IndexRune_l2 (a0 : Str) (a1 : Int) (s17 : Int) : Option (Step Int (Unit ⊕ Int)) :=
  (bif decide (s17 < (a0.length : Int)) then (idx a0 s17).bind fun v24 => (idx ((runeS a1)) ((w64 ((((runeS a1)).length : Int) - 1)))).bind fun v26 => (bif ((v24.toNat : Int) != (v26.toNat : Int)) then (cut a0 ((w64 (s17 + 1))) ((a0.length : Int))).bind fun v29 => (idx ((runeS a1)) ((w64 ((((runeS a1)).length : Int) - 1)))).bind fun v31 => (strings_IndexByte v29 v31).bind fun v33 => (bif decide (v33 < 0) then some (.out (.inr ((-1)))) else (strings_IndexRune_k3 a0 a1 ((w64 ((((runeS a1)).length : Int) - 1)), (w64 (s17 + (w64 (v33 + 1))))))) else (strings_IndexRune_k3 a0 a1 ((w64 ((((runeS a1)).length : Int) - 1)), s17))) else some (.out (.inl (()))))
noncomputable def strings_IndexRune (a0 : Str) (a1 : Int) : Option Int :=
  ((bif decide (0 ≤ a1) then some (decide (a1 < 128)) else some false) : Option Bool).bind fun (j1 : Bool) => (bif j1 then (strings_IndexByte a0 ((toU8 a1))).bind fun v4 => some v4 else (bif (a1 == 65533) then (iter (strings_IndexRune_l1 a0) 0).bind (Sum.elim (fun b8 => some ((-1))) (fun b9 => some b9)) else (unicode_utf8_ValidRune a1).bind fun v14 => (bif (!v14) then some ((-1)) else (iter (strings_IndexRune_l2 a0 a1) ((w64 ((((runeS a1)).length : Int) - 1)))).bind (Sum.elim (fun b18 => some ((-1))) (fun b19 => some b19)))))
def strings_shouldUseASCIISet (a0 : Int) : Option Bool :=
  some (decide (8 < a0))
noncomputable def strings_IndexAnyP_l1 (a0 : Str) (a1 : Str) (s12 : Nat) : Option (Step Nat (Unit ⊕ Int)) :=
  (bif decide (s12 < a0.length) then (strings_IndexRune a1 ((runeAt a0 s12))).bind fun v18 => (bif decide (0 ≤ v18) then some (.out (.inr (((s12 : Nat) : Int)))) else some (.cont (s12 + wideAt a0 s12))) else some (.out (.inl (()))))
noncomputable def strings_IndexAnyP (a0 : Str) (a1 : Str) : Option Int :=
  (bif (a1 == ([] : Str)) then some ((-1)) else (bif ((a1.length : Int) == 1) then (idx a1 0).bind fun v3 => ((bif decide (128 ≤ (v3.toNat : Int)) then some 65533 else some ((v3.toNat : Int))) : Option Int).bind fun (j5 : Int) => (strings_IndexRune a0 j5).bind fun v7 => some v7 else (strings_shouldUseASCIISet ((a0.length : Int))).bind fun v9 => (bif v9 then none else (iter (strings_IndexAnyP_l1 a0 a1) 0).bind (Sum.elim (fun b13 => some ((-1))) (fun b14 => some b14)))))
end Go.Proofs.YtpclhpncmlbccaaGreatDoor

/- Library functions as Lean functions. -/
namespace Go.Proofs.YtpclhpncmlbccaaGreatDoor
open Go.RowKit
def asciiL (t : Str) : Bool := t.all fun c => decide (c.toNat < 128)
def strings_IndexAny (s t : Str) : Option Int := if s.length < 4294967281 ∧ t.length < 4294967281 ∧ 2 ≤ t.length ∧ asciiL t = true then some (Lib.indexAny s t) else none
end Go.Proofs.YtpclhpncmlbccaaGreatDoor

/- Functions of the program as Lean functions: what they compute. Written by program. -/
namespace Go.Proofs.YtpclhpncmlbccaaGreatDoor
open Go.RowKit
set_option maxRecDepth 100000
set_option maxHeartbeats 40000000
set_option linter.unusedVariables false
end Go.Proofs.YtpclhpncmlbccaaGreatDoor

/- Functions of the program as Lean functions: what they compute. Written by program. -/
namespace Go.Proofs.YtpclhpncmlbccaaGreatDoor
open Go.RowKit
set_option maxRecDepth 100000
set_option maxHeartbeats 40000000
set_option linter.unusedVariables false
end Go.Proofs.YtpclhpncmlbccaaGreatDoor

/- Functions of the program as Lean functions: what they compute. Written by program. -/
namespace Go.Proofs.YtpclhpncmlbccaaGreatDoor
open Go.RowKit
set_option maxRecDepth 100000
set_option maxHeartbeats 40000000
set_option linter.unusedVariables false
end Go.Proofs.YtpclhpncmlbccaaGreatDoor

/- Functions of the program as Lean functions: what they compute. Written by program. -/
namespace Go.Proofs.YtpclhpncmlbccaaGreatDoor
open Go.RowKit
set_option maxRecDepth 100000
set_option maxHeartbeats 40000000
set_option linter.unusedVariables false
def internal_stringslite_HasPrefix (a0 : Str) (a1 : Str) : Option Bool :=
  ((bif decide ((a1.length : Int) ≤ (a0.length : Int)) then (cut a0 0 ((a1.length : Int))).bind fun v3 => some ((v3 == a1)) else some false) : Option Bool).bind fun (j1 : Bool) => some j1
def strings_HasPrefix (a0 : Str) (a1 : Str) : Option Bool :=
  (internal_stringslite_HasPrefix a0 a1).bind fun v1 => some v1
def internal_stringslite_HasSuffix (a0 : Str) (a1 : Str) : Option Bool :=
  ((bif decide ((a1.length : Int) ≤ (a0.length : Int)) then (cut a0 ((w64 ((a0.length : Int) - (a1.length : Int)))) ((a0.length : Int))).bind fun v3 => some ((v3 == a1)) else some false) : Option Bool).bind fun (j1 : Bool) => some j1
def strings_HasSuffix (a0 : Str) (a1 : Str) : Option Bool :=
  (internal_stringslite_HasSuffix a0 a1).bind fun v1 => some v1
def envelope_Domain_l1 (a0 : Str) (s5 : Int) : Option (Step Int (Unit ⊕ Unit)) :=
  (bif decide (s5 < (a0.length : Int)) then (idx a0 s5).bind fun v11 => ((bif decide (97 ≤ (v11.toNat : Int)) then (bif decide ((v11.toNat : Int) ≤ 122) then some true else (bif decide (48 ≤ (v11.toNat : Int)) then (bif decide ((v11.toNat : Int) ≤ 57) then some true else (bif ((v11.toNat : Int) == 45) then some true else some (((v11.toNat : Int) == 46)))) else (bif ((v11.toNat : Int) == 45) then some true else some (((v11.toNat : Int) == 46))))) else (bif decide (48 ≤ (v11.toNat : Int)) then (bif decide ((v11.toNat : Int) ≤ 57) then some true else (bif ((v11.toNat : Int) == 45) then some true else some (((v11.toNat : Int) == 46)))) else (bif ((v11.toNat : Int) == 45) then some true else some (((v11.toNat : Int) == 46))))) : Option Bool).bind fun (j13 : Bool) => (bif (!j13) then some (.out (.inr (()))) else some (.cont (w64 (s5 + 1)))) else some (.out (.inl (()))))
noncomputable def envelope_Domain (a0 : Str) : Option Bool :=
  ((bif (a0 != ([] : Str)) then (bif decide ((a0.length : Int) ≤ 60) then ((iter (envelope_Domain_l1 a0) 0).bind (Sum.elim (fun b6 => some true) (fun b7 => some false)) : Option Bool).bind fun (j4 : Bool) => (bif j4 then (strings_HasPrefix a0 (([46] : Str))).bind fun v26 => (bif (!v26) then (strings_HasSuffix a0 (([46] : Str))).bind fun v29 => (bif (!v29) then (strings_Contains a0 (([46, 46] : Str))).bind fun v32 => some ((!v32)) else some false) else some false) else some false) else some false) else some false) : Option Bool).bind fun (j1 : Bool) => some j1
def envelope_Split_l1 (v1 : Str × Str × Bool) (s8 : Int) : Option (Step Int (Unit ⊕ Unit)) :=
  (bif decide (s8 < (v1.1.length : Int)) then (idx v1.1 s8).bind fun v14 => ((basic_Letter v14).bind fun v17 => (bif v17 then some true else (strings_IndexByte (([45, 95, 46, 43, 61] : Str)) v14).bind fun v20 => some (decide (0 ≤ v20))) : Option Bool).bind fun (j16 : Bool) => (bif (!j16) then some (.out (.inr (()))) else some (.cont (w64 (s8 + 1)))) else some (.out (.inl (()))))
noncomputable def envelope_Split (a0 : Str) : Option (Str × Str × Bool) :=
  (strings_Cut a0 (([64] : Str))).bind fun v1 => ((bif v1.2.2 then (bif (v1.1 != ([] : Str)) then (bif decide ((v1.1.length : Int) ≤ 60) then ((iter (envelope_Split_l1 v1) 0).bind (Sum.elim (fun b9 => some true) (fun b10 => some false)) : Option Bool).bind fun (j7 : Bool) => (bif j7 then (envelope_Domain v1.2.1).bind fun v24 => some v24 else some false) else some false) else some false) else some false) : Option Bool).bind fun (j3 : Bool) => some ((v1.1, v1.2.1, j3))
noncomputable def envelope_Address (a0 : Str) : Option Bool :=
  (envelope_Split a0).bind fun v1 => some v1.2.2
end Go.Proofs.YtpclhpncmlbccaaGreatDoor

/- Functions of the program as Lean functions: what they compute. Written by program. -/
namespace Go.Proofs.YtpclhpncmlbccaaGreatDoor
open Go.RowKit
set_option maxRecDepth 100000
set_option maxHeartbeats 40000000
set_option linter.unusedVariables false
end Go.Proofs.YtpclhpncmlbccaaGreatDoor

/- Functions of the program as Lean functions: what they compute. Written by program. -/
namespace Go.Proofs.YtpclhpncmlbccaaGreatDoor
open Go.RowKit
set_option maxRecDepth 100000
set_option maxHeartbeats 40000000
set_option linter.unusedVariables false
def basic_Name_l1 (a0 : Str) (s5 : Int) : Option (Step Int (Unit ⊕ Unit)) :=
  (bif decide (s5 < (a0.length : Int)) then (idx a0 s5).bind fun v11 => ((basic_Letter v11).bind fun v14 => (bif v14 then some true else (bif ((v11.toNat : Int) == 45) then some true else (bif ((v11.toNat : Int) == 95) then some true else some (((v11.toNat : Int) == 46))))) : Option Bool).bind fun (j13 : Bool) => (bif (!j13) then some (.out (.inr (()))) else some (.cont (w64 (s5 + 1)))) else some (.out (.inl (()))))
noncomputable def basic_Name (a0 : Str) : Option Bool :=
  ((bif (a0 != ([] : Str)) then (bif decide ((a0.length : Int) ≤ 60) then ((iter (basic_Name_l1 a0) 0).bind (Sum.elim (fun b6 => some true) (fun b7 => some false)) : Option Bool).bind fun (j4 : Bool) => some j4 else some false) else some false) : Option Bool).bind fun (j1 : Bool) => some j1
def envelope_Notify (a0 : Int) : Option Bool :=
  ((bif decide (0 ≤ a0) then some (decide (a0 ≤ 7)) else some false) : Option Bool).bind fun (j1 : Bool) => some j1
def envelope_Recipients_l2 (v7 : TRecipient) (v19 : List TRecipient) (s22 : Int) : Option (Step Int (Unit ⊕ Int)) :=
  (bif decide (s22 < (v19.length : Int)) then (idx v19 s22).bind fun v28 => (bif (v28.Address == v7.Address) then some (.out (.inr s22)) else some (.cont (w64 (s22 + 1)))) else some (.out (.inl (()))))
noncomputable def envelope_Recipients_l1 (a0 : List TRecipient) (s1 : Int) : Option (Step Int (Unit ⊕ TFault)) :=
  (bif decide (s1 < (a0.length : Int)) then (idx a0 s1).bind fun v7 => (envelope_Address v7.Address).bind fun v9 => (bif (!v9) then (basic_Fault 10 s1).bind fun v12 => some (.out (.inr v12)) else (envelope_Notify v7.Notify).bind fun v14 => (bif (!v14) then (basic_Fault 3 s1).bind fun v17 => some (.out (.inr v17)) else (cut a0 0 s1).bind fun v19 => ((iter (envelope_Recipients_l2 v7 v19) 0).bind (Sum.elim (fun b23 => some ((-1))) (fun b24 => some b24)) : Option Int).bind fun (j21 : Int) => (bif decide (0 ≤ j21) then (basic_Fault 7 s1).bind fun v32 => some (.out (.inr v32)) else some (.cont (w64 (s1 + 1)))))) else some (.out (.inl (()))))
noncomputable def envelope_Recipients (a0 : List TRecipient) : Option TFault :=
  (iter (envelope_Recipients_l1 a0) 0).bind (Sum.elim (fun b2 => (basic_None).bind fun v34 => some v34) (fun b3 => some b3))
noncomputable def envelope_Validate (a0 : TEnvelope) : Option TFault :=
  ((bif (a0.From != ([] : Str)) then (envelope_Address a0.From).bind fun v3 => some ((!v3)) else some false) : Option Bool).bind fun (j1 : Bool) => (bif j1 then (basic_Fault 10 ((-10))).bind fun v6 => some v6 else ((bif decide ((a0.To.length : Int) < 1) then some true else some (decide (60 < (a0.To.length : Int)))) : Option Bool).bind fun (j8 : Bool) => (bif j8 then (basic_Fault 2 ((-11))).bind fun v11 => some v11 else ((bif (a0.Id != ([] : Str)) then (basic_Name a0.Id).bind fun v15 => some ((!v15)) else some false) : Option Bool).bind fun (j13 : Bool) => (bif j13 then (basic_Fault 10 ((-12))).bind fun v18 => some v18 else (envelope_Recipients a0.To).bind fun v20 => some v20)))
def slices_Index_string_string_l1 (a0 : List Str) (a1 : Str) (s1 : Int) : Option (Step Int (Unit ⊕ Int)) :=
  (bif decide (s1 < (a0.length : Int)) then (idx a0 s1).bind fun v7 => (bif (a1 == v7) then some (.out (.inr s1)) else some (.cont (w64 (s1 + 1)))) else some (.out (.inl (()))))
noncomputable def slices_Index_string_string (a0 : List Str) (a1 : Str) : Option Int :=
  (iter (slices_Index_string_string_l1 a0 a1) 0).bind (Sum.elim (fun b2 => some ((-1))) (fun b3 => some b3))
end Go.Proofs.YtpclhpncmlbccaaGreatDoor

/- Functions of the program as Lean functions: what they compute. Written by program. -/
namespace Go.Proofs.YtpclhpncmlbccaaGreatDoor
open Go.RowKit
set_option maxRecDepth 100000
set_option maxHeartbeats 40000000
set_option linter.unusedVariables false
def strings_ContainsAny (a0 : Str) (a1 : Str) : Option Bool :=
  (strings_IndexAny a0 a1).bind fun v1 => some (decide (0 ≤ v1))
def fold_name_l1 (a0 : Str) (s5 : Int) : Option (Step Int (Unit ⊕ Unit)) :=
  (bif decide (s5 < (a0.length : Int)) then (idx a0 s5).bind fun v11 => ((bif decide (33 ≤ (v11.toNat : Int)) then (bif decide ((v11.toNat : Int) ≤ 126) then some (((v11.toNat : Int) != 58)) else some false) else some false) : Option Bool).bind fun (j13 : Bool) => (bif (!j13) then some (.out (.inr (()))) else some (.cont (w64 (s5 + 1)))) else some (.out (.inl (()))))
noncomputable def fold_name (a0 : Str) : Option Bool :=
  ((bif (a0 != ([] : Str)) then (bif decide ((a0.length : Int) ≤ 60) then ((iter (fold_name_l1 a0) 0).bind (Sum.elim (fun b6 => some true) (fun b7 => some false)) : Option Bool).bind fun (j4 : Bool) => some j4 else some false) else some false) : Option Bool).bind fun (j1 : Bool) => some j1
def fold_ends (a0 : Str) : Option Bool :=
  (strings_ContainsAny a0 (([13, 10, 0] : Str))).bind fun v1 => some v1
def basic_Blank (a0 : UInt8) : Option Bool :=
  ((bif ((a0.toNat : Int) == 32) then some true else some (((a0.toNat : Int) == 9))) : Option Bool).bind fun (j1 : Bool) => some j1
def fold_value (a0 : Str) : Option Bool :=
  ((fold_ends a0).bind fun v2 => (bif (!v2) then (bif (a0 == ([] : Str)) then some true else (idx a0 0).bind fun v6 => (basic_Blank v6).bind fun v8 => (bif (!v8) then (idx a0 ((w64 ((a0.length : Int) - 1)))).bind fun v11 => (basic_Blank v11).bind fun v13 => some ((!v13)) else some false)) else some false) : Option Bool).bind fun (j1 : Bool) => some j1
def fold_point_k2 (s1 : Int × Int) (j5 : Int) : Option (Step (Int × Int) Int) :=
  some (.cont (j5, (w64 (s1.2 + 1))))
def fold_point_l1 (a0 : Str) (s1 : Int × Int) : Option (Step (Int × Int) Int) :=
  (bif decide (s1.2 < (a0.length : Int)) then ((idx a0 s1.2).bind fun v7 => (basic_Blank v7).bind fun v9 => (bif (!v9) then some true else (idx a0 ((w64 (s1.2 - 1)))).bind fun v12 => (basic_Blank v12).bind fun v14 => some v14) : Option Bool).bind fun (j6 : Bool) => (bif j6 then (fold_point_k2 s1 s1.1) else ((bif decide (0 < s1.1) then some (decide (78 < s1.2)) else some false) : Option Bool).bind fun (j17 : Bool) => (bif j17 then some (.out s1.1) else (fold_point_k2 s1 s1.2))) else some (.out s1.1))
noncomputable def fold_point (a0 : Str) (a1 : Int) : Option Int :=
  (iter (fold_point_l1 a0) ((0, (max a1 1)))).bind fun b2 => some b2
noncomputable def fold_Fold_l1  (s18 : Str × Int × (List Str)) : Option (Step (Str × Int × (List Str)) (Str × (List Str))) :=
  (bif decide (78 < (s18.1.length : Int)) then (fold_point s18.1 s18.2.1).bind fun v22 => (bif (v22 == 0) then some (.out ((s18.1, s18.2.2))) else (cut s18.1 0 v22).bind fun v25 => (app 8796093022208 s18.2.2 (([v25] : List Str))).bind fun v27 => (cut s18.1 v22 ((s18.1.length : Int))).bind fun v29 => some (.cont (v29, 0, v27))) else some (.out ((s18.1, s18.2.2))))
def fold_Fold_l2 (v31 : List Str) (s34 : Int) : Option (Step Int (Unit ⊕ ((List Str) × TFault))) :=
  (bif decide (s34 < (v31.length : Int)) then (idx v31 s34).bind fun v40 => (bif decide (998 < (v40.length : Int)) then (basic_Fault 1 s34).bind fun v43 => some (.out (.inr (([], v43)))) else some (.cont (w64 (s34 + 1)))) else some (.out (.inl (()))))
noncomputable def fold_Fold (a0 : Str) (a1 : Str) : Option ((List Str) × TFault) :=
  (fold_name a0).bind fun v1 => (bif (!v1) then (basic_Fault 10 ((-1))).bind fun v4 => some (([], v4)) else (bif decide (4000 < (a1.length : Int)) then (basic_Fault 1 ((-1))).bind fun v7 => some (([], v7)) else (fold_value a1).bind fun v9 => (bif (!v9) then (basic_Fault 11 ((-1))).bind fun v12 => some (([], v12)) else (cat a0 (([58, 32] : Str))).bind fun v14 => (cat v14 a1).bind fun v16 => (iter (fold_Fold_l1) ((v16, (w64 ((a0.length : Int) + 2)), ([] : List Str)))).bind fun b19 => (app 8796093022208 b19.2 (([b19.1] : List Str))).bind fun v31 => (iter (fold_Fold_l2 v31) 0).bind (Sum.elim (fun b35 => (basic_None).bind fun v45 => some ((v31, v45))) (fun b36 => some ((b36.1, b36.2)))))))
end Go.Proofs.YtpclhpncmlbccaaGreatDoor

/- Functions of the program as Lean functions: what they compute. Written by program. -/
namespace Go.Proofs.YtpclhpncmlbccaaGreatDoor
open Go.RowKit
set_option maxRecDepth 100000
set_option maxHeartbeats 40000000
set_option linter.unusedVariables false
noncomputable def header_Validate_l1 (a0 : List TField) (s4 : Int) : Option (Step Int (Unit ⊕ TFault)) :=
  (bif decide (s4 < (a0.length : Int)) then (idx a0 s4).bind fun v10 => (fold_Fold v10.Name v10.Value).bind fun v12 => (basic_Failed v12.2).bind fun v14 => (bif v14 then (basic_Fault v12.2.Code s4).bind fun v17 => some (.out (.inr v17)) else some (.cont (w64 (s4 + 1)))) else some (.out (.inl (()))))
noncomputable def header_Validate (a0 : List TField) : Option TFault :=
  (bif decide (60 < (a0.length : Int)) then (basic_Fault 2 ((-1))).bind fun v2 => some v2 else (iter (header_Validate_l1 a0) 0).bind (Sum.elim (fun b5 => (basic_None).bind fun v19 => some v19) (fun b6 => some b6)))
def message_write_l2 (v7 : (List Str) × TFault) (s9 : Int × (List UInt8)) : Option (Step (Int × (List UInt8)) (List UInt8)) :=
  (bif decide (s9.1 < (v7.1.length : Int)) then (idx v7.1 s9.1).bind fun v13 => (app 140737488355328 s9.2 v13).bind fun v15 => (app 140737488355328 v15 (([(13 : UInt8), (10 : UInt8)] : List UInt8))).bind fun v17 => some (.cont ((w64 (s9.1 + 1)), v17)) else some (.out s9.2))
noncomputable def message_write_l1 (a0 : TMessage) (s1 : Int × (List UInt8)) : Option (Step (Int × (List UInt8)) (List UInt8)) :=
  (bif decide (s1.1 < (a0.Fields.length : Int)) then (idx a0.Fields s1.1).bind fun v5 => (fold_Fold v5.Name v5.Value).bind fun v7 => (iter (message_write_l2 v7) ((0, s1.2))).bind fun b10 => some (.cont ((w64 (s1.1 + 1)), b10)) else some (.out s1.2))
noncomputable def message_write (a0 : TMessage) : Option (List UInt8) :=
  (iter (message_write_l1 a0) ((0, ([] : List UInt8)))).bind fun b2 => (app 140737488355328 b2 (([(13 : UInt8), (10 : UInt8)] : List UInt8))).bind fun v19 => (app 140737488355328 v19 a0.Body).bind fun v21 => some v21
def basic_Body_k2  (j7 : Int × Int) : Option (Step (Int × Int) (Unit ⊕ Int)) :=
  some (.cont (j7.1, (w64 (j7.2 + 1))))
def basic_Body_l1 (a0 : List UInt8) (s1 : Int × Int) : Option (Step (Int × Int) (Unit ⊕ Int)) :=
  (bif decide (s1.2 < (a0.length : Int)) then (idx a0 s1.2).bind fun v8 => ((bif ((v8.toNat : Int) == 13) then (bif decide ((w64 (s1.2 + 1)) < (a0.length : Int)) then (idx a0 ((w64 (s1.2 + 1)))).bind fun v13 => some (((v13.toNat : Int) == 10)) else some false) else some false) : Option Bool).bind fun (j10 : Bool) => (bif j10 then (basic_Body_k2  (0, (w64 (s1.2 + 1)))) else ((bif ((v8.toNat : Int) == 13) then some true else some (((v8.toNat : Int) == 10))) : Option Bool).bind fun (j16 : Bool) => (bif j16 then some (.out (.inr 11)) else (bif decide (998 < (w64 (s1.1 + 1))) then some (.out (.inr 1)) else (basic_Body_k2  ((w64 (s1.1 + 1)), s1.2))))) else some (.out (.inl (()))))
noncomputable def basic_Body (a0 : List UInt8) : Option Int :=
  (iter (basic_Body_l1 a0) ((0, 0))).bind (Sum.elim (fun b2 => some 0) (fun b3 => some b3))
noncomputable def message_body (a0 : List UInt8) : Option TFault :=
  (basic_Body a0).bind fun v1 => (bif (v1 == 11) then (basic_Fault 11 ((-5))).bind fun v4 => some v4 else (bif (v1 == 1) then (basic_Fault 1 ((-6))).bind fun v7 => some v7 else (basic_None).bind fun v9 => some v9))
noncomputable def message_Validate (a0 : TMessage) : Option TFault :=
  (header_Validate a0.Fields).bind fun v1 => (basic_Failed v1).bind fun v3 => (bif v3 then some v1 else (message_write a0).bind fun v6 => (bif decide (12000 < (v6.length : Int)) then (basic_Fault 1 ((-4))).bind fun v9 => some v9 else (message_body a0.Body).bind fun v11 => some v11))
noncomputable def envelope_Check (a0 : TMail) : Option TFault :=
  (envelope_Validate a0.Envelope).bind fun v1 => (basic_Failed v1).bind fun v3 => (bif v3 then some v1 else (message_Validate a0.Message).bind fun v6 => (basic_Failed v6).bind fun v8 => (bif v8 then (basic_Fault v6.Code ((-30))).bind fun v11 => some v11 else (basic_None).bind fun v13 => some v13))
def R_blank (a0 : UInt8) : Option Bool :=
  ((bif ((a0.toNat : Int) == 32) then some true else some (((a0.toNat : Int) == 9))) : Option Bool).bind fun (j1 : Bool) => some j1
def R_FieldLines_l2 (s5 : Str × Int × (List Str)) (s9 : Int × Int) : Option (Step (Int × Int) Int) :=
  ((bif decide (0 < s9.2) then some ((s9.1 == 0)) else some false) : Option Bool).bind fun (j12 : Bool) => (bif j12 then (((bif decide (s5.2.1 ≤ s9.2) then (idx s5.1 s9.2).bind fun v18 => (R_blank v18).bind fun v20 => (bif v20 then (idx s5.1 ((w64 (s9.2 - 1)))).bind fun v23 => (R_blank v23).bind fun v25 => some ((!v25)) else some false) else some false) : Option Bool).bind fun (j16 : Bool) => (bif j16 then some s9.2 else some s9.1) : Option Int).bind fun (j15 : Int) => some (.cont (j15, (w64 (s9.2 - 1)))) else some (.out s9.1))
def R_FieldLines_l3 (s5 : Str × Int × (List Str)) (s28 : Int × Int) : Option (Step (Int × Int) Int) :=
  ((bif decide (s28.2 < (s5.1.length : Int)) then some ((s28.1 == 0)) else some false) : Option Bool).bind fun (j31 : Bool) => (bif j31 then (((bif decide (s5.2.1 ≤ s28.2) then (idx s5.1 s28.2).bind fun v37 => (R_blank v37).bind fun v39 => (bif v39 then (idx s5.1 ((w64 (s28.2 - 1)))).bind fun v42 => (R_blank v42).bind fun v44 => some ((!v44)) else some false) else some false) : Option Bool).bind fun (j35 : Bool) => (bif j35 then some s28.2 else some s28.1) : Option Int).bind fun (j34 : Int) => some (.cont (j34, (w64 (s28.2 + 1)))) else some (.out s28.1))
noncomputable def R_FieldLines_l1  (s5 : Str × Int × (List Str)) : Option (Step (Str × Int × (List Str)) (Str × (List Str))) :=
  (bif decide (78 < (s5.1.length : Int)) then (iter (R_FieldLines_l2 s5) ((0, 78))).bind fun b10 => (iter (R_FieldLines_l3 s5) ((b10, 79))).bind fun b29 => (bif (b29 == 0) then some (.out ((s5.1, s5.2.2))) else (cut s5.1 0 b29).bind fun v48 => (app 8796093022208 s5.2.2 (([v48] : List Str))).bind fun v50 => (cut s5.1 b29 ((s5.1.length : Int))).bind fun v52 => some (.cont (v52, 1, v50))) else some (.out ((s5.1, s5.2.2))))
noncomputable def R_FieldLines (a0 : Str) (a1 : Str) : Option (List Str) :=
  (cat a0 (([58, 32] : Str))).bind fun v1 => (cat v1 a1).bind fun v3 => (iter (R_FieldLines_l1) ((v3, (w64 ((a0.length : Int) + 2)), ([] : List Str)))).bind fun b6 => (app 8796093022208 b6.2 (([b6.1] : List Str))).bind fun v54 => some v54
def R_FieldCode_l1 (a0 : TField) (s1 : Int) : Option (Step Int (Unit ⊕ Int)) :=
  (bif decide (s1 < (a0.Name.length : Int)) then ((idx a0.Name s1).bind fun v8 => (R_In ((v8.toNat : Int)) 33 126).bind fun v10 => (bif (!v10) then some true else (idx a0.Name s1).bind fun v13 => some (((v13.toNat : Int) == 58))) : Option Bool).bind fun (j7 : Bool) => (bif j7 then some (.out (.inr 10)) else some (.cont (w64 (s1 + 1)))) else some (.out (.inl (()))))
def R_FieldCode_l2 (a0 : TField) (s20 : Int) : Option (Step Int (Unit ⊕ Int)) :=
  (bif decide (s20 < (a0.Value.length : Int)) then ((idx a0.Value s20).bind fun v27 => (bif ((v27.toNat : Int) == 0) then some true else (idx a0.Value s20).bind fun v30 => (bif ((v30.toNat : Int) == 10) then some true else (idx a0.Value s20).bind fun v33 => some (((v33.toNat : Int) == 13)))) : Option Bool).bind fun (j26 : Bool) => (bif j26 then some (.out (.inr 11)) else some (.cont (w64 (s20 + 1)))) else some (.out (.inl (()))))
def R_FieldCode_l3 (v48 : List Str) (s50 : Int) : Option (Step Int (Unit ⊕ Int)) :=
  (bif decide (s50 < (v48.length : Int)) then (idx v48 s50).bind fun v56 => (bif decide (998 < (v56.length : Int)) then some (.out (.inr 1)) else some (.cont (w64 (s50 + 1)))) else some (.out (.inl (()))))
noncomputable def R_FieldCode (a0 : TField) : Option Int :=
  (iter (R_FieldCode_l1 a0) 0).bind (Sum.elim (fun b2 => (R_In ((a0.Name.length : Int)) 1 60).bind fun v16 => (bif (!v16) then some 10 else (bif decide (4000 < (a0.Value.length : Int)) then some 1 else (iter (R_FieldCode_l2 a0) 0).bind (Sum.elim (fun b21 => ((bif decide (0 < (a0.Value.length : Int)) then (idx a0.Value 0).bind fun v38 => (R_blank v38).bind fun v40 => (bif v40 then some true else (idx a0.Value ((w64 ((a0.Value.length : Int) - 1)))).bind fun v43 => (R_blank v43).bind fun v45 => some v45) else some false) : Option Bool).bind fun (j36 : Bool) => (bif j36 then some 11 else (R_FieldLines a0.Name a0.Value).bind fun v48 => (iter (R_FieldCode_l3 v48) 0).bind (Sum.elim (fun b51 => some 0) (fun b52 => some b52)))) (fun b22 => some b22))))) (fun b3 => some b3))
end Go.Proofs.YtpclhpncmlbccaaGreatDoor

/- Functions of the program as Lean functions: what they compute. Written by program. -/
namespace Go.Proofs.YtpclhpncmlbccaaGreatDoor
open Go.RowKit
set_option maxRecDepth 100000
set_option maxHeartbeats 40000000
set_option linter.unusedVariables false
noncomputable def header_name (a0 : Str) : Option Bool :=
  (fold_Fold a0 (([] : Str))).bind fun v1 => (basic_Failed v1.2).bind fun v3 => some ((!v3))
noncomputable def header_valid (a0 : List TField) (a1 : Str) : Option TFault :=
  (header_Validate a0).bind fun v1 => (basic_Failed v1).bind fun v3 => (bif v3 then some v1 else (header_name a1).bind fun v6 => (bif (!v6) then (basic_Fault 10 ((-3))).bind fun v9 => some v9 else (basic_None).bind fun v11 => some v11))
def basic_Lower_l1 (a0 : Str) (s1 : Int × (List UInt8)) : Option (Step (Int × (List UInt8)) (List UInt8)) :=
  (bif decide (s1.1 < (a0.length : Int)) then ((idx s1.2 s1.1).bind fun v6 => (idx s1.2 s1.1).bind fun v8 => ((bif decide (65 ≤ (v8.toNat : Int)) then some (decide ((v8.toNat : Int) ≤ 90)) else some false) : Option Bool).bind fun (j10 : Bool) => (bif j10 then (idx s1.2 s1.1).bind fun v13 => (idx s1.2 s1.1).bind fun v15 => some ((List.set s1.2 (Int.toNat s1.1) (((v8 + (97 : UInt8)) - (65 : UInt8))))) else some s1.2) : Option (List UInt8)).bind fun (j5 : List UInt8) => some (.cont ((w64 (s1.1 + 1)), j5)) else some (.out s1.2))
noncomputable def basic_Lower (a0 : Str) : Option Str :=
  (iter (basic_Lower_l1 a0) ((0, a0))).bind fun b2 => some b2
noncomputable def basic_Same (a0 : Str) (a1 : Str) : Option Bool :=
  ((bif ((a0.length : Int) == (a1.length : Int)) then (basic_Lower a0).bind fun v3 => (basic_Lower a1).bind fun v5 => some ((v3 == v5)) else some false) : Option Bool).bind fun (j1 : Bool) => some j1
noncomputable def header_Get_l1 (a0 : List TField) (a1 : Str) (s6 : Int × (List Str)) : Option (Step (Int × (List Str)) (List Str)) :=
  (bif decide (s6.1 < (a0.length : Int)) then ((idx a0 s6.1).bind fun v11 => (basic_Same v11.Name a1).bind fun v13 => (bif v13 then (app 8796093022208 s6.2 (([v11.Value] : List Str))).bind fun v16 => some v16 else some s6.2) : Option (List Str)).bind fun (j10 : List Str) => some (.cont ((w64 (s6.1 + 1)), j10)) else some (.out s6.2))
noncomputable def header_Get (a0 : List TField) (a1 : Str) : Option ((List Str) × TFault) :=
  (header_valid a0 a1).bind fun v1 => (basic_Failed v1).bind fun v3 => (bif v3 then some (([], v1)) else (iter (header_Get_l1 a0 a1) ((0, ([] : List Str)))).bind fun b7 => (basic_None).bind fun v18 => some ((b7, v18)))
def slices_Concat_api_Field_api_Field_l1 (a0 : List (List TField)) (s1 : Int × Int) : Option (Step (Int × Int) Int) :=
  (bif decide (s1.2 < (a0.length : Int)) then (idx a0 s1.2).bind fun v5 => (bif decide ((w64 (s1.1 + (v5.length : Int))) < 0) then none else some (.cont ((w64 (s1.1 + (v5.length : Int))), (w64 (s1.2 + 1))))) else some (.out s1.1))
def slices_Concat_api_Field_api_Field_l2 (a0 : List (List TField)) (s14 : Int × (List TField)) : Option (Step (Int × (List TField)) (List TField)) :=
  (bif decide (s14.1 < (a0.length : Int)) then (idx a0 s14.1).bind fun v18 => (app 4398046511104 s14.2 v18).bind fun v20 => some (.cont ((w64 (s14.1 + 1)), v20)) else some (.out s14.2))
def slices_Concat_api_Field_api_Field_l3 (a0 : List (List TField)) (s22 : Int × (List TField)) : Option (Step (Int × (List TField)) (List TField)) :=
  (bif decide (s22.1 < (a0.length : Int)) then (idx a0 s22.1).bind fun v26 => (app 4398046511104 s22.2 v26).bind fun v28 => some (.cont ((w64 (s22.1 + 1)), v28)) else some (.out s22.2))
noncomputable def slices_Concat_api_Field_api_Field (a0 : List (List TField)) : Option (List TField) :=
  (iter (slices_Concat_api_Field_api_Field_l1 a0) ((0, 0))).bind fun b2 => (bif decide (b2 < 0) then none else (bif decide (0 < (w64 (b2 - (w64 (0 - 0))))) then (zrep 4398046511104 ((w64 (b2 - (w64 (0 - 0))))) ((TField.mk (([] : Str)) (([] : Str))) : TField)).bind fun v10 => (cut v10 0 0).bind fun v12 => (iter (slices_Concat_api_Field_api_Field_l2 a0) ((0, v12))).bind fun b15 => some b15 else (iter (slices_Concat_api_Field_api_Field_l3 a0) ((0, ([] : List TField)))).bind fun b23 => some b23))
noncomputable def trace_Front (a0 : TMessage) (a1 : Str) (a2 : Str) : Option TMessage :=
  (slices_Concat_api_Field_api_Field (([([(TField.mk a1 a2)] : List TField), a0.Fields] : List (List TField)))).bind fun v1 => ((nilE a0.Body.isEmpty (some ([])) ((app 140737488355328 ([] : List UInt8) a0.Body).bind fun v5 => some v5)) : Option (List UInt8)).bind fun (j3 : List UInt8) => some ((TMessage.mk v1 j3))
def L_plain_l1 (a0 : List Str) (s1 : Int × (List TRecipient)) : Option (Step (Int × (List TRecipient)) (List TRecipient)) :=
  (bif decide (s1.1 < (a0.length : Int)) then (idx a0 s1.1).bind fun v5 => (app 5864062014805 s1.2 (([(TRecipient.mk v5 1)] : List TRecipient))).bind fun v7 => some (.cont ((w64 (s1.1 + 1)), v7)) else some (.out s1.2))
noncomputable def L_plain (a0 : List Str) : Option TMail :=
  (iter (L_plain_l1 a0) ((0, ([] : List TRecipient)))).bind fun b2 => some ((TMail.mk ((TEnvelope.mk (([115, 64, 120] : Str)) b2 (([55] : Str)))) ((TMessage.mk ([]) ([])))))
end Go.Proofs.YtpclhpncmlbccaaGreatDoor

/- Functions of the program as Lean functions: what they compute. Written by program. -/
namespace Go.Proofs.YtpclhpncmlbccaaGreatDoor
open Go.RowKit
set_option maxRecDepth 100000
set_option maxHeartbeats 40000000
set_option linter.unusedVariables false
end Go.Proofs.YtpclhpncmlbccaaGreatDoor

/- Functions of the program as Lean functions: what they compute. Written by program. -/
namespace Go.Proofs.YtpclhpncmlbccaaGreatDoor
open Go.RowKit
set_option maxRecDepth 100000
set_option maxHeartbeats 40000000
set_option linter.unusedVariables false
end Go.Proofs.YtpclhpncmlbccaaGreatDoor

/- Functions of the program as Lean functions: what they compute. Written by program. -/
namespace Go.Proofs.YtpclhpncmlbccaaGreatDoor
open Go.RowKit
set_option maxRecDepth 100000
set_option maxHeartbeats 40000000
set_option linter.unusedVariables false
end Go.Proofs.YtpclhpncmlbccaaGreatDoor

/- Functions of the program as Lean functions: what they compute. Written by program. -/
namespace Go.Proofs.YtpclhpncmlbccaaGreatDoor
open Go.RowKit
set_option maxRecDepth 100000
set_option maxHeartbeats 40000000
set_option linter.unusedVariables false
end Go.Proofs.YtpclhpncmlbccaaGreatDoor

/- Numerals of the library as Lean functions. -/
namespace Go.Proofs.YtpclhpncmlbccaaGreatDoor
open Go.RowKit
def strconv_Itoa (n : Int) : Option Str := if -9223372036854775808 ≤ n ∧ n ≤ 9223372036854775807 then some (Lib.itoa n) else none
end Go.Proofs.YtpclhpncmlbccaaGreatDoor

/- Functions of the program as Lean functions: what they compute. Written by program. -/
namespace Go.Proofs.YtpclhpncmlbccaaGreatDoor
open Go.RowKit
set_option maxRecDepth 100000
set_option maxHeartbeats 40000000
set_option linter.unusedVariables false
def R_Digits_r0 (a0 : Int) : Option Str :=
  (bif decide (a0 < 10) then (cut (([48, 49, 50, 51, 52, 53, 54, 55, 56, 57] : Str)) a0 ((w64 (a0 + 1)))).bind fun v2 => some v2 else none)
def R_Digits_r1 (a0 : Int) : Option Str :=
  (bif decide (a0 < 10) then (cut (([48, 49, 50, 51, 52, 53, 54, 55, 56, 57] : Str)) a0 ((w64 (a0 + 1)))).bind fun v2 => some v2 else (R_Digits_r0 ((iQuo a0 10))).bind fun v4 => (R_Digits_r0 ((iRem a0 10))).bind fun v6 => (cat v4 v6).bind fun v8 => some v8)
def R_Digits_r2 (a0 : Int) : Option Str :=
  (bif decide (a0 < 10) then (cut (([48, 49, 50, 51, 52, 53, 54, 55, 56, 57] : Str)) a0 ((w64 (a0 + 1)))).bind fun v2 => some v2 else (R_Digits_r1 ((iQuo a0 10))).bind fun v4 => (R_Digits_r1 ((iRem a0 10))).bind fun v6 => (cat v4 v6).bind fun v8 => some v8)
def R_Digits_r3 (a0 : Int) : Option Str :=
  (bif decide (a0 < 10) then (cut (([48, 49, 50, 51, 52, 53, 54, 55, 56, 57] : Str)) a0 ((w64 (a0 + 1)))).bind fun v2 => some v2 else (R_Digits_r2 ((iQuo a0 10))).bind fun v4 => (R_Digits_r2 ((iRem a0 10))).bind fun v6 => (cat v4 v6).bind fun v8 => some v8)
def R_Digits_r4 (a0 : Int) : Option Str :=
  (bif decide (a0 < 10) then (cut (([48, 49, 50, 51, 52, 53, 54, 55, 56, 57] : Str)) a0 ((w64 (a0 + 1)))).bind fun v2 => some v2 else (R_Digits_r3 ((iQuo a0 10))).bind fun v4 => (R_Digits_r3 ((iRem a0 10))).bind fun v6 => (cat v4 v6).bind fun v8 => some v8)
def R_Digits_r5 (a0 : Int) : Option Str :=
  (bif decide (a0 < 10) then (cut (([48, 49, 50, 51, 52, 53, 54, 55, 56, 57] : Str)) a0 ((w64 (a0 + 1)))).bind fun v2 => some v2 else (R_Digits_r4 ((iQuo a0 10))).bind fun v4 => (R_Digits_r4 ((iRem a0 10))).bind fun v6 => (cat v4 v6).bind fun v8 => some v8)
def R_Digits_r6 (a0 : Int) : Option Str :=
  (bif decide (a0 < 10) then (cut (([48, 49, 50, 51, 52, 53, 54, 55, 56, 57] : Str)) a0 ((w64 (a0 + 1)))).bind fun v2 => some v2 else (R_Digits_r5 ((iQuo a0 10))).bind fun v4 => (R_Digits_r5 ((iRem a0 10))).bind fun v6 => (cat v4 v6).bind fun v8 => some v8)
def R_Digits_r7 (a0 : Int) : Option Str :=
  (bif decide (a0 < 10) then (cut (([48, 49, 50, 51, 52, 53, 54, 55, 56, 57] : Str)) a0 ((w64 (a0 + 1)))).bind fun v2 => some v2 else (R_Digits_r6 ((iQuo a0 10))).bind fun v4 => (R_Digits_r6 ((iRem a0 10))).bind fun v6 => (cat v4 v6).bind fun v8 => some v8)
def R_Digits_r8 (a0 : Int) : Option Str :=
  (bif decide (a0 < 10) then (cut (([48, 49, 50, 51, 52, 53, 54, 55, 56, 57] : Str)) a0 ((w64 (a0 + 1)))).bind fun v2 => some v2 else (R_Digits_r7 ((iQuo a0 10))).bind fun v4 => (R_Digits_r7 ((iRem a0 10))).bind fun v6 => (cat v4 v6).bind fun v8 => some v8)
def R_Digits_r9 (a0 : Int) : Option Str :=
  (bif decide (a0 < 10) then (cut (([48, 49, 50, 51, 52, 53, 54, 55, 56, 57] : Str)) a0 ((w64 (a0 + 1)))).bind fun v2 => some v2 else (R_Digits_r8 ((iQuo a0 10))).bind fun v4 => (R_Digits_r8 ((iRem a0 10))).bind fun v6 => (cat v4 v6).bind fun v8 => some v8)
def R_Digits_r10 (a0 : Int) : Option Str :=
  (bif decide (a0 < 10) then (cut (([48, 49, 50, 51, 52, 53, 54, 55, 56, 57] : Str)) a0 ((w64 (a0 + 1)))).bind fun v2 => some v2 else (R_Digits_r9 ((iQuo a0 10))).bind fun v4 => (R_Digits_r9 ((iRem a0 10))).bind fun v6 => (cat v4 v6).bind fun v8 => some v8)
def R_Digits_r11 (a0 : Int) : Option Str :=
  (bif decide (a0 < 10) then (cut (([48, 49, 50, 51, 52, 53, 54, 55, 56, 57] : Str)) a0 ((w64 (a0 + 1)))).bind fun v2 => some v2 else (R_Digits_r10 ((iQuo a0 10))).bind fun v4 => (R_Digits_r10 ((iRem a0 10))).bind fun v6 => (cat v4 v6).bind fun v8 => some v8)
def R_Digits (a0 : Int) : Option Str :=
  (bif decide (a0 < 10) then (cut (([48, 49, 50, 51, 52, 53, 54, 55, 56, 57] : Str)) a0 ((w64 (a0 + 1)))).bind fun v2 => some v2 else (R_Digits_r11 ((iQuo a0 10))).bind fun v4 => (R_Digits_r11 ((iRem a0 10))).bind fun v6 => (cat v4 v6).bind fun v8 => some v8)
end Go.Proofs.YtpclhpncmlbccaaGreatDoor

/- Library functions as Lean functions: texts joined and repeated. -/
namespace Go.Proofs.YtpclhpncmlbccaaGreatDoor
open Go.RowKit
def strings_Join (l : List Str) (s : Str) : Option Str := if l.length ≤ 140737488355328 ∧ (Lib.join l s).length ≤ 140737488355328 then some (Lib.join l s) else none
def strings_Repeat (s : Str) (n : Int) : Option Str := if 0 ≤ n ∧ n ≤ 9223372036854775807 ∧ s.length * n.toNat ≤ 140737488355328 then some (Lib.repeatL s n.toNat) else none
end Go.Proofs.YtpclhpncmlbccaaGreatDoor

/- Library functions as Lean functions: texts split. -/
namespace Go.Proofs.YtpclhpncmlbccaaGreatDoor
open Go.RowKit
end Go.Proofs.YtpclhpncmlbccaaGreatDoor

/- Functions of the program as Lean functions: what they compute. Written by program. -/
namespace Go.Proofs.YtpclhpncmlbccaaGreatDoor
open Go.RowKit
set_option maxRecDepth 100000
set_option maxHeartbeats 40000000
set_option linter.unusedVariables false
def dates_within (a0 : Int) (a1 : Int) (a2 : Int) : Option Bool :=
  ((bif decide (a1 ≤ a0) then some (decide (a0 ≤ a2)) else some false) : Option Bool).bind fun (j1 : Bool) => some j1
def dates_split (a0 : Int) (a1 : Int) : Option (Int × Int) :=
  (nz a1).bind fun v1 => (nz a1).bind fun v3 => (nz a1).bind fun v5 => some (((iQuo ((w64 (a0 - (iRem ((w64 ((iRem a0 a1) + a1))) a1)))) a1), (iRem ((w64 ((iRem a0 a1) + a1))) a1)))
def dates_before (a0 : Int) : Option Int :=
  some ((w64 ((w64 ((w64 ((w64 (365 * (w64 (a0 - 1)))) + (iQuo ((w64 (a0 - 1))) 4))) - (iQuo ((w64 (a0 - 1))) 100))) + (iQuo ((w64 (a0 - 1))) 400))))
def dates_leap (a0 : Int) : Option Bool :=
  ((bif ((iRem a0 4) == 0) then (bif ((iRem a0 100) != 0) then some true else some (((iRem a0 400) == 0))) else some false) : Option Bool).bind fun (j1 : Bool) => some j1
def dates_length (a0 : Int) (a1 : Int) : Option Int :=
  (idx ([31, 28, 31, 30, 31, 30, 31, 31, 30, 31, 30, 31] : List Int) ((w64 (a1 - 1)))).bind fun v1 => (((bif (a1 == 2) then (dates_leap a0).bind fun v6 => some v6 else some false) : Option Bool).bind fun (j4 : Bool) => (bif j4 then some ((w64 (v1 + 1))) else some v1) : Option Int).bind fun (j3 : Int) => some j3
def dates_day_l1 (a0 : Int) (a1 : Int) (s5 : Int × Int) : Option (Step (Int × Int) Int) :=
  (bif decide (s5.2 < a1) then (dates_length a0 s5.2).bind fun v9 => some (.cont ((w64 (s5.1 + v9)), (w64 (s5.2 + 1)))) else some (.out s5.1))
noncomputable def dates_day (a0 : Int) (a1 : Int) (a2 : Int) : Option Int :=
  (dates_before a0).bind fun v1 => (dates_before 1970).bind fun v3 => (iter (dates_day_l1 a0 a1) (((w64 ((w64 ((w64 (v1 - v3)) + a2)) - 1)), 1))).bind fun b6 => some b6
noncomputable def dates_Civil_l1 (v11 : Int × Int) (s22 : Int × Int) : Option (Step (Int × Int) Int) :=
  (bif decide (0 < s22.2) then (((bif decide ((w64 (s22.1 + s22.2)) ≤ 4000) then (dates_day ((w64 (s22.1 + s22.2))) 1 1).bind fun v29 => some (decide (v29 ≤ v11.1)) else some false) : Option Bool).bind fun (j27 : Bool) => (bif j27 then some ((w64 (s22.1 + s22.2))) else some s22.1) : Option Int).bind fun (j26 : Int) => some (.cont (j26, (iQuo s22.2 2))) else some (.out s22.1))
noncomputable def dates_Civil_l2 (v11 : Int × Int) (b23 : Int) (s32 : Int) : Option (Step Int Int) :=
  (dates_day b23 s32 1).bind fun v35 => (bif decide (v11.1 < v35) then some (.cont (w64 (s32 - 1))) else some (.out s32))
noncomputable def dates_Civil (a0 : Int) (a1 : Int) : Option (TDate × TFault) :=
  (basic_Time a0).bind fun v1 => (bif (!v1) then (basic_Fault 3 ((-2))).bind fun v4 => some (((TDate.mk 0 0 0 0 0 0 0), v4)) else (dates_within a1 ((-900)) 900).bind fun v6 => (bif (!v6) then (basic_Fault 3 ((-4))).bind fun v9 => some (((TDate.mk 0 0 0 0 0 0 0), v9)) else (dates_split ((w64 (a0 + (w64 (60 * a1))))) 86400).bind fun v11 => ((dates_day 1 1 1).bind fun v14 => (bif decide (v11.1 < v14) then some true else (dates_day 4000 12 31).bind fun v17 => some (decide (v17 < v11.1))) : Option Bool).bind fun (j13 : Bool) => (bif j13 then (basic_Fault 3 ((-3))).bind fun v20 => some (((TDate.mk 0 0 0 0 0 0 0), v20)) else (iter (dates_Civil_l1 v11) ((1, 2048))).bind fun b23 => (iter (dates_Civil_l2 v11 b23) 12).bind fun b33 => (dates_day b23 b33 1).bind fun v38 => (basic_None).bind fun v40 => some (((TDate.mk b23 b33 ((w64 ((w64 (v11.1 - v38)) + 1))) ((iQuo v11.2 3600)) ((iRem ((iQuo v11.2 60)) 60)) ((iRem v11.2 60)) a1), v40)))))
def dates_Validate (a0 : TDate) : Option TFault :=
  ((dates_within a0.Year 1 4000).bind fun v2 => (bif v2 then (dates_within a0.Month 1 12).bind fun v5 => (bif v5 then (dates_length a0.Year ((min ((max a0.Month 1)) 12))).bind fun v8 => (dates_within a0.Day 1 v8).bind fun v10 => (bif v10 then (dates_within a0.Hour 0 23).bind fun v13 => (bif v13 then (dates_within a0.Minute 0 59).bind fun v16 => (bif v16 then (dates_within a0.Second 0 59).bind fun v19 => (bif v19 then (dates_within a0.Zone ((-900)) 900).bind fun v22 => some v22 else some false) else some false) else some false) else some false) else some false) else some false) : Option Bool).bind fun (j1 : Bool) => (bif (!j1) then (basic_Fault 3 ((-3))).bind fun v25 => some v25 else (basic_None).bind fun v27 => some v27)
noncomputable def dates_Weekday (a0 : TDate) : Option (Int × TFault) :=
  (dates_Validate a0).bind fun v1 => (basic_Failed v1).bind fun v3 => (bif v3 then some ((0, v1)) else (dates_day a0.Year a0.Month a0.Day).bind fun v6 => (dates_split ((w64 (v6 + 4))) 7).bind fun v8 => (basic_None).bind fun v10 => some ((v8.2, v10)))
noncomputable def dates_pad (a0 : Int) (a1 : Int) : Option Str :=
  (strconv_Itoa a0).bind fun v1 => (strings_Repeat (([48] : Str)) ((max 0 ((w64 (a1 - (v1.length : Int))))))).bind fun v3 => (cat v3 v1).bind fun v5 => some v5
def dates_weekdays  : Option (Str × Str × Str × Str × Str × Str × Str) :=
  some ((([83, 117, 110] : Str), ([77, 111, 110] : Str), ([84, 117, 101] : Str), ([87, 101, 100] : Str), ([84, 104, 117] : Str), ([70, 114, 105] : Str), ([83, 97, 116] : Str)))
def dates_months  : Option (Str × Str × Str × Str × Str × Str × Str × Str × Str × Str × Str × Str) :=
  some ((([74, 97, 110] : Str), ([70, 101, 98] : Str), ([77, 97, 114] : Str), ([65, 112, 114] : Str), ([77, 97, 121] : Str), ([74, 117, 110] : Str), ([74, 117, 108] : Str), ([65, 117, 103] : Str), ([83, 101, 112] : Str), ([79, 99, 116] : Str), ([78, 111, 118] : Str), ([68, 101, 99] : Str)))
noncomputable def dates_Print (a0 : TDate) : Option (Str × TFault) :=
  (dates_Weekday a0).bind fun v1 => (basic_Failed v1.2).bind fun v3 => (bif v3 then some ((([] : Str), v1.2)) else ((bif decide (a0.Zone < 0) then some ((([45] : Str), (w64 (0 - a0.Zone)))) else some ((([43] : Str), a0.Zone))) : Option (Str × Int)).bind fun (j6 : Str × Int) => (dates_pad ((iQuo j6.2 60)) 2).bind fun v8 => (dates_pad ((iRem j6.2 60)) 2).bind fun v10 => (cat v8 v10).bind fun v12 => (cat j6.1 v12).bind fun v14 => (dates_pad a0.Hour 2).bind fun v16 => (cat v16 (([58] : Str))).bind fun v18 => (dates_pad a0.Minute 2).bind fun v20 => (cat v18 v20).bind fun v22 => (cat v22 (([58] : Str))).bind fun v24 => (dates_pad a0.Second 2).bind fun v26 => (cat v24 v26).bind fun v28 => (dates_weekdays).bind fun v30 => (idx ([v30.1, v30.2.1, v30.2.2.1, v30.2.2.2.1, v30.2.2.2.2.1, v30.2.2.2.2.2.1, v30.2.2.2.2.2.2] : List Str) v1.1).bind fun v32 => (cat v32 (([44] : Str))).bind fun v34 => (dates_pad a0.Day 2).bind fun v36 => (dates_months).bind fun v38 => (idx ([v38.1, v38.2.1, v38.2.2.1, v38.2.2.2.1, v38.2.2.2.2.1, v38.2.2.2.2.2.1, v38.2.2.2.2.2.2.1, v38.2.2.2.2.2.2.2.1, v38.2.2.2.2.2.2.2.2.1, v38.2.2.2.2.2.2.2.2.2.1, v38.2.2.2.2.2.2.2.2.2.2.1, v38.2.2.2.2.2.2.2.2.2.2.2] : List Str) ((w64 (a0.Month - 1)))).bind fun v40 => (dates_pad a0.Year 4).bind fun v42 => (strings_Join (([v34, v36, v40, v42, v28, v14] : List Str)) (([32] : Str))).bind fun v44 => (basic_None).bind fun v46 => some ((v44, v46)))
noncomputable def trace_Stamp (a0 : TMessage) (a1 : Str) (a2 : Str) (a3 : Int) : Option (TMessage × TFault) :=
  (message_Validate a0).bind fun v1 => (basic_Failed v1).bind fun v3 => (bif v3 then some (((TMessage.mk ([]) ([])), v1)) else (basic_Name a1).bind fun v6 => (bif (!v6) then (basic_Fault 10 ((-10))).bind fun v9 => some (((TMessage.mk ([]) ([])), v9)) else (basic_Name a2).bind fun v11 => (bif (!v11) then (basic_Fault 10 ((-12))).bind fun v14 => some (((TMessage.mk ([]) ([])), v14)) else (bif ((a0.Fields.length : Int) == 60) then (basic_Fault 2 ((-13))).bind fun v17 => some (((TMessage.mk ([]) ([])), v17)) else (dates_Civil a3 0).bind fun v19 => (basic_Failed v19.2).bind fun v21 => (bif v21 then (basic_Fault v19.2.Code ((-2))).bind fun v24 => some (((TMessage.mk ([]) ([])), v24)) else (dates_Print v19.1).bind fun v26 => (cat (([98, 121, 32] : Str)) a1).bind fun v28 => (cat v28 (([32, 105, 100, 32] : Str))).bind fun v30 => (cat v30 a2).bind fun v32 => (cat v32 (([59, 32] : Str))).bind fun v34 => (cat v34 v26.1).bind fun v36 => (trace_Front a0 (([82, 101, 99, 101, 105, 118, 101, 100] : Str)) v36).bind fun v38 => (message_Validate v38).bind fun v40 => (basic_Failed v40).bind fun v42 => (bif v42 then (basic_Fault v40.Code ((-14))).bind fun v45 => some (((TMessage.mk ([]) ([])), v45)) else (basic_None).bind fun v47 => some ((v38, v47))))))))
def R_leap (a0 : Int) : Option Bool :=
  ((bif ((iRem a0 4) == 0) then (bif ((iRem a0 100) != 0) then some true else some (((iRem a0 400) == 0))) else some (((iRem a0 400) == 0))) : Option Bool).bind fun (j1 : Bool) => some j1
def R_days (a0 : Int) (a1 : Int) : Option Int :=
  ((bif (a1 == 2) then (R_leap a0).bind fun v3 => some v3 else some false) : Option Bool).bind fun (j1 : Bool) => (bif j1 then some 29 else (idx (([31, 28, 31, 30, 31, 30, 31, 31, 30, 31, 30, 31] : List Int)) ((w64 (a1 - 1)))).bind fun v6 => some v6)
def R_Fill_l1 (a1 : Int) (s3 : Str) : Option (Step Str Str) :=
  (bif decide ((s3.length : Int) < a1) then (cat (([48] : Str)) s3).bind fun v7 => some (.cont v7) else some (.out s3))
noncomputable def R_Fill (a0 : Int) (a1 : Int) : Option Str :=
  (R_Digits a0).bind fun v1 => (iter (R_Fill_l1 a1) v1).bind fun b4 => some b4
def R_When_l1  (s4 : Int × Int) : Option (Step (Int × Int) (Int × Int)) :=
  (bif decide (s4.1 < 0) then some (.cont ((w64 (s4.1 + 34560000)), (w64 (s4.2 - 400)))) else some (.out ((s4.1, s4.2))))
def R_When_l2  (s8 : Int × Int) : Option (Step (Int × Int) (Int × Int)) :=
  (bif decide (s8.1 < 0) then (R_leap ((w64 (s8.2 - 1)))).bind fun v12 => (bif v12 then some (.cont ((w64 ((w64 (s8.1 + 365)) + 1)), (w64 (s8.2 - 1)))) else some (.cont ((w64 (s8.1 + 365)), (w64 (s8.2 - 1))))) else some (.out ((s8.1, s8.2))))
def R_When_l3  (s15 : Int × Int) : Option (Step (Int × Int) (Int × Int)) :=
  ((R_leap s15.2).bind fun v19 => (bif v19 then some 366 else some 365) : Option Int).bind fun (j18 : Int) => (bif decide (s15.1 < j18) then some (.out ((s15.1, s15.2))) else some (.cont ((w64 (s15.1 - j18)), (w64 (s15.2 + 1)))))
def R_When_l4 (b16 : Int × Int) (s26 : Int × Int) : Option (Step (Int × Int) (Int × Int)) :=
  (R_days b16.2 s26.1).bind fun v29 => (bif decide (v29 ≤ s26.2) then (R_days b16.2 s26.1).bind fun v32 => some (.cont ((w64 (s26.1 + 1)), (w64 (s26.2 - v32)))) else some (.out ((s26.1, s26.2))))
def R_When_l5 (b16 : Int × Int) (s34 : Int × Int) : Option (Step (Int × Int) Int) :=
  (bif decide (s34.2 < b16.2) then ((R_leap s34.2).bind fun v39 => (bif v39 then some ((w64 ((w64 (s34.1 + 1)) + 1))) else some ((w64 (s34.1 + 1)))) : Option Int).bind fun (j38 : Int) => some (.cont (j38, (w64 (s34.2 + 1)))) else some (.out s34.1))
noncomputable def R_When (a0 : Int) : Option (Str × Bool) :=
  (R_In a0 ((-68719476736)) 68719476736).bind fun v1 => (bif (!v1) then some ((([] : Str), false)) else (iter (R_When_l1) ((a0, 0))).bind fun b5 => (iter (R_When_l2) (((w64 (b5.2 + (iQuo b5.1 86400))), 1970))).bind fun b9 => (iter (R_When_l3) ((b9.1, b9.2))).bind fun b16 => (R_In b16.2 1 4000).bind fun v23 => (bif (!v23) then some ((([] : Str), false)) else (iter (R_When_l4 b16) ((1, b16.1))).bind fun b27 => (iter (R_When_l5 b16) ((1, 1))).bind fun b35 => (cut (([83, 117, 110, 77, 111, 110, 84, 117, 101, 87, 101, 100, 84, 104, 117, 70, 114, 105, 83, 97, 116] : Str)) ((w64 (3 * (iRem ((w64 (b35 + b16.1))) 7)))) ((w64 ((w64 (3 * (iRem ((w64 (b35 + b16.1))) 7))) + 3)))).bind fun v42 => (cat v42 (([44, 32] : Str))).bind fun v44 => (R_Fill ((w64 (b27.2 + 1))) 2).bind fun v46 => (cat v44 v46).bind fun v48 => (cat v48 (([32] : Str))).bind fun v50 => (cut (([74, 97, 110, 70, 101, 98, 77, 97, 114, 65, 112, 114, 77, 97, 121, 74, 117, 110, 74, 117, 108, 65, 117, 103, 83, 101, 112, 79, 99, 116, 78, 111, 118, 68, 101, 99] : Str)) ((w64 ((w64 (3 * b27.1)) - 3))) ((w64 (3 * b27.1)))).bind fun v52 => (cat v50 v52).bind fun v54 => (cat v54 (([32] : Str))).bind fun v56 => (R_Fill b16.2 4).bind fun v58 => (cat v56 v58).bind fun v60 => (cat v60 (([32] : Str))).bind fun v62 => (R_Fill ((iQuo ((iRem b5.1 86400)) 3600)) 2).bind fun v64 => (cat v62 v64).bind fun v66 => (cat v66 (([58] : Str))).bind fun v68 => (R_Fill ((iRem ((iQuo ((iRem b5.1 86400)) 60)) 60)) 2).bind fun v70 => (cat v68 v70).bind fun v72 => (cat v72 (([58] : Str))).bind fun v74 => (R_Fill ((iRem ((iRem b5.1 86400)) 60)) 2).bind fun v76 => (cat v74 v76).bind fun v78 => (cat v78 (([32, 43, 48, 48, 48, 48] : Str))).bind fun v80 => some ((v80, true))))
end Go.Proofs.YtpclhpncmlbccaaGreatDoor

/- Library functions as Lean functions: texts divided at spaces. -/
namespace Go.Proofs.YtpclhpncmlbccaaGreatDoor
open Go.RowKit
end Go.Proofs.YtpclhpncmlbccaaGreatDoor

/- Library functions as Lean functions: beginnings and ends taken away. -/
namespace Go.Proofs.YtpclhpncmlbccaaGreatDoor
open Go.RowKit
def strings_TrimSuffix (s t : Str) : Option Str := if s.length ≤ 9223372036854775807 then some (Lib.trimSuffix s t) else none
end Go.Proofs.YtpclhpncmlbccaaGreatDoor

/- Functions of the program as Lean functions: what they compute. Written by program. -/
namespace Go.Proofs.YtpclhpncmlbccaaGreatDoor
open Go.RowKit
set_option maxRecDepth 100000
set_option maxHeartbeats 40000000
set_option linter.unusedVariables false
end Go.Proofs.YtpclhpncmlbccaaGreatDoor

/- Functions of the program as Lean functions: what they compute. Written by program. -/
namespace Go.Proofs.YtpclhpncmlbccaaGreatDoor
open Go.RowKit
set_option maxRecDepth 100000
set_option maxHeartbeats 40000000
set_option linter.unusedVariables false
end Go.Proofs.YtpclhpncmlbccaaGreatDoor

/- Functions of the program as Lean functions: what they compute. Written by program. -/
namespace Go.Proofs.YtpclhpncmlbccaaGreatDoor
open Go.RowKit
set_option maxRecDepth 100000
set_option maxHeartbeats 40000000
set_option linter.unusedVariables false
def notice_kinds  : Option (Str × Str × Str × Str × Str) :=
  some ((([] : Str), ([102, 97, 105, 108, 117, 114, 101] : Str), ([100, 101, 108, 97, 121] : Str), ([] : Str), ([115, 117, 99, 99, 101, 115, 115] : Str)))
def notice_known (a0 : Int) : Option Bool :=
  ((bif decide (0 ≤ a0) then (notice_kinds).bind fun v3 => (bif decide (a0 < 5) then (notice_kinds).bind fun v6 => (idx ([v6.1, v6.2.1, v6.2.2.1, v6.2.2.2.1, v6.2.2.2.2] : List Str) a0).bind fun v8 => some ((v8 != ([] : Str))) else some false) else some false) : Option Bool).bind fun (j1 : Bool) => some j1
noncomputable def notice_id (a0 : Str) (a1 : Int) : Option Str :=
  (cat a0 (([46, 110] : Str))).bind fun v1 => (strconv_Itoa a1).bind fun v3 => (cat v1 v3).bind fun v5 => some v5
noncomputable def notice_told_l1 (a0 : List TTold) (s6 : Int) : Option (Step Int (Unit ⊕ TFault)) :=
  (bif decide (s6 < (a0.length : Int)) then (idx a0 s6).bind fun v12 => (envelope_Address v12.Address).bind fun v14 => (bif (!v14) then (basic_Fault 10 s6).bind fun v17 => some (.out (.inr v17)) else ((bif decide (1 ≤ v12.Result) then some (decide (v12.Result ≤ 3)) else some false) : Option Bool).bind fun (j19 : Bool) => (bif (!j19) then (basic_Fault 3 s6).bind fun v22 => some (.out (.inr v22)) else some (.cont (w64 (s6 + 1))))) else some (.out (.inl (()))))
noncomputable def notice_told (a0 : List TTold) : Option TFault :=
  ((bif decide ((a0.length : Int) < 1) then some true else some (decide (60 < (a0.length : Int)))) : Option Bool).bind fun (j1 : Bool) => (bif j1 then (basic_Fault 2 ((-15))).bind fun v4 => some v4 else (iter (notice_told_l1 a0) 0).bind (Sum.elim (fun b7 => (basic_None).bind fun v24 => some v24) (fun b8 => some b8)))
noncomputable def notice_about (a0 : Str) (a1 : Int) : Option Str :=
  (notice_kinds).bind fun v1 => (idx ([v1.1, v1.2.1, v1.2.2.1, v1.2.2.2.1, v1.2.2.2.2] : List Str) a1).bind fun v3 => (cat v3 (([32] : Str))).bind fun v5 => (cat v5 a0).bind fun v7 => (strings_TrimSuffix v7 (([32] : Str))).bind fun v9 => some v9
def notice_results  : Option (Str × Str × Str × Str) :=
  some ((([] : Str), ([115, 101, 110, 116] : Str), ([108, 97, 116, 101, 114] : Str), ([102, 97, 105, 108, 101, 100] : Str)))
def notice_body_l1 (a0 : List TTold) (s1 : Str × Int) : Option (Step (Str × Int) Str) :=
  (bif decide (s1.2 < (a0.length : Int)) then (idx a0 s1.2).bind fun v5 => (notice_results).bind fun v7 => (idx ([v7.1, v7.2.1, v7.2.2.1, v7.2.2.2] : List Str) v5.Result).bind fun v9 => (cat v9 (([32] : Str))).bind fun v11 => (cat v11 v5.Address).bind fun v13 => (cat v13 (([13, 10] : Str))).bind fun v15 => (cat s1.1 v15).bind fun v17 => some (.cont (v17, (w64 (s1.2 + 1)))) else some (.out s1.1))
noncomputable def notice_body (a0 : List TTold) : Option Str :=
  (iter (notice_body_l1 a0) ((([] : Str), 0))).bind fun b2 => some b2
noncomputable def notice_Make (a0 : TMail) (a1 : Int) (a2 : List TTold) (a3 : Int) : Option (TMail × TFault) :=
  (envelope_Check a0).bind fun v1 => (basic_Failed v1).bind fun v3 => (bif v3 then some (((TMail.mk ((TEnvelope.mk (([] : Str)) ([]) (([] : Str)))) ((TMessage.mk ([]) ([])))), v1)) else (bif (a0.Envelope.From == ([] : Str)) then (basic_Fault 8 ((-13))).bind fun v7 => some (((TMail.mk ((TEnvelope.mk (([] : Str)) ([]) (([] : Str)))) ((TMessage.mk ([]) ([])))), v7)) else (notice_known a1).bind fun v9 => (bif (!v9) then (basic_Fault 4 ((-14))).bind fun v12 => some (((TMail.mk ((TEnvelope.mk (([] : Str)) ([]) (([] : Str)))) ((TMessage.mk ([]) ([])))), v12)) else (notice_id a0.Envelope.Id a1).bind fun v14 => (bif decide (60 < (v14.length : Int)) then (basic_Fault 1 ((-16))).bind fun v17 => some (((TMail.mk ((TEnvelope.mk (([] : Str)) ([]) (([] : Str)))) ((TMessage.mk ([]) ([])))), v17)) else (notice_told a2).bind fun v19 => (basic_Failed v19).bind fun v21 => (bif v21 then some (((TMail.mk ((TEnvelope.mk (([] : Str)) ([]) (([] : Str)))) ((TMessage.mk ([]) ([])))), v19)) else (dates_Civil a3 0).bind fun v24 => (basic_Failed v24.2).bind fun v26 => (bif v26 then (basic_Fault v24.2.Code ((-2))).bind fun v29 => some (((TMail.mk ((TEnvelope.mk (([] : Str)) ([]) (([] : Str)))) ((TMessage.mk ([]) ([])))), v29)) else (dates_Print v24.1).bind fun v31 => (envelope_Split a0.Envelope.From).bind fun v33 => (cat (([112, 111, 115, 116, 109, 97, 115, 116, 101, 114, 64] : Str)) v33.2.1).bind fun v35 => (notice_kinds).bind fun v37 => (idx ([v37.1, v37.2.1, v37.2.2.1, v37.2.2.2.1, v37.2.2.2.2] : List Str) a1).bind fun v39 => (cat (([68, 101, 108, 105, 118, 101, 114, 121, 58, 32] : Str)) v39).bind fun v41 => (notice_about a0.Envelope.Id a1).bind fun v43 => (notice_id a0.Envelope.Id a1).bind fun v45 => (notice_body a2).bind fun v47 => (basic_None).bind fun v49 => some (((TMail.mk ((TEnvelope.mk (([] : Str)) (([(TRecipient.mk a0.Envelope.From 0)] : List TRecipient)) v45)) ((TMessage.mk (([(TField.mk (([70, 114, 111, 109] : Str)) v35), (TField.mk (([84, 111] : Str)) a0.Envelope.From), (TField.mk (([83, 117, 98, 106, 101, 99, 116] : Str)) v41), (TField.mk (([68, 97, 116, 101] : Str)) v31.1), (TField.mk (([88, 45, 78, 111, 116, 105, 99, 101] : Str)) v43)] : List TField)) v47))), v49))))))))
noncomputable def notice_list_l1 (v1 : Str × Str × Str × Str) (s4 : Str × (List TTold)) : Option (Step (Str × (List TTold)) ((List TTold) ⊕ ((List TTold) × Bool))) :=
  (bif (s4.1 != ([] : Str)) then (strings_Cut s4.1 (([13, 10] : Str))).bind fun v10 => (strings_Cut v10.1 (([32] : Str))).bind fun v12 => (slices_Index_string_string (([v1.1, v1.2.1, v1.2.2.1, v1.2.2.2] : List Str)) v12.1).bind fun v14 => ((bif (!v10.2.2) then some true else (bif (!v12.2.2) then some true else (bif decide (v14 < 1) then some true else some (decide (60 < (s4.2.length : Int)))))) : Option Bool).bind fun (j16 : Bool) => (bif j16 then some (.out (.inr (([], false)))) else (app 5864062014805 s4.2 (([(TTold.mk v12.2.1 v14)] : List TTold))).bind fun v21 => some (.cont (v10.2.1, v21))) else some (.out (.inl s4.2)))
noncomputable def notice_list (a0 : Str) : Option ((List TTold) × Bool) :=
  (notice_results).bind fun v1 => (iter (notice_list_l1 v1) ((a0, ([] : List TTold)))).bind (Sum.elim (fun b5 => (notice_told b5).bind fun v23 => (basic_Failed v23).bind fun v25 => some ((b5, (!v25)))) (fun b6 => some ((b6.1, b6.2))))
noncomputable def notice_Read (a0 : TMessage) : Option (TNotice × Bool × TFault) :=
  (message_Validate a0).bind fun v1 => (basic_Failed v1).bind fun v3 => (bif v3 then some (((TNotice.mk 0 (([] : Str)) ([])), false, v1)) else (header_Get a0.Fields (([88, 45, 78, 111, 116, 105, 99, 101] : Str))).bind fun v6 => (bif ((v6.1.length : Int) == 0) then (basic_None).bind fun v9 => some (((TNotice.mk 0 (([] : Str)) ([])), false, v9)) else (idx v6.1 0).bind fun v11 => (strings_Cut v11 (([32] : Str))).bind fun v13 => (notice_kinds).bind fun v15 => (slices_Index_string_string (([v15.1, v15.2.1, v15.2.2.1, v15.2.2.2.1, v15.2.2.2.2] : List Str)) v13.1).bind fun v17 => ((bif decide (v17 < 1) then some true else (bif (v13.1 == ([] : Str)) then some true else (bif v13.2.2 then (basic_Name v13.2.1).bind fun v23 => (bif (!v23) then some true else (notice_id v13.2.1 v17).bind fun v26 => some (decide (60 < (v26.length : Int)))) else (notice_id v13.2.1 v17).bind fun v28 => some (decide (60 < (v28.length : Int)))))) : Option Bool).bind fun (j19 : Bool) => (bif j19 then (basic_None).bind fun v31 => some (((TNotice.mk 0 (([] : Str)) ([])), false, v31)) else (notice_list a0.Body).bind fun v33 => (bif (!v33.2) then (basic_None).bind fun v36 => some (((TNotice.mk 0 (([] : Str)) ([])), false, v36)) else (basic_None).bind fun v38 => some (((TNotice.mk v17 v13.2.1 v33.1), true, v38))))))
noncomputable def L_tells  : Option Bool :=
  (L_plain (([([97, 64, 121] : Str)] : List Str))).bind fun v1 => (notice_Make v1 1 (([(TTold.mk (([97, 64, 121] : Str)) 3)] : List TTold)) 0).bind fun v3 => (notice_Read v3.1.Message).bind fun v5 => (notice_Read ((TMessage.mk ([]) ([])))).bind fun v7 => ((bif (v3.2.Code != 0) then some true else (bif (v5.2.2.Code != 0) then some true else (bif (v7.2.2.Code != 0) then some true else (bif (!v5.2.1) then some true else (bif v7.2.1 then some true else (bif ((v5.1.Told.length : Int) != 1) then some true else (bif ((v3.1.Envelope.To.length : Int) != 1) then some true else some (((v3.1.Message.Fields.length : Int) != 5))))))))) : Option Bool).bind fun (j9 : Bool) => (bif j9 then some false else ((bif (v3.1.Envelope.From == ([] : Str)) then (bif (v3.1.Envelope.Id == ([55, 46, 110, 49] : Str)) then (idx v3.1.Envelope.To 0).bind fun v21 => (bif (allEq [(v21.Address == ([115, 64, 120] : Str)), (v21.Notify == 0)]) then (bif (v3.1.Message.Body == ([102, 97, 105, 108, 101, 100, 32, 97, 64, 121, 13, 10] : Str)) then (bif (v5.1.Kind == 1) then (bif (v5.1.Id == ([55] : Str)) then (idx v5.1.Told 0).bind fun v27 => some ((allEq [(v27.Address == ([97, 64, 121] : Str)), (v27.Result == 3)])) else some false) else some false) else some false) else some false) else some false) else some false) : Option Bool).bind fun (j18 : Bool) => some j18)
noncomputable def message_Write (a0 : TMessage) : Option ((List UInt8) × TFault) :=
  (message_Validate a0).bind fun v1 => (basic_Failed v1).bind fun v3 => (bif v3 then some (([], v1)) else (message_write a0).bind fun v6 => (basic_None).bind fun v8 => some ((v6, v8)))
end Go.Proofs.YtpclhpncmlbccaaGreatDoor

/- Plain lemmas on the operations of typed functions: no program is named. -/
namespace Go.Proofs.YtpclhpncmlbccaaGreatDoor
open Go.RowKit

theorem w64_nn (a b : Nat) (h : a + b ≤ 9223372036854775807) : w64 ((a : Int) + (b : Int)) = ((a + b : Nat) : Int) := by
  rw [w64_id (by omega) (by omega)]; simp
theorem w64_nl (a k : Nat) (h : a + OfNat.ofNat k ≤ 9223372036854775807) : w64 ((a : Int) + (no_index (OfNat.ofNat k : Int))) = ((a + OfNat.ofNat k : Nat) : Int) := by
  have e : (OfNat.ofNat k : Int) = ((OfNat.ofNat k : Nat) : Int) := rfl
  rw [e]; exact w64_nn a _ h
theorem w64_ns (a b : Nat) (h : b ≤ a) (ha : a ≤ 9223372036854775807) : w64 ((a : Int) - (b : Int)) = ((a - b : Nat) : Int) := by
  rw [w64_id (by omega) (by omega)]; omega
theorem w64_n (a : Nat) (h : a ≤ 9223372036854775807) : w64 (a : Int) = (a : Int) := w64_id (by omega) (by omega)

theorem u8_eq (c : UInt8) (k : Nat) (hk : OfNat.ofNat k < 256) : ((c.toNat : Int) == no_index (OfNat.ofNat k : Int)) = (c == OfNat.ofNat k) := by
  have e : (OfNat.ofNat k : Int) = ((OfNat.ofNat k : Nat) : Int) := rfl
  have h2 : (OfNat.ofNat k : UInt8).toNat = (OfNat.ofNat k : Nat) := by
    show (UInt8.ofNat k).toNat = k
    rw [UInt8.toNat_ofNat']; exact Nat.mod_eq_of_lt hk
  rw [Bool.eq_iff_iff, beq_iff_eq, beq_iff_eq, ← UInt8.toNat_inj, h2, e]
  omega
theorem u8_ne (c : UInt8) (k : Nat) (hk : OfNat.ofNat k < 256) : ((c.toNat : Int) != no_index (OfNat.ofNat k : Int)) = (c != OfNat.ofNat k) := by
  unfold bne; rw [u8_eq c k hk]
section
variable {α : Type}
theorem idx_nat (l : List α) (i : Nat) : idx l (i : Int) = l[i]? := by unfold idx; rw [if_pos (by omega)]; simp
theorem idx_lt {l : List α} {i : Nat} (h : i < l.length) : idx l (i : Int) = some l[i] := by rw [idx_nat]; exact List.getElem?_eq_getElem h
theorem cut_nn {l : List α} {a b : Nat} (h1 : a ≤ b) (h2 : b ≤ l.length) : cut l (a : Int) (b : Int) = some ((l.drop a).take (b - a)) := by
  unfold cut; rw [if_pos (by omega)]; simp
theorem cut_nl {l : List α} {a : Nat} (h1 : a ≤ l.length) : cut l (a : Int) (l.length : Int) = some (l.drop a) := by
  rw [cut_nn h1 (Nat.le_refl _)]; rw [List.take_of_length_le (by simp)]
theorem cut_0n {l : List α} {b : Nat} (h2 : b ≤ l.length) : cut l 0 (b : Int) = some (l.take b) := by
  have := cut_nn (l := l) (a := 0) (b := b) (by omega) h2
  simpa using this
theorem app_ok {lim : Nat} {l xs : List α} (h : l.length + xs.length ≤ lim) : app lim l xs = some (l ++ xs) := by unfold app; rw [if_pos h]
theorem cat_ok {a b : Str} (h : a.length + b.length ≤ 9223372036854775807) : cat a b = some (a ++ b) := by unfold cat; rw [if_pos h]
end

section
variable {A R : Type} {body : A → Option (Step A R)}
/-- a loop that ends, by an invariant and a measure -/
theorem iter_rec (Inv : A → Prop) (m : A → Nat) (Post : A → R → Prop)
    (h : ∀ s, Inv s → (∃ r, body s = some (.out r) ∧ Post s r) ∨ ∃ s', body s = some (.cont s') ∧ Inv s' ∧ m s' < m s ∧ ∀ r, Post s' r → Post s r) :
    ∀ s, Inv s → ∃ r, iter body s = some r ∧ Post s r := by
  intro s
  induction hn : m s using Nat.strongRecOn generalizing s with
  | _ n ih =>
    intro hi
    rcases h s hi with ⟨r, h1, h2⟩ | ⟨s', h1, h2, h3, h4⟩
    · exact ⟨r, iter_out h1, h2⟩
    · obtain ⟨r, h5, h6⟩ := ih (m s') (by omega) s' rfl h2
      exact ⟨r, (iter_cont h1).trans h5, h4 r h6⟩
end
end Go.Proofs.YtpclhpncmlbccaaGreatDoor

/- Plain lemmas on loops of typed functions: first hits, folds. No program is named. -/
namespace Go.Proofs.YtpclhpncmlbccaaGreatDoor
open Go.RowKit
section
variable {α R O A S : Type}
/-- the first hit, with its number -/
def firstI (q : Nat → α → Option R) : Nat → List α → Option R
  | _, [] => none
  | i, x :: r => match q i x with | some y => some y | none => firstI q (i + 1) r
theorem iter_first (l : List α) (q : Nat → α → Option R) (oN : O) (oS : R → O) {body : Int → Option (Step Int O)} (hl : body (l.length : Int) = some (.out oN))
    (hs : ∀ (i : Nat) x, l[i]? = some x → body (i : Int) = some ((q i x).elim (.cont ((i + 1 : Nat) : Int)) fun r => .out (oS r))) :
    iter body 0 = some ((firstI q 0 l).elim oN oS) := by
  have key : ∀ r p, l = p ++ r → iter body (p.length : Int) = some ((firstI q p.length r).elim oN oS) := by
    intro r
    induction r with
    | nil => intro p h; have : p = l := by simp [h]
             subst this; exact iter_out hl
    | cons x r ih =>
      intro p h
      have hx := hs p.length x (by simp [h])
      unfold firstI
      cases hq : q p.length x with
      | some y => rw [hq] at hx; exact iter_out hx
      | none =>
        rw [hq] at hx
        rw [iter_cont hx]
        have := ih (p ++ [x]) (by simp [h])
        simpa using this
  exact key l [] rfl
/-- a loop with a counter and a state that goes on to its end -/
theorem iter_foldI (l : List α) (enc : Int → S → A) (f : Nat → S → α → S) (out : S → O) (Inv : Nat → S → Prop) {body : A → Option (Step A O)}
    (hl : ∀ s, Inv l.length s → body (enc l.length s) = some (.out (out s)))
    (hs : ∀ (i : Nat) x s, l[i]? = some x → Inv i s → body (enc i s) = some (.cont (enc ((i + 1 : Nat) : Int) (f i s x))) ∧ Inv (i + 1) (f i s x)) (s : S) (h0 : Inv 0 s) :
    ∃ t, iter body (enc 0 s) = some (out t) ∧ Inv l.length t ∧ t = (l.zipIdx.foldl (fun s p => f p.2 s p.1) s) := by
  have key : ∀ r p s, l = p ++ r → Inv p.length s → ∃ t, iter body (enc (p.length : Int) s) = some (out t) ∧ Inv l.length t ∧ t = ((r.zipIdx p.length).foldl (fun s p => f p.2 s p.1) s) := by
    intro r
    induction r with
    | nil => intro p s h hi; have : p = l := by simp [h]
             subst this; exact ⟨s, iter_out (hl s hi), hi, rfl⟩
    | cons x r ih =>
      intro p s h hi
      obtain ⟨h1, h2⟩ := hs p.length x s (by simp [h]) hi
      rw [iter_cont h1]
      obtain ⟨t, h3, h4, h5⟩ := ih (p ++ [x]) (f p.length s x) (by simp [h]) (by simpa using h2)
      refine ⟨t, by simpa using h3, h4, ?_⟩
      rw [h5]; simp
  exact key l [] s rfl h0
theorem foldl_zipIdx (f : S → α → S) (l : List α) : ∀ (n : Nat) (s : S), (l.zipIdx n).foldl (fun s p => f s p.1) s = l.foldl f s := by
  induction l with
  | nil => intro n s; rfl
  | cons x r ih => intro n s; simp [ih]
/-- the same, where the number does not matter -/
theorem iter_fold (l : List α) (enc : Int → S → A) (f : S → α → S) (out : S → O) (Inv : Nat → S → Prop) {body : A → Option (Step A O)}
    (hl : ∀ s, Inv l.length s → body (enc l.length s) = some (.out (out s)))
    (hs : ∀ (i : Nat) x s, l[i]? = some x → Inv i s → body (enc i s) = some (.cont (enc ((i + 1 : Nat) : Int) (f s x))) ∧ Inv (i + 1) (f s x)) (s : S) (h0 : Inv 0 s) :
    iter body (enc 0 s) = some (out (l.foldl f s)) ∧ Inv l.length (l.foldl f s) := by
  obtain ⟨t, h1, h2, h3⟩ := iter_foldI l enc (fun _ => f) out Inv hl hs s h0
  have : t = l.foldl f s := by rw [h3]; exact foldl_zipIdx f l 0 s
  subst this
  exact ⟨h1, h2⟩
theorem firstI_any (c : α → Bool) (r : R) (l : List α) (n : Nat) : firstI (fun _ x => if c x then some r else none) n l = if l.any c then some r else none := by
  induction l generalizing n with
  | nil => rfl
  | cons x l ih => unfold firstI; cases h : c x <;> simp [h, ih]
theorem firstI_none {q : Nat → α → Option R} {l : List α} {n : Nat} : firstI q n l = none ↔ ∀ (i : Nat) x, l[i]? = some x → q (n + i) x = none := by
  induction l generalizing n with
  | nil => simp [firstI]
  | cons x l ih =>
    unfold firstI
    cases h : q n x with
    | some y =>
      simp only [reduceCtorEq, false_iff]
      intro hh
      have := hh 0 x rfl
      rw [Nat.add_zero, h] at this; cases this
    | none =>
      rw [ih]
      constructor
      · intro hh i y hy
        cases i with
        | zero => simp at hy; subst hy; exact h
        | succ i => rw [show n + (i + 1) = n + 1 + i by omega]; exact hh i y (by simpa using hy)
      · intro hh i y hy
        rw [show n + 1 + i = n + (i + 1) by omega]; exact hh (i + 1) y (by simpa using hy)
theorem firstI_some {q : Nat → α → Option R} {l : List α} {n : Nat} {r : R} (h : firstI q n l = some r) : ∃ (i : Nat) (x : α), l[i]? = some x ∧ q (n + i) x = some r := by
  induction l generalizing n with
  | nil => cases h
  | cons x l ih =>
    unfold firstI at h
    cases hq : q n x with
    | some y => rw [hq] at h; cases h; exact ⟨0, x, rfl, hq⟩
    | none =>
      rw [hq] at h
      obtain ⟨i, y, h1, h2⟩ := ih h
      exact ⟨i + 1, y, by simpa using h1, by rw [show n + (i + 1) = n + 1 + i by omega]; exact h2⟩
theorem lt_get {l : List α} {i : Nat} {x : α} (h : l[i]? = some x) : i < l.length := (List.getElem?_eq_some_iff.1 h).1
theorem dec_lt {l : List α} {i : Nat} {x : α} (h : l[i]? = some x) : decide ((i : Int) < (l.length : Int)) = true := by have := lt_get h; simp; omega
theorem dec_len (l : List α) : decide ((l.length : Int) < (l.length : Int)) = false := by simp
theorem idx_get {l : List α} {i : Nat} {x : α} (h : l[i]? = some x) : idx l (i : Int) = some x := by rw [idx_nat]; exact h
end
end Go.Proofs.YtpclhpncmlbccaaGreatDoor

/- Days and years: plain arithmetic. No program is named. -/
namespace Go.Proofs.YtpclhpncmlbccaaGreatDoor
open Go.RowKit

def leapI (y : Int) : Bool := y % 4 == 0 && (y % 100 != 0 || y % 400 == 0)
/-- days of the years from 1 on that end before the year y -/
def befI (y : Int) : Int := 365 * (y - 1) + (y - 1) / 4 - (y - 1) / 100 + (y - 1) / 400
def ylen (y : Int) : Int := if leapI y then 366 else 365
theorem befI_succ (y : Int) : befI (y + 1) = befI y + ylen y := by
  unfold befI ylen leapI
  by_cases h4 : y % 4 = 0 <;> by_cases h100 : y % 100 = 0 <;> by_cases h400 : y % 400 = 0 <;> simp [h4, h100, h400] <;> omega
theorem ylen_pos (y : Int) : 365 ≤ ylen y ∧ ylen y ≤ 366 := by unfold ylen; split <;> omega
theorem befI_add (y : Int) (k : Nat) : befI y + 365 * k ≤ befI (y + k) ∧ befI (y + k) ≤ befI y + 366 * k := by
  induction k with
  | zero => simp
  | succ k ih =>
    have h := befI_succ (y + k)
    have h2 := ylen_pos (y + k)
    rw [show y + ((k + 1 : Nat) : Int) = y + k + 1 by omega, h]
    omega
theorem befI_mono {a b : Int} (h : a ≤ b) : befI a ≤ befI b := by
  have := (befI_add a (b - a).toNat).1
  rw [show a + ((b - a).toNat : Int) = b by omega] at this
  omega
/-- the year of a day (counted from year 1's first day) is one -/
theorem year_unique {n a b : Int} (ha : befI a ≤ n ∧ n < befI (a + 1)) (hb : befI b ≤ n ∧ n < befI (b + 1)) : a = b := by
  rcases Int.lt_trichotomy a b with h | h | h
  · have := befI_mono (show a + 1 ≤ b by omega); omega
  · exact h
  · have := befI_mono (show b + 1 ≤ a by omega); omega
/-- days of a month -/
def dimI (y m : Int) : Int := if m = 2 then (if leapI y then 29 else 28) else if m = 4 ∨ m = 6 ∨ m = 9 ∨ m = 11 then 30 else 31
/-- days of the months before the month m + 1 -/
def domI (y : Int) : Nat → Int
  | 0 => 0
  | m + 1 => domI y m + dimI y ((m + 1 : Nat) : Int)
theorem domI_12 (y : Int) : domI y 12 = ylen y := by
  unfold ylen
  cases h : leapI y <;> simp [domI, dimI, h]
theorem dimI_pos (y m : Int) : 28 ≤ dimI y m ∧ dimI y m ≤ 31 := by unfold dimI; repeat' split <;> omega
theorem domI_lt (y : Int) {a b : Nat} (h : a < b) : domI y a + 28 ≤ domI y b := by
  induction b with
  | zero => omega
  | succ b ih =>
    have := dimI_pos y ((b + 1 : Nat) : Int)
    rw [domI]
    by_cases e : a = b
    · subst e; omega
    · have := ih (by omega); omega
theorem month_unique {y n : Int} {a b : Nat} (ha : domI y a ≤ n ∧ n < domI y (a + 1)) (hb : domI y b ≤ n ∧ n < domI y (b + 1)) : a = b := by
  rcases Nat.lt_trichotomy a b with h | h | h
  · have : domI y (a + 1) ≤ domI y b := by
      by_cases e : a + 1 = b
      · rw [e]; omega
      · have := domI_lt y (show a + 1 < b by omega); omega
    omega
  · exact h
  · have : domI y (b + 1) ≤ domI y a := by
      by_cases e : b + 1 = a
      · rw [e]; omega
      · have := domI_lt y (show b + 1 < a by omega); omega
    omega
end Go.Proofs.YtpclhpncmlbccaaGreatDoor

/- Plain lemmas: bulk, counters, copying down in a list. No program is named. -/
namespace Go.Proofs.YtpclhpncmlbccaaGreatDoor
open Go.RowKit
theorem first_idx {α : Type} (c : α → Bool) (l : List α) : ∀ n : Nat, decide ((0 : Int) ≤ (firstI (fun i x => if c x then some ((i : Nat) : Int) else none) n l).getD (-1)) = l.any c := by
  induction l with
  | nil => intro n; rfl
  | cons x l ih =>
    intro n
    unfold firstI
    cases hc : c x with
    | true => simp [hc]
    | false => simp only [Bool.false_eq_true, if_false, List.any_cons, hc, Bool.false_or]; exact ih (n + 1)
theorem elim_idx (o : Option Int) : Sum.elim (fun _ => some (-1)) (fun b => some b) (o.elim (Sum.inl ()) Sum.inr : Unit ⊕ Int) = some (o.getD (-1)) := by cases o <;> rfl
theorem sc (i : Nat) (h : i < 9223372036854775807) : w64 ((i : Int) + 1) = ((i + 1 : Nat) : Int) := by rw [show ((i : Int) + 1) = ((i + 1 : Nat) : Int) by omega, w64_n _ (by omega)]

theorem bkL_pos {T : Type} (bk : T → Nat) (l : List T) : 1 ≤ bkL bk l := by
  induction l with
  | nil => simp [bkL]
  | cons y l ih => unfold bkL; omega
theorem bkL_mem {T : Type} {bk : T → Nat} {l : List T} {x : T} (h : x ∈ l) : bk x + 1 ≤ bkL bk l := by
  induction l with
  | nil => cases h
  | cons y l ih =>
    unfold bkL
    have hp := bkL_pos bk l
    rcases List.mem_cons.1 h with rfl | h
    · omega
    · have := ih h; omega
theorem bkL_len {T : Type} {bk : T → Nat} (hb : ∀ x, 1 ≤ bk x) (l : List T) : l.length + 1 ≤ bkL bk l := by
  induction l with
  | nil => simp [bkL]
  | cons y l ih => unfold bkL; have := hb y; simp; omega

section
variable {α : Type}
end
theorem mget_mputG {V : Type} (m : List (Str × V)) (k : Str) (v : V) (x : Str) : mget (mput m k v) x = if k == x then some v else mget m x := by
  induction m with
  | nil => rfl
  | cons p m ih =>
    obtain ⟨k', v'⟩ := p
    unfold mput
    by_cases h : k' = k
    · subst h
      simp only [beq_self_eq_true, if_true, mget]
      cases k' == x <;> simp
    · have h1 : (k' == k) = false := by simpa using h
      rw [h1]
      simp only [Bool.false_eq_true, if_false, mget]
      rw [ih]
      by_cases h2 : k' = x
      · subst h2
        have : (k == k') = false := by simpa using fun h' => h h'.symm
        simp [this]
      · have : (k' == x) = false := by simpa using h2
        rw [this]; simp

section
variable {α A S O : Type}
end
end Go.Proofs.YtpclhpncmlbccaaGreatDoor

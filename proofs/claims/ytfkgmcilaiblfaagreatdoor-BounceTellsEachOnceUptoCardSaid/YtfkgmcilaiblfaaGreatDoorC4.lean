/- Part 4 of a calculus for walks through code: no program is named. -/
import Derived.Test.YtfkgmcilaiblfaaGreatDoorC3
import Derived.Test.YtfkgmcilaiblfaaGreatDoorRows
import Derived.ProofKit
import Derived.Deep.Slices
import Derived.WalkKit
import Derived.WalkSpells
import Derived.WalkLawsBesides
import Derived.Deep.QuietTactic
import Derived.BigQuiet
import Derived.Lib.Hide
import Derived.Handy
import Derived.Deep.RegionHeld3
import Derived.OpenShut
import Derived.ShutString
import Derived.ChangeOld
import Derived.Below
import Derived.JoinedCond
import Derived.JoinedOf
import Derived.Test.YtfkgmcilaiblfaaGreatDoorCards
import Derived.Test.YtfkgmcilaiblfaaGreatDoorTie
import Derived.HandedShaped
import Derived.Shelf.Vars
import Derived.Deep.DeepHandedRow
import Derived.Deep.DeepWitnessRowRef
import Derived.Lib.LaidTab
import Derived.Lib.LaidU8
import Derived.LaidMore
import Derived.MakeChecks
import Derived.SevenTiedAt
import Derived.Stop.LaidErr
set_option linter.unusedVariables false
set_option linter.unusedSimpArgs false
/- Variables that are written no more are published with their cells; calls of function values by contract. No program is named. -/
namespace Go.Proofs.YtfkgmcilaiblfaaGreatDoor
open Go.RowKit
mutual
/-- a pointer to the object o is one to published cells -/
def AV.epS (o : Nat) (cs : List PV) : AV → AV
  | .ptr o' off => bif Nat.beq o' o then (bif Nat.ble off cs.length then .ep (cs.drop off) else .any) else .ptr o' off
  | .agg l => .agg (AV.epL o cs l)
  | .tup l => .tup (AV.epL o cs l)
  | .fn f a c => .fn f (AV.epL o cs a) (AV.epL o cs c)
  | c => c
def AV.epL (o : Nat) (cs : List PV) : List AV → List AV
  | [] => []
  | c :: l => c.epS o cs :: AV.epL o cs l
end
theorem AV.epL_eq (o : Nat) (cs : List PV) (l : List AV) : AV.epL o cs l = l.map (AV.epS o cs) := by
  induction l with
  | nil => rfl
  | cons c l ih => unfold AV.epL; rw [ih]; rfl
def Fr.epS (o : Nat) (cs : List PV) : Fr → Fr
  | [] => []
  | (k, c) :: r => (k, c.epS o cs) :: Fr.epS o cs r
theorem Fr.get_epS (o : Nat) (cs : List PV) (fr : Fr) (d : Nat) : (fr.epS o cs).get d = (fr.get d).epS o cs := by
  induction fr with
  | nil => simp [Fr.epS, Fr.get, AV.epS]
  | cons x r ih =>
    obtain ⟨k, c⟩ := x
    unfold Fr.epS
    rw [Fr.get_cons, Fr.get_cons, ih]
    split <;> rfl
theorem rel_epS {g g' : G} {o b : Nat} {cs : List PV} {vs : Array Value} {t : TypeId} {fz : Nat × Nat} (hl : g.loc o = .blk b) (hb : g.w.heap[b]? = some (.cells vs t fz)) (hn : vs.size = cs.length)
    (hc : ∀ i c, cs[i]? = some c → RelP g.w g.u c (vs.getD i undef)) (hx : Ext g.w g.u g'.w g'.u) (hh : g'.w.heap[b]? = g.w.heap[b]?) (hu : g'.u b = cs.length) (hloc : ∀ k, k ≠ o → g'.loc k = g.loc k)
    {c : AV} {v : Value} (h : Rel g c v) : Rel g' (c.epS o cs) v := by
  induction h with
  | any v => exact .any v
  | pv h => exact .pv (h.mono hx)
  | agg hl2 hc2 h ih =>
    unfold AV.epS; rw [AV.epL_eq]
    refine .agg (by simp [hl2]) hc2 fun i c hi => ?_
    simp only [List.getElem?_map, Option.map_eq_some_iff] at hi
    obtain ⟨c', h1, rfl⟩ := hi
    exact ih i c' h1
  | tup hl2 h ih =>
    unfold AV.epS; rw [AV.epL_eq]
    refine .tup (by simp [hl2]) fun i c hi => ?_
    simp only [List.getElem?_map, Option.map_eq_some_iff] at hi
    obtain ⟨c', h1, rfl⟩ := hi
    exact ih i c' h1
  | @ptr o' off b' h1 =>
    unfold AV.epS
    cases hbq : Nat.beq o' o with
    | false =>
      have hk : o' ≠ o := fun e => by rw [e] at hbq; simp at hbq
      rw [cond_false]; exact .ptr ((hloc o' hk).trans h1)
    | true =>
      have hk : o' = o := Nat.eq_of_beq_eq_true hbq
      subst hk
      rw [hl] at h1
      cases h1
      rw [cond_true]
      cases hle : Nat.ble off cs.length with
      | false => exact .any _
      | true =>
        have hle := Nat.le_of_ble_eq_true hle
        rw [cond_true]
        refine .ep (fun i => vs.getD (off + i) undef) (by rw [hu]; simp; omega) ?_ (fun i hi => ?_) (fun i c hi => ?_)
        · have := blk_lt hb
          have := hx.size
          omega
        · have hi' : off + i < vs.size := by simp at hi; omega
          simp only [World.cell?, hh, hb]
          simp [Array.getD, hi']
        · rw [List.getElem?_drop] at hi
          exact (hc _ c hi).mono hx
  | ep val h1 h2 h3 h4 => exact (Rel.ep (g := g) val h1 h2 h3 h4).mono hx (fun o' ho' => by cases ho')
  | @hsNil r a h1 =>
    by_cases hk : r = o
    · subst hk; rw [hl] at h1; cases h1
    · exact .hsNil a ((hloc r hk).trans h1)
  | @hs r b1 off cap size n a h1 h2 =>
    by_cases hk : r = o
    · subst hk; rw [hl] at h1; cases h1
    · exact .hs ((hloc r hk).trans h1) h2
  | @hp r idx j b1 off cap size n h1 h2 =>
    by_cases hk : r = o
    · subst hk; rw [hl] at h1; cases h1
    · exact .hp ((hloc r hk).trans h1) h2
  | @fn f first captured fv cv h1 h2 hf hc2 ihf ihc =>
    unfold AV.epS; rw [AV.epL_eq, AV.epL_eq]
    refine .fn (by simp [h1]) (by simp [h2]) (fun i c hi => ?_) (fun i c hi => ?_)
    · simp only [List.getElem?_map, Option.map_eq_some_iff] at hi
      obtain ⟨c', h3, rfl⟩ := hi
      exact ihf i c' h3
    · simp only [List.getElem?_map, Option.map_eq_some_iff] at hi
      obtain ⟨c', h3, rfl⟩ := hi
      exact ihc i c' h3
  | @mp o' b1 h1 =>
    by_cases hk : o' = o
    · subst hk; rw [hl] at h1; cases h1
    · exact .mp ((hloc o' hk).trans h1)
  | @hsubNil r lo a h1 =>
    by_cases hk : r = o
    · subst hk; rw [hl] at h1; cases h1
    · exact .hsubNil a ((hloc r hk).trans h1)
  | @hsub r lo b1 off cap size n a h1 h2 h3 =>
    by_cases hk : r = o
    · subst hk; rw [hl] at h1; cases h1
    · exact .hsub ((hloc r hk).trans h1) h2 h3
  | z0 a => exact .z0 a
  | ifc h => exact .ifc h
  | @hpreNil r a h1 =>
    by_cases hk : r = o
    · subst hk; rw [hl] at h1; cases h1
    · exact .hpreNil a ((hloc r hk).trans h1)
  | @hpre r hi b1 off cap size n a h1 h2 h3 =>
    by_cases hk : r = o
    · subst hk; rw [hl] at h1; cases h1
    · exact .hpre ((hloc r hk).trans h1) h2 h3
variable {P : Program} {σ : Sto} {dst : Option Tmp} {ty : TypeId} {pos : String} {af : Array Edge} {gu : Option (Nat × Bool)} {E : Env} {fr : Fr} {K : Post}
theorem St.pubbox {g : G} {a : Act} {o : Nat} {cs : List PV} (h : St E g a fr σ) (ho : σ.get o = some (.cells (cs.map .pv))) (hd : (σ.del o).has o = false) : ∃ g', g'.w = g.w ∧ St E g' a (fr.epS o cs) (σ.del o) := by
  have hob := h.so.obj o _ ho
  generalize hls : cs.map AV.pv = ls at hob
  cases hob with
  | @cells _ b t vs hl hb hn hu hcv hrel =>
    subst hls
    have hbl := blk_lt hb
    have hx : Ext g.w g.u g.w (fun k => if k = b then cs.length else g.u k) := ⟨Nat.le_refl _, fun k _ => by split <;> simp_all, fun _ _ _ _ => rfl, fun _ h => h⟩
    have hsub : ∀ o' ob b', σ.get o' = some ob → ob.blk (g.loc o') = some b' → o' ≠ o → b' ≠ b := by
      rintro o' ob b' ho' hb' hne rfl
      exact hne (h.so.apart o' o ob _ b' ho' ho hb' (by rw [hl]; rfl))
    have hget : ∀ o' ob, (σ.del o).get o' = some ob → o' ≠ o ∧ σ.get o' = some ob := by
      intro o' ob h1
      rw [Sto.get_del] at h1
      split at h1
      · cases h1
      · rename_i h2; exact ⟨h2, h1⟩
    have hcells : ∀ i c, cs[i]? = some c → RelP g.w g.u c (vs.getD i undef) := fun i c hi => by
      have := hrel i (.pv c) (by simp [hi])
      cases this with
      | pv h => exact h
    refine ⟨⟨g.w, fun k => if k = b then cs.length else g.u k, g.loc⟩, rfl, ⟨fun d => ?_, h.n, h.df, ⟨?_, ?_, ?_, ?_, ?_⟩⟩⟩
    · rw [Fr.get_epS]
      exact rel_epS (g' := ⟨g.w, fun k => if k = b then cs.length else g.u k, g.loc⟩) hl hb (by simpa using hn) hcells hx rfl (if_pos rfl) (fun _ _ => rfl) (h.fr d)
    · intro o' ob h1
      obtain ⟨h2, h3⟩ := hget o' ob h1
      exact (h.so.obj o' ob h3).mono hx rfl (fun _ _ => rfl) fun b' hb' => ⟨rfl, if_neg (hsub o' ob b' h3 hb' h2)⟩
    · intro o1 o2 ob1 ob2 b1 h1 h2
      exact h.so.apart o1 o2 ob1 ob2 b1 (hget o1 ob1 h1).2 (hget o2 ob2 h2).2
    · intro o1 ob1 b1 h1
      exact h.so.mine o1 ob1 b1 (hget o1 ob1 h1).2
    · refine h.so.old.trans ⟨rfl, rfl, rfl, hx, fun k hk hs => ⟨rfl, if_neg ?_⟩⟩
      rintro rfl
      rcases h.so.mine o _ k ho (by rw [hl]; rfl) with h1 | h1
      · exact hs (.inr h1)
      · exact hs (.inl h1)
    · intro k hk
      show (if k = b then cs.length else g.u k) = 0
      rw [if_neg (by have : g.w.heap.size ≤ k := hk; omega)]
      exact h.so.wf k hk
theorem awpl_pubbox {ops : Array Oper} {ol : List Oper} (o : Nat) {cs : List PV} (ho : σ.get o = some (.cells (cs.map .pv))) (hd : (σ.del o).has o = false) (h : AWPL E ops ol (fr.epS o cs) (σ.del o) K) : AWPL E ops ol fr σ K :=
  ⟨fun g a hst => by
    obtain ⟨g', hw, hst'⟩ := hst.pubbox ho hd
    have := h.go g' a hst'
    rw [hw] at this
    exact this⟩
theorem awp_pubbox {c : Code} (o : Nat) {cs : List PV} (ho : σ.get o = some (.cells (cs.map .pv))) (hd : (σ.del o).has o = false) (h : AWP E c (fr.epS o cs) (σ.del o) K) : AWP E c fr σ K :=
  ⟨fun g a hst => by
    obtain ⟨g', hw, hst'⟩ := hst.pubbox ho hd
    have := h.go g' a hst'
    rw [hw] at this
    exact this⟩
/-- a function value is called by its function's contract -/
theorem opG_callV {f : FuncId} {fx : Operand} {xs : List Operand} {ats : Array TypeId} {args cap : List AV} {r : AV} (hfx : fr.ev fx = .fn (.func f) [] cap) (hr : Run E.P f args r) (ha : xs.map (fun x => (fr.ev x).weak) ++ cap = args) :
    OpG E ⟨dst, .call ⟨.value fx, xs.toArray, ats⟩, ty, pos, af, gu⟩ fr σ r :=
  ⟨fun g a K Q hx hs hK => by
    obtain ⟨fn, c, hok⟩ := hr.ok
    have hfv : Rel g (.fn (.func f) [] cap) (a.eval fx) := by rw [← hfx]; exact hx fx (by simp [Op.operands, Call.operands])
    generalize hv : a.eval fx = fv at hfv
    cases hfv with
    | @fn _ _ _ v1 v2 h1 h2 hf hc =>
      have e1 : v1 = #[] := Array.eq_empty_of_size_eq_zero h1
      subst e1
      refine ⟨fun _ _ => trivial, ?_⟩
      rw [Oper.semAt_plain _ _ _ (fun c => by simp), run_call_op hok hv, Oper.uponIn_enter]
      refine ⟨fun h => by simp [fen] at h, ?_⟩
      have hargs : RelArgs g args (#[] ++ xs.toArray.map a.eval ++ v2) := by
        subst ha
        refine ⟨by simp [h2], fun i c hi => ?_⟩
        by_cases hlt : i < xs.length
        · rw [List.getElem?_append_left (by simpa using hlt)] at hi
          simp only [List.getElem?_map, Option.map_eq_some_iff] at hi
          obtain ⟨x, hx', rfl⟩ := hi
          have := rel_weak (hx x (by simp [Op.operands, Call.operands]; exact .inr (List.mem_of_getElem? hx')))
          rw [Array.getD_eq_getD_getElem?, Array.getElem?_append_left (by simpa using hlt)]
          simpa [hx'] using this
        · rw [List.getElem?_append_right (by simpa using hlt)] at hi
          have := hc _ c hi
          rw [Array.getD_eq_getD_getElem?, Array.getElem?_append_right (by simpa using hlt), ← Array.getD_eq_getD_getElem?]
          simpa using this
      refine (callsIn_fen (hr.run g _ hs.wf (E.glOf hs) hargs)).mono ?_
      rintro e w' ⟨g', v, rfl, hl, ho, hw, rfl, hv⟩
      exact hK g' v ho hw hl hv⟩
theorem flatMap_one {α : Type} {F : α → List PV} (hF : ∀ y, (F y).length = 1) : ∀ (l : List α) (i : Nat), (l.flatMap F)[i]? = (l[i]?).bind fun y => (F y)[0]?
  | [], i => by simp
  | y :: l, i => by
    obtain ⟨c, hc⟩ := List.length_eq_one_iff.1 (hF y)
    rw [List.flatMap_cons, hc]
    cases i with
    | zero => simp [hc]
    | succ i => simpa using flatMap_one hF l i
/-- an array that is published, as a slice -/
theorem ev_sliceArr {ρ : Operand → AV} {α : Type} {F : α → List PV} {l : List α} {x : Operand} {t e : TypeId} {cells : List PV} {n ss sb bytes : Nat} {sz zero : Value} {d : TypeDesc} (hx : ρ x = .ep cells) (hc : cells = l.flatMap F) (hF : ∀ y, (F y).length = 1) (hn : l.length = n)
    (ht : TyOk P t ss sb sz (.array n e)) (he : TyOk P e 1 bytes zero d) : EvQ P ⟨dst, .slice t x none none none, ty, pos, af, gu⟩ ρ σ (.l F l) :=
  ⟨fun c => by simp, fun g ρv h _ => by
    have h1 := h x (by simp [Op.operands])
    rw [hx] at h1
    generalize hv : ρv x = v at h1
    cases h1 with
    | @ep _ b off val hu hb hcell hrel =>
      have hlen : cells.length = l.length := by
        rw [hc]
        clear hc hn hx
        induction l with
        | nil => rfl
        | cons y l ih => rw [List.flatMap_cons, List.length_append, hF, ih, List.length_cons]; omega
      refine ⟨.slice (some ⟨b, off, none⟩) n n, ?_, ?_⟩
      · show Sem.run P (do let v ← Instr.sliceAt t (ρv x) none none none; pure (Next.value v)) g.w = _
        rw [hv]
        have hs : Sem.run P (Instr.sliceAt t (.pointer (some ⟨b, off, none⟩)) none none none) g.w = .ok (.slice (some ⟨b, off, none⟩) n n) g.w := by
          unfold Instr.sliceAt
          simp only [Sem.run_bind, underlying, program, Sem.run, ht.u, Result.andThen_ok, Sem.run_pure]
          by_cases h0 : n = 0
          · subst h0
            simp [Instr.sureAddr, Instr.sliceBounds, he.sizeOf]
          · simp [Instr.sureAddr, Instr.sliceBounds, he.sizeOf, Addr.add, h0]
        rw [Sem.run_bind, hs]; rfl
      · refine .pv ?_
        have := RelP.sl (w := g.w) (u := g.u) (nl := none) (elems := l.map F) (a := some ⟨b, off, none⟩) (cap := n) 1 b off val (fun x hx => by cases hx) (fun hx => by cases hx) (by simp [hn]) (fun x' hx' => by obtain ⟨y', hy', rfl⟩ := List.mem_map.1 hx'; exact hF y') (fun _ => rfl) (fun _ => ⟨by simp; omega, hb⟩)
          (fun i hi => hcell i (by simp at hi; omega)) (fun i j e c hi hj => by
            simp only [List.getElem?_map, Option.map_eq_some_iff] at hi
            obtain ⟨y, hy, rfl⟩ := hi
            have hj0 : j = 0 := by
              have := (List.getElem?_eq_some_iff.1 hj).1
              rw [hF] at this; omega
            subst hj0
            rw [Nat.mul_one, Nat.add_zero]
            refine hrel i c ?_
            rw [hc, flatMap_one hF, hy]
            exact hj)
        rw [List.length_map, hn] at this
        exact this⟩
end Go.Proofs.YtfkgmcilaiblfaaGreatDoor

/- From a law's arguments, as they are read, to the calculus: openers; from a contract to the row's end. -/
namespace Go.Proofs.YtfkgmcilaiblfaaGreatDoor
open Go.ChangeShapes Go.WideShapes Go.ChangeAt Go.RowKit

/-- every cell that is there is published -/
def uAll (W : World) (k : Nat) : Nat := match W.heap[k]? with
  | some (.cells vs _ _) => vs.size
  | _ => 0
theorem uAll_lt {W : World} {b i : Nat} {v : Value} (h : W.cell? ⟨b, i, none⟩ = some v) : i < uAll W b ∧ b < W.heap.size := by
  unfold World.cell? at h
  simp only [Option.isSome_none, Bool.false_eq_true, if_false] at h
  split at h
  · rename_i c t z hb
    refine ⟨?_, (Array.getElem?_eq_some_iff.1 hb).1⟩
    unfold uAll
    rw [hb]
    exact (Array.getElem?_eq_some_iff.1 h).1
  · cases h
def gAll (W : World) : G := ⟨W, uAll W, fun _ => .none⟩
theorem wf_all (W : World) : Wf (gAll W) := fun k hk => by
  show uAll W k = 0
  unfold uAll
  have : W.heap[k]? = none := Array.getElem?_eq_none hk
  rw [this]

/-- cells and what they hold -/
structure RelC (W : World) (ps : List PV) (cs : List Value) : Prop where
  len : cs.length = ps.length
  rel : ∀ (i : Nat) (c : PV), ps[i]? = some c → RelP W (uAll W) c (cs.getD i undef)
theorem relC_one {W : World} {p : PV} {v : Value} (h : RelP W (uAll W) p v) : RelC W [p] [v] := ⟨rfl, fun i c hi => by
  cases i with
  | zero => simp at hi; subst hi; exact h
  | succ i => simp at hi⟩
theorem relC_append {W : World} {p1 p2 : List PV} {cs : List Value} {n : Nat} (hn : n = p1.length) (h1 : RelC W p1 (cs.take n)) (h2 : RelC W p2 (cs.drop n)) : RelC W (p1 ++ p2) cs := by
  subst hn
  have l1 := h1.len
  have l2 := h2.len
  simp at l1 l2
  refine ⟨by simp; omega, fun i c hi => ?_⟩
  rcases Nat.lt_or_ge i p1.length with hlt | hge
  · rw [List.getElem?_append_left hlt] at hi
    have := h1.rel i c hi
    simpa [List.getD_eq_getElem?_getD, List.getElem?_take, hlt] using this
  · rw [List.getElem?_append_right hge] at hi
    have := h2.rel _ c hi
    simp only [List.getD_eq_getElem?_getD, List.getElem?_drop] at this ⊢
    rwa [show p1.length + (i - p1.length) = i by omega] at this

/-- **how a type's values are read**: as T's; ok: what is known of them; bk: they are no bulkier than what was read -/
structure Opens (P : Program) (t : TypeId) {T : Type} (n : Nat) (pc : T → List PV) (ok : T → Prop) (bk : T → Nat) : Prop where
  cells : P.cellsOf t = n
  len : ∀ x, (pc x).length = n
  op : ∀ {H : Type} {enc : TypeId × Value → H} {W : World} {fuel : Nat} {cs : List Value} {d : DataW H × List MemPlace}, DataW.trod enc P W 0 (fun _ => true) true fuel t cs = some d →
    ∃ x : T, RelC W (pc x) cs ∧ ok x ∧ bk x ≤ Rows.uptoBulk d.1

def ok64 (n : Int) : Prop := -9223372036854775808 ≤ n ∧ n ≤ 9223372036854775807
def okStr (s : Str) : Prop := s.length ≤ maxLen
def okL {T : Type} (ok : T → Prop) (l : List T) : Prop := l.length ≤ maxLen ∧ ∀ x ∈ l, ok x
def bkL {T : Type} (bk : T → Nat) : List T → Nat
  | [] => 1
  | x :: r => bk x + bkL bk r

variable {P : Program} {t e : TypeId}
theorem opens_I (ht : P.underlying t = some (.int .i64)) (hc : P.cellsOf t = 1) : Opens P t 1 cI ok64 (fun _ => 1) := ⟨hc, fun _ => rfl, fun h => by
  obtain ⟨n, rfl, rfl, hw⟩ := DataW.trod_int ht h
  refine ⟨n, relC_one (.b rfl), ?_, by simp [Rows.uptoBulk]⟩
  unfold ok64
  simpa [Lit.wf, IntKind.min, IntKind.max, IntKind.signed, IntKind.bits] using hw⟩
theorem opens_U (ht : P.underlying t = some (.int .u8)) (hc : P.cellsOf t = 1) : Opens P t 1 cU (fun _ => True) (fun _ => 1) := ⟨hc, fun _ => rfl, fun {H enc W fuel cs d} h => by
  obtain ⟨n, rfl, rfl, hw⟩ := DataW.trod_int ht h
  have hw : 0 ≤ n ∧ n ≤ 255 := by simpa [Lit.wf, IntKind.min, IntKind.max, IntKind.signed, IntKind.bits] using hw
  refine ⟨UInt8.ofNat n.toNat, relC_one ?_, trivial, by simp [Rows.uptoBulk]⟩
  have : ((UInt8.ofNat n.toNat).toNat : Int) = n := by
    rw [UInt8.toNat_ofNat']
    omega
  show RelP W (uAll W) (.b (.int .u8 _)) _
  rw [this]
  exact .b rfl⟩
theorem opens_B (ht : P.underlying t = some .bool) (hc : P.cellsOf t = 1) : Opens P t 1 cB (fun _ => True) (fun _ => 1) := ⟨hc, fun _ => rfl, fun h => by
  obtain ⟨n, rfl, rfl⟩ := DataW.trod_bool ht h
  exact ⟨n, relC_one (.b rfl), trivial, by simp [Rows.uptoBulk]⟩⟩
theorem opens_S (ht : P.underlying t = some .string) (hc : P.cellsOf t = 1) : Opens P t 1 cS okStr (fun s => s.length + 1) := ⟨hc, fun _ => rfl, fun {H enc W fuel cs d} h => by
  obtain ⟨s, rfl, rfl, hw⟩ := DataW.trod_string ht h
  refine ⟨s.data.toList, relC_one ?_, ?_, ?_⟩
  · have : strB s.data.toList = s := by cases s; simp [strB]
    show RelP W (uAll W) (.b (.string (strB s.data.toList))) _
    rw [this]; exact .b rfl
  · show s.data.toList.length ≤ maxLen
    have : s.data.toList.length = s.size := by cases s; rfl
    omega
  · simp [Rows.uptoBulk]⟩
theorem bulkAll_append {H : Type} (a b : List (DataW H)) : Rows.uptoBulkAll (a ++ b) = Rows.uptoBulkAll a + Rows.uptoBulkAll b := by
  induction a with
  | nil => simp [Rows.uptoBulkAll]
  | cons x a ih => simp only [List.cons_append, Rows.uptoBulkAll, ih]; omega
theorem bkL_map {T : Type} {H : Type} {bk : T → Nat} (n : Nat) (X : Nat → T) (D : Nat → DataW H) (h : ∀ i, i < n → bk (X i) ≤ Rows.uptoBulk (D i)) : bkL bk ((List.range n).map X) ≤ Rows.uptoBulkAll ((List.range n).map D) + 1 := by
  suffices h' : ∀ l : List Nat, (∀ i ∈ l, i < n) → bkL bk (l.map X) ≤ Rows.uptoBulkAll (l.map D) + 1 from h' _ (fun i hi => List.mem_range.1 hi)
  intro l
  induction l with
  | nil => intro _; simp [bkL]
  | cons i l ih =>
    intro hl
    have h1 := h i (hl i (List.mem_cons_self ..))
    have h2 := ih fun j hj => hl j (List.mem_cons_of_mem _ hj)
    simp only [List.map_cons, bkL, Rows.uptoBulkAll]
    omega
theorem opens_L {T : Type} [Inhabited T] {n : Nat} {pc : T → List PV} {ok : T → Prop} {bk : T → Nat} (h : Opens P e n pc ok bk) (hn : Nat.blt 0 n = true) (ht : P.underlying t = some (.slice e)) (hc : P.cellsOf t = 1) : Opens P t 1 (cL pc) (okL ok) (bkL bk) := ⟨hc, fun _ => rfl, fun {H enc W fuel cs d} hd => by
  have hn : 0 < n := Nat.le_of_ble_eq_true hn
  rcases Go.Deep.open_slice ht hd with ⟨rfl, rfl⟩ | ⟨a, len, cap, m, n', D, Pl, rfl, hb, hl, hm, hmm, rfl, hx⟩
  · refine ⟨[], relC_one (RelP.sl (a := none) (cap := 0) 1 0 0 (fun _ => undef) (fun x hx => by cases hx) (fun _ => ⟨rfl, rfl⟩) (by simp) (by simp) (by simp) (by simp) (fun i hi => by simp at hi) (fun i j e c hi => by simp at hi)), ⟨Nat.zero_le _, by simp⟩, by simp [bkL, Rows.uptoBulk]⟩
  · simp only [if_true] at hmm
    subst hmm
    obtain ⟨X, hX⟩ := Go.Deep.choose_lt (n := len) (p := fun i (x : T) => ∃ cs', W.cells? 0 (a.add (i * P.cellsOf e)) (P.cellsOf e) = some cs' ∧ RelC W (pc x) cs' ∧ ok x ∧ bk x ≤ Rows.uptoBulk (D i)) (fun i hi => by
      obtain ⟨cs', h1, h2⟩ := hx i (by omega)
      obtain ⟨x, h3, h4, h5⟩ := h.op h2
      exact ⟨x, cs', h1, h3, h4, h5⟩)
    rw [h.cells] at hX
    have hcell : ∀ i j, i < len → j < n → ∃ v, W.cell? (a.add (i * n + j)) = some v ∧ ∀ c, (pc (X i))[j]? = some c → RelP W (uAll W) c v := by
      intro i j hi hj
      obtain ⟨cs', h1, h2, _⟩ := hX i hi
      obtain ⟨_, hlen, hget⟩ := World.cells?_some h1
      have hj' := hget j hj
      have hadd : (a.add (i * n)).add j = a.add (i * n + j) := by
        unfold Addr.add
        by_cases h0 : j = 0
        · simp [h0]
        · by_cases h00 : i * n = 0
          · simp [h0, h00]
          · rw [if_neg h0, if_neg h00, if_neg (by omega)]
            simp [Nat.add_assoc]
      rw [hadd] at hj'
      have hlt : j < cs'.length := by omega
      refine ⟨cs'[j], by rw [hj']; exact List.getElem?_eq_getElem hlt, fun c hc' => ?_⟩
      have := h2.rel j c hc'
      simpa [List.getD_eq_getElem?_getD, List.getElem?_eq_getElem hlt] using this
    by_cases h0 : len = 0
    · subst h0
      refine ⟨[], relC_one (RelP.sl (elems := []) (a := some a) (cap := m) 1 0 0 (fun _ => undef) (fun x hx => by cases hx) (fun hx => by cases hx) (by simp) (by simp) (by simp) (by simp) (fun i hi => by simp at hi) (fun i j e c hi => by simp at hi)), ⟨Nat.zero_le _, by simp⟩, by simp [bkL, Rows.uptoBulk]⟩
    obtain ⟨b, off, spot⟩ := a
    have hspot : spot = none := by
      obtain ⟨v, hv, _⟩ := hcell 0 0 (by omega) hn
      simpa [Addr.add] using World.cell?_spot hv
    subst hspot
    have hadd : ∀ i, (⟨b, off, none⟩ : Addr).add i = ⟨b, off + i, none⟩ := by
      intro i
      unfold Addr.add
      by_cases h0 : i = 0
      · simp [h0]
      · simp [h0]
    simp only [hadd] at hcell
    have hdm : ∀ i j, j < n → (i * n + j) / n = i ∧ (i * n + j) % n = j := by
      intro i j hj
      rw [Nat.mul_comm, Nat.mul_add_div hn, Nat.mul_add_mod]
      exact ⟨by rw [Nat.div_eq_of_lt hj]; rfl, Nat.mod_eq_of_lt hj⟩
    have hcv : ∀ k, k < len * n → ∃ v, W.cell? ⟨b, off + k, none⟩ = some v ∧ ∀ c, (pc (X (k / n)))[k % n]? = some c → RelP W (uAll W) c v := by
      intro k hk
      have h1 : k / n < len := Nat.div_lt_of_lt_mul (by rw [Nat.mul_comm]; exact hk)
      have h2 : k % n < n := Nat.mod_lt _ hn
      have := hcell (k / n) (k % n) h1 h2
      rwa [show k / n * n + k % n = k by rw [Nat.mul_comm]; exact Nat.div_add_mod k n] at this
    obtain ⟨V, hV⟩ := Go.Deep.choose_lt (α := Value) hcv
    refine ⟨(List.range len).map X, ?_, ⟨by simp; omega, ?_⟩, ?_⟩
    · have key : RelP W (uAll W) (.sl none (((List.range len).map X).map pc)) (.slice (some ⟨b, off, none⟩) (((List.range len).map X).map pc).length m) := by
        refine .sl n b off V (fun x hx => by cases hx) (fun hx => by cases hx) (by simpa using hl) (fun e he => ?_) (fun _ => rfl) (fun _ => ?_) (fun i hi => ?_) (fun i j e' c hi hj => ?_)
        · simp only [List.map_map, List.mem_map] at he
          obtain ⟨i, _, rfl⟩ := he
          exact h.len _
        · simp only [List.length_map, List.length_range]
          have hpos : 0 < len * n := Nat.mul_pos (by omega) hn
          obtain ⟨hv, _⟩ := hV (len * n - 1) (by omega)
          obtain ⟨h1, h2⟩ := uAll_lt hv
          exact ⟨by omega, h2⟩
        · exact (hV i (by simpa using hi)).1
        · simp only [List.getElem?_map, List.map_map] at hi
          rw [Option.map_eq_some_iff] at hi
          obtain ⟨i', hi', rfl⟩ := hi
          obtain ⟨hlt, rfl⟩ := List.getElem?_eq_some_iff.1 hi'
          simp only [List.length_range] at hlt
          simp only [List.getElem_range, Function.comp] at hj
          have hjn : j < n := by have := (List.getElem?_eq_some_iff.1 hj).1; rw [h.len] at this; exact this
          have hk : i * n + j < len * n := by
            have := Nat.mul_le_mul_right n (show i + 1 ≤ len from hlt)
            rw [Nat.add_mul] at this
            omega
          have := (hV _ hk).2 c
          rw [(hdm i j hjn).1, (hdm i j hjn).2] at this
          exact this hj
      have hl' : (((List.range len).map X).map pc).length = len := by simp
      rw [hl'] at key
      exact relC_one key
    · intro x hx
      simp only [List.mem_map, List.mem_range] at hx
      obtain ⟨i, hi, rfl⟩ := hx
      obtain ⟨_, _, _, h4, _⟩ := hX i hi
      exact h4
    · have := bkL_map len X D (fun i hi => by obtain ⟨_, _, _, _, h5⟩ := hX i hi; exact h5)
      simp only [Rows.uptoBulk]
      omega⟩

/-- an argument of one cell -/
theorem arg_one {T : Type} {pc : T → List PV} {ok : T → Prop} {bk : T → Nat} (h : Opens P t 1 pc ok bk) {H : Type} {enc : TypeId × Value → H} {W : World} {v : Value} {d : DataW H} {ps : List MemPlace} (hv : cellV v = true) (hd : DataW.Trod enc P W 0 (fun _ => true) true t v d ps) :
    ∃ x, (∀ p, pc x = [p] → Rel (gAll W) (.pv p) v) ∧ ok x ∧ bk x ≤ Rows.uptoBulk d := by
  obtain ⟨fuel, hf⟩ := hd
  obtain ⟨x, h1, h2, h3⟩ := h.op hf
  refine ⟨x, fun p hp => .pv ?_, h2, h3⟩
  have hcs : v.cells.toList = [v] := by cases v <;> first | rfl | cases hv
  rw [hcs, hp] at h1
  have := h1.rel 0 p rfl
  exact this
/-- an argument that is a structure -/
theorem arg_agg {T : Type} {n : Nat} {pc : T → List PV} {ok : T → Prop} {bk : T → Nat} (h : Opens P t n pc ok bk) {H : Type} {enc : TypeId × Value → H} {W : World} {v : Value} {d : DataW H} {ps : List MemPlace} (hv : ∃ cs, v = .agg cs) (hd : DataW.Trod enc P W 0 (fun _ => true) true t v d ps) :
    ∃ x, Rel (gAll W) (.agg ((pc x).map .pv)) v ∧ ok x ∧ bk x ≤ Rows.uptoBulk d := by
  obtain ⟨cs, rfl⟩ := hv
  obtain ⟨fuel, hf⟩ := hd
  obtain ⟨x, h1, h2, h3⟩ := h.op hf
  refine ⟨x, ?_, h2, h3⟩
  have hl := h1.len
  simp only [Value.cells, Array.length_toList] at hl
  have hr : ∀ (i : Nat) (c : PV), (pc x)[i]? = some c → RelP W (uAll W) c (cs.getD i undef) := fun i c hi => by
    have := h1.rel i c hi
    simpa [Value.cells, List.getD_eq_getElem?_getD, Array.getD_eq_getD_getElem?] using this
  refine .agg (by simpa using hl) (fun i hi => ?_) (fun i c hi => ?_)
  · have hlt : i < (pc x).length := by omega
    exact (hr i _ (List.getElem?_eq_getElem hlt)).cellV
  · simp only [List.getElem?_map, Option.map_eq_some_iff] at hi
    obtain ⟨c', hc, rfl⟩ := hi
    exact .pv (hr i c' hc)

/-- **a contract is a law's walk** -/
theorem calls_of_run {f : FuncId} {args : List AV} (h : Run P f args (.pv (pB true))) {W : World} {vs : Array Value} (hgl : Gl (gAll W)) (ha : RelArgs (gAll W) args vs) : Calls P f vs W fun e W' => e = .returned (.bool true) ∧ Below W.heap.size W W' := by
  refine callsIn_wide.1 ((h.run (gAll W) vs (wf_all W) hgl ha).mono ?_)
  rintro e w' ⟨g', v, rfl, hl, ho, hw, rfl, hv⟩
  refine ⟨by rw [rel_bool hv], ⟨ho.os, ho.tape, ho.output, ho.ext.size, fun k hk => (ho.block k hk (by simp)).1⟩⟩

theorem relC_seg {W : World} {p1 p2 : List PV} {cs : List Value} {off n : Nat} (hn : n = p1.length) (h1 : RelC W p1 ((cs.drop off).take n)) (h2 : RelC W p2 (cs.drop (off + n))) : RelC W (p1 ++ p2) (cs.drop off) := relC_append hn h1 (by rw [List.drop_drop]; exact h2)
theorem relC_end {W : World} {cs : List Value} {k : Nat} (h : cs.length = k) : RelC W [] (cs.drop k) := ⟨by simp [h], fun i c hi => by simp at hi⟩
inductive RelL (g : G) : List AV → List Value → Prop
  | nil : RelL g [] []
  | cons {c : AV} {v : Value} {cs : List AV} {vs : List Value} (h : Rel g c v) (r : RelL g cs vs) : RelL g (c :: cs) (v :: vs)
theorem relArgs_of {g : G} {cs : List AV} {vs : List Value} (h : RelL g cs vs) : RelArgs g cs vs.toArray := by
  have key : vs.length = cs.length ∧ ∀ (i : Nat) (c : AV), cs[i]? = some c → Rel g c (vs.getD i undef) := by
    induction h with
    | nil => exact ⟨rfl, fun i c hi => by simp at hi⟩
    | cons h _ ih =>
      refine ⟨by simp [ih.1], fun i c hi => ?_⟩
      cases i with
      | zero => simp at hi; subst hi; exact h
      | succ i => exact ih.2 i c (by simpa using hi)
  exact ⟨by simpa using key.1, fun i c hi => by have := key.2 i c hi; simpa [List.getD_eq_getElem?_getD] using this⟩

end Go.Proofs.YtfkgmcilaiblfaaGreatDoor

/- Small facts that all my walks use: endings, blocks, rows, frames. No program is named. -/
namespace Go.Proofs.YtfkgmcilaiblfaaGreatDoor
open Go.RowKit

theorem ret_bool {a b : Bool} (h : a = b) : Ending.returned (.bool a) = .returned (.bool b) := by rw [h]
theorem ret_int {k : IntKind} {a b : Int} (h : a = b) : Ending.returned (.int k a) = .returned (.int k b) := by rw [h]

theorem take_all {α : Type} (p : α → Bool) (l : List α) (k : Nat) (h : k < l.length) : (l.take (k + 1)).all p = ((l.take k).all p && p l[k]) := by
  rw [List.take_succ_eq_append_getElem h, List.all_append]; simp
theorem all_false {α : Type} (p : α → Bool) (l : List α) (k : Nat) (h : k < l.length) (hp : p l[k] = false) : l.all p = false := by
  rw [List.all_eq_false]; exact ⟨l[k], List.getElem_mem h, by simp [hp]⟩

theorem bcell {W w1 : World} (hb : Below W.heap.size W w1) : (∀ b o, b < W.heap.size → w1.cell? ⟨b, o, none⟩ = W.cell? ⟨b, o, none⟩) ∧ (∀ b o, b < W.heap.size → w1.frozen? ⟨b, o, none⟩ = W.frozen? ⟨b, o, none⟩) :=
  ⟨fun b o h => hb.cell (p := ⟨b, o, none⟩) h, fun b o h => hb.frozen (p := ⟨b, o, none⟩) h⟩


/-- block b is just these cells, none frozen -/
def Blk (w : World) (b : Nat) (t : TypeId) (cs : Array Value) : Prop := w.heap[b]? = some (.cells cs t (0, 0))
theorem Blk.lt {w : World} {b : Nat} {t : TypeId} {cs : Array Value} (h : Blk w b t cs) : b < w.heap.size := by
  rcases Nat.lt_or_ge b w.heap.size with hlt | hge
  · exact hlt
  · unfold Blk at h; rw [Array.getElem?_eq_none hge] at h; cases h
theorem Blk.two {w : World} {b : Nat} {t : TypeId} {x y : Value} (h : Blk w b t #[x, y]) :
    w.cell? ⟨b, 0, none⟩ = some x ∧ w.cell? ⟨b, 1, none⟩ = some y ∧ w.frozen? ⟨b, 0, none⟩ = false ∧ w.frozen? ⟨b, 1, none⟩ = false ∧ b < w.heap.size := by
  refine ⟨?_, ?_, ?_, ?_, h.lt⟩ <;> unfold Blk at h <;> simp [World.cell?, World.frozen?, h]
theorem Blk.new (w : World) (t : TypeId) (cs : Array Value) : Blk (w.alloc (.cells cs t)) w.heap.size t cs := heap_alloc_new w _
theorem Blk.alloc {w : World} {b : Nat} {t : TypeId} {cs : Array Value} (h : Blk w b t cs) (o : Obj) : Blk (w.alloc o) b t cs := (Below.heap_alloc w o b h.lt).trans h
theorem Blk.below {w w' : World} {b : Nat} {t : TypeId} {cs : Array Value} {B : Nat} (h : Blk w b t cs) (hb : Below B w w') (hg : b < B) : Blk w' b t cs := (hb.block b hg).trans h

theorem val_int {k : IntKind} {a b : Int} (h : a = b) : Value.int k a = .int k b := by rw [h]
theorem tup3 {k : IntKind} {a b : Int} {x y : Value} (h : a = b) : Ending.returned (.tuple #[.int k a, x, y]) = .returned (.tuple #[.int k b, x, y]) := by rw [h]
section
variable {w1 w2 : World} {b t : Nat} {cs : Array Value} {o : Obj}
theorem Blk.step_new (hb : Below (w1.alloc (.cells cs t)).heap.size (w1.alloc (.cells cs t)) w2) : Blk w2 w1.heap.size t cs :=
  (Blk.new w1 t cs).below hb (by simp)
theorem Blk.step_old (h : Blk w1 b t cs) (hb : Below (w1.alloc o).heap.size (w1.alloc o) w2) : Blk w2 b t cs :=
  (h.alloc o).below hb (by have := h.lt; simp; omega)
end
theorem below_step {w w1 w2 : World} {o : Obj} (h : Below w.heap.size w w1) (hb : Below (w1.alloc o).heap.size (w1.alloc o) w2) : Below w.heap.size w w2 :=
  (h.alloc h.size o).trans (hb.mono (by have := h.size; simp; omega))
theorem below_trans {w w1 w2 : World} (h : Below w.heap.size w w1) (hb : Below w1.heap.size w1 w2) : Below w.heap.size w w2 :=
  h.trans (hb.mono h.size)

theorem keep2 {W w5 w6 : World} {b : Nat} {x y : Value} (h : w5.cell? ⟨b, 0, none⟩ = some x ∧ w5.cell? ⟨b, 1, none⟩ = some y ∧ Below W.heap.size W w5) (hb : b < W.heap.size) (k : Below w5.heap.size w5 w6) :
    w6.cell? ⟨b, 0, none⟩ = some x ∧ w6.cell? ⟨b, 1, none⟩ = some y ∧ Below W.heap.size W w6 := by
  have hs := h.2.2.size
  exact ⟨(k.cell (p := ⟨b, 0, none⟩) (Nat.lt_of_lt_of_le hb hs)).trans h.1, (k.cell (p := ⟨b, 1, none⟩) (Nat.lt_of_lt_of_le hb hs)).trans h.2.1, below_trans h.2.2 k⟩

/-- a slice of cells, one a value: it holds these values -/
def Row (w : World) (a : Option Addr) (len : Nat) (vs : List Value) : Prop :=
  vs.length = len ∧ (len = 0 ∨ ∃ b off, a = some ⟨b, off, none⟩ ∧ ∀ i v, vs[i]? = some v → w.cell? ⟨b, off + i, none⟩ = some v)


end Go.Proofs.YtfkgmcilaiblfaaGreatDoor

/- What every law's row wants at its end: arguments of any shape read as they did where nothing that was there has turned. -/
namespace Go.Proofs.YtfkgmcilaiblfaaGreatDoor
open Go.ChangeShapes Go.WideShapes Go.ChangeAt Go.RowKit
open Go.ChangeMaps (open_string shut_string)

theorem own : ownKnob Tryz.prog.godebug = none := by kernel_rfl
theorem laidOut : laidOutB Tryz.prog = true := by kernel_rfl

theorem trodAll_stays {H : Type} {enc : TypeId × Value → H} {P : Program} (hl : laidOutB P = true) {W W' : World} (hb : Below W.heap.size W W') :
    ∀ (ts : List TypeId) (vs : List Value) (ds : List (DataW H)) (ps : List MemPlace), (ts.all fun t => P.readableRec t && decide (t < P.types.size)) = true →
      DataW.TrodAll enc P W 0 (fun _ => true) true ts vs ds ps → DataW.TrodAll enc P W' 0 (fun b => decide (b < W.heap.size)) true ts vs ds ps
  | [], [], [], _, _, h => h
  | t :: ts, v :: vs, d :: ds, ps, hts, ⟨p, q, h, hs, e⟩ => by
    simp only [List.all_cons, Bool.and_eq_true, decide_eq_true_eq] at hts
    have lt : ∀ x ∈ p, x.block < W.heap.size := by obtain ⟨m, hm⟩ := h; exact DataW.trod_lt m _ _ _ hm
    exact ⟨p, q, Below.trod hl hts.1.1 hts.1.2 h hb lt, trodAll_stays hl hb ts vs ds q hts.2 hs, e⟩

/-- THE POST of a law: it returned true, and nothing that was there has turned. -/
theorem post_true {H : Type} {enc : TypeId × Value → H} {P : Program} {f : Func} {s : ChangeSpec} {t : TypeId} (hl : laidOutB P = true) (hres : f.resultTypes = #[t]) (ht : P.underlying t = some .bool)
    (hts : (f.params.toList.all fun t => P.readableRec t && decide (t < P.types.size)) = true) {W W' : World} {args : Array Value} {ds gs : List (DataW H)} {before : List MemPlace} (hv : s.vars = [])
    (hspec : s.fn H (ds ++ gs) = { results := [.lit (.bool true)], args := ds, vars := [] })
    (hW : DataW.Whole enc P f.params.toList s.vars false W args.toList ds gs before) (hb : Below W.heap.size W W') :
    s.post enc P f false true false false W args (.bool true) W' := by
  have hW' := hW
  obtain ⟨p, q, hA, hV, hbe, hfz, hnd⟩ := hW
  refine ⟨ds, gs, before, [], p, [], hW', ?_, ?_, ?_, ?_, fun h => by cases h⟩
  · rw [hspec, hres]; exact trodAll_mk1 (shut_bool ht _)
  · rw [hspec]; exact trodAll_stays hl hb _ _ _ _ hts hA
  · rw [hspec, hv]; rfl
  · have hq : q = [] := by rw [hv] at hV; cases gs with
      | nil => exact hV
      | cons g gs => exact hV.elim
    refine World.keptBut_mono (fun p hp => ⟨hp, ?_⟩) (hb.frame (· ∈ before))
    rw [hbe, hq, List.append_nil] at hp
    exact .inr (.inl hp)

/-- a slice of integers that came in -/
theorem open_row_int {H : Type} {enc : TypeId × Value → H} {P : Program} {W : World} {base : Nat} {t e : TypeId} {k : IntKind} {v : Value} {d : DataW H} {p : List MemPlace} (ht : P.underlying t = some (.slice e)) (he : P.underlying e = some (.int k)) (hc : P.cellsOf e = 1)
    (hok : Value.okWide P W .any base t v) (h : DataW.Trod enc P W 0 (fun _ => true) true t v d p) :
    ∃ (a : Option Addr) (len cap : Nat) (zs : List Int), v = .slice a len cap ∧ len ≤ maxLen ∧ Row W a len (zs.map (Value.int k)) ∧ ∀ z ∈ zs, (Lit.int k z).wf = true := by
  obtain ⟨a, len, cap, rfl⟩ := okWide_slice ht hok
  obtain ⟨fuel, hf⟩ := h
  rcases open_ints ht he hc hf with ⟨hcs, _⟩ | ⟨x, l, c, zs, hcs, _, hl, hm, hz, _, hcell, hwz⟩
  · simp [Value.cells] at hcs
    obtain ⟨rfl, rfl, rfl⟩ := hcs
    exact ⟨none, 0, 0, [], rfl, Nat.zero_le _, ⟨rfl, .inl rfl⟩, by simp⟩
  · simp [Value.cells] at hcs
    obtain ⟨rfl, rfl, rfl⟩ := hcs
    have hz : zs.length = cap := by simpa using hz
    refine ⟨_, len, cap, zs.take len, rfl, Nat.le_trans hl hm, ⟨by simp; omega, ?_⟩, fun z hz => hwz z (List.mem_of_mem_take hz)⟩
    by_cases h0 : len = 0
    · exact .inl h0
    obtain ⟨b, off, spot⟩ := x
    have hc0 := hcell 0 (by omega)
    have hspot : spot = none := by simpa [Addr.add] using World.cell?_spot hc0
    subst hspot
    refine .inr ⟨b, off, rfl, fun i v hv => ?_⟩
    rw [List.getElem?_map, List.getElem?_take] at hv
    by_cases hi : i < len
    · rw [if_pos hi] at hv
      have hi2 : i < zs.length := by omega
      have := hcell i hi2
      rw [List.getElem?_eq_getElem hi2] at hv
      simp only [Option.map_some, Option.some.injEq] at hv
      subst hv
      have ea : (⟨b, off, none⟩ : Addr).add i = ⟨b, off + i, none⟩ := by
        unfold Addr.add
        by_cases h0 : i = 0
        · simp [h0]
        · simp [h0]
      rw [ea] at this
      rw [this]
      simp [hi2]
    · rw [if_neg hi] at hv
      simp at hv

end Go.Proofs.YtfkgmcilaiblfaaGreatDoor

/- The closed facts of a card, one by one: so the kernel gives its memory back between them. No program is named. -/
namespace Go.Proofs.YtfkgmcilaiblfaaGreatDoor
open Go.WideShapes
def jf0 (P : Program) (f : FuncId) (fn : Func) (s : ChangeSpec) (c : OpenClaim) : Bool := c.wf (OpenSpec.ofChange s)
def jf1 (P : Program) (f : FuncId) (fn : Func) (s : ChangeSpec) (c : OpenClaim) : Bool := laidOutB P
def jf2 (P : Program) (f : FuncId) (fn : Func) (s : ChangeSpec) (c : OpenClaim) : Bool := mapsRowed P
def jf3 (P : Program) (f : FuncId) (fn : Func) (s : ChangeSpec) (c : OpenClaim) : Bool := fn.params.all (P.readableRec ·)
def jf4 (P : Program) (f : FuncId) (fn : Func) (s : ChangeSpec) (c : OpenClaim) : Bool := namedTie P c.named s.vars
def jf5 (P : Program) (f : FuncId) (fn : Func) (s : ChangeSpec) (c : OpenClaim) : Bool := (c.stops == [])
def jf6 (P : Program) (f : FuncId) (fn : Func) (s : ChangeSpec) (c : OpenClaim) : Bool := (P.stops == [])
def jf7 (P : Program) (f : FuncId) (fn : Func) (s : ChangeSpec) (c : OpenClaim) : Bool := (c.knobs == [])
def jf8 (P : Program) (f : FuncId) (fn : Func) (s : ChangeSpec) (c : OpenClaim) : Bool := (P.stopKnobs == [])
def jf9 (P : Program) (f : FuncId) (fn : Func) (s : ChangeSpec) (c : OpenClaim) : Bool := (c.inPlace == P.inPlace f)
def jf10 (P : Program) (f : FuncId) (fn : Func) (s : ChangeSpec) (c : OpenClaim) : Bool := (c.unfollowed == P.unfollowed f)
def jf11 (P : Program) (f : FuncId) (fn : Func) (s : ChangeSpec) (c : OpenClaim) : Bool := (c.recurses == P.recurses f)
def jf12 (P : Program) (f : FuncId) (fn : Func) (s : ChangeSpec) (c : OpenClaim) : Bool := (c.named == P.varsNamed f)
def jf13 (P : Program) (f : FuncId) (fn : Func) (s : ChangeSpec) (c : OpenClaim) : Bool := (c.maps == (fn.params.toList ++ s.plain.varTypes P).any (P.mapsRec ·))
def jf14 (P : Program) (f : FuncId) (fn : Func) (s : ChangeSpec) (c : OpenClaim) : Bool := (c.ifaces == (fn.params.toList ++ s.plain.varTypes P).any (P.ifacesRec ·))
def jf15 (P : Program) (f : FuncId) (fn : Func) (s : ChangeSpec) (c : OpenClaim) : Bool := (c.mapsOut == P.mapsAmong fn.resultTypes.toList)
def jf16 (P : Program) (f : FuncId) (fn : Func) (s : ChangeSpec) (c : OpenClaim) : Bool := (c.loops == (fn.params.toList ++ s.plain.varTypes P).any (P.loopsFrom ·))
def jf17 (P : Program) (f : FuncId) (fn : Func) (s : ChangeSpec) (c : OpenClaim) : Bool := (c.wideKeys == (fn.params.toList ++ s.plain.varTypes P ++ fn.resultTypes.toList).any (P.wideKeysFrom ·))
def jf18 (P : Program) (f : FuncId) (fn : Func) (s : ChangeSpec) (c : OpenClaim) : Bool := s.vars.all (P.varReadable ·)
def jf19 (P : Program) (f : FuncId) (fn : Func) (s : ChangeSpec) (c : OpenClaim) : Bool := fn.resultTypes.all (fun t => P.readableRec t && decide (t < P.types.size))
def jf20 (P : Program) (f : FuncId) (fn : Func) (s : ChangeSpec) (c : OpenClaim) : Bool := (c.ifacesOut == fn.resultTypes.toList.any (P.ifacesRec ·))
def jf21 (P : Program) (f : FuncId) (fn : Func) (s : ChangeSpec) (c : OpenClaim) : Bool := (c.loopsOut == fn.resultTypes.toList.any (P.loopsFrom ·))
def jf22 (P : Program) (f : FuncId) (fn : Func) (s : ChangeSpec) (c : OpenClaim) : Bool := (c.plainKeys == P.plainKeys)
def jf23 (P : Program) (f : FuncId) (fn : Func) (s : ChangeSpec) (c : OpenClaim) : Bool := c.shortTexts.isNone
def jf24 (P : Program) (f : FuncId) (fn : Func) (s : ChangeSpec) (c : OpenClaim) : Bool := P.stopsHeard
def jf25 (P : Program) (f : FuncId) (fn : Func) (s : ChangeSpec) (c : OpenClaim) : Bool := P.mayEnter
def jf26 (P : Program) (f : FuncId) (fn : Func) (s : ChangeSpec) (c : OpenClaim) : Bool := (c.lifted == P.liftsFinal)
def jf27 (P : Program) (f : FuncId) (fn : Func) (s : ChangeSpec) (c : OpenClaim) : Bool := (P.make == some c.make)
def jf28 (P : Program) (f : FuncId) (fn : Func) (s : ChangeSpec) (c : OpenClaim) : Bool := (c.kinds == (if c.domain.isEmpty then [] else fn.params.toList.map fun t => match P.underlying t with | some (.int k) => some k | _ => none))
def jf29 (P : Program) (f : FuncId) (fn : Func) (s : ChangeSpec) (c : OpenClaim) : Bool := (c.pinned == c.pinnedBy)
def jf30 (P : Program) (f : FuncId) (fn : Func) (s : ChangeSpec) (c : OpenClaim) : Bool := (c.veiled == (fn.params.toList ++ s.plain.varTypes P ++ fn.resultTypes.toList).any (P.veiledRec ·))
def jf31 (P : Program) (f : FuncId) (fn : Func) (s : ChangeSpec) (c : OpenClaim) : Bool := c.veiledFits P fn.params.toList (fn.params.toList ++ s.plain.varTypes P ++ fn.resultTypes.toList)
theorem joined_of {P : Program} {f : FuncId} {fn : Func} {s : ChangeSpec} {c : OpenClaim} (h0 : jf0 P f fn s c = true) (h1 : jf1 P f fn s c = true) (h2 : jf2 P f fn s c = true) (h3 : jf3 P f fn s c = true) (h4 : jf4 P f fn s c = true) (h5 : jf5 P f fn s c = true) (h6 : jf6 P f fn s c = true) (h7 : jf7 P f fn s c = true) (h8 : jf8 P f fn s c = true) (h9 : jf9 P f fn s c = true) (h10 : jf10 P f fn s c = true) (h11 : jf11 P f fn s c = true) (h12 : jf12 P f fn s c = true) (h13 : jf13 P f fn s c = true) (h14 : jf14 P f fn s c = true) (h15 : jf15 P f fn s c = true) (h16 : jf16 P f fn s c = true) (h17 : jf17 P f fn s c = true) (h18 : jf18 P f fn s c = true) (h19 : jf19 P f fn s c = true) (h20 : jf20 P f fn s c = true) (h21 : jf21 P f fn s c = true) (h22 : jf22 P f fn s c = true) (h23 : jf23 P f fn s c = true) (h24 : jf24 P f fn s c = true) (h25 : jf25 P f fn s c = true) (h26 : jf26 P f fn s c = true) (h27 : jf27 P f fn s c = true) (h28 : jf28 P f fn s c = true) (h29 : jf29 P f fn s c = true) (h30 : jf30 P f fn s c = true) (h31 : jf31 P f fn s c = true) : joinedFacts P f fn s c = true := by
  unfold joinedFacts
  simp only [Bool.and_eq_true]
  exact ⟨⟨⟨⟨⟨⟨⟨⟨⟨⟨⟨⟨⟨⟨⟨⟨⟨⟨⟨⟨⟨⟨⟨⟨⟨⟨⟨⟨⟨⟨⟨h0, h1⟩, h2⟩, h3⟩, h4⟩, h5⟩, h6⟩, h7⟩, h8⟩, h9⟩, h10⟩, h11⟩, h12⟩, h13⟩, h14⟩, h15⟩, h16⟩, h17⟩, h18⟩, h19⟩, h20⟩, h21⟩, h22⟩, h23⟩, h24⟩, h25⟩, h26⟩, h27⟩, h28⟩, h29⟩, h30⟩, h31⟩
end Go.Proofs.YtfkgmcilaiblfaaGreatDoor

/- A card's frame for laws over tables of the library: what the row lists gives the tables. -/
namespace Go.Proofs.YtfkgmcilaiblfaaGreatDoor
open Go.ChangeShapes Go.WideShapes Go.ChangeAt Go.RowKit
abbrev laid3 (rest : List (String × DataW Unit)) : List (String × DataW Unit) := ("math/bits.deBruijn32tab", Rows.laid_math_bits_deBruijn32tab) :: ("math/bits.deBruijn64tab", Rows.laid_math_bits_deBruijn64tab) :: ("internal/strconv.uint64pow10", Rows.laid_internal_strconv_uint64pow10) :: rest
theorem gl_of_laid {W : World} {rest : List (String × DataW Unit)} (h : W.ShapedOpen Tryz.prog) (hn : ((laid3 rest).all fun x => x.2.handleName?.isNone) = true) (hL : laidMetH Tryz.prog (laid3 rest) W) (hI : laidMet Tryz.prog (laid3 rest) W → ∀ k ∈ globI, ∃ tp x t fz, W.heap[k]? = some (.cells #[.iface tp x] t fz)) : Gl (gAll W) := by
  have hm : laidMet Tryz.prog (laid3 rest) W := by
    have := Go.MakeChecks.laidMetH_plain Tryz.prog (laid3 rest) W hn
    rw [← this]; exact hL
  refine ⟨fun p hp => ?_, fun p hp => ?_, hI hm⟩
  · simp only [globs, List.mem_cons, List.not_mem_nil, or_false] at hp
    subst hp
    obtain ⟨m, hm⟩ := cell_of_shapedOpen_int (P := Tryz.prog) (g := 0) (t := 3) (zero := #[.int .i64 0]) h (of_decide_eq_true (by kernel_rfl)) (by kernel_rfl) rfl (by kernel_rfl) (by kernel_rfl) Tryz.underlying3
    obtain ⟨h1, h2⟩ := uAll_lt hm
    exact ⟨h2, h1, m, hm⟩
  · simp only [globK, List.mem_cons, List.not_mem_nil, or_false] at hp
    subst hp
    have hT := Lib.tabIs_of_head (P := Tryz.prog) (W := W) (name := "internal/strconv.uint64pow10") (k := .u64) (zs := Lib.pow10Tab) (g := 1) (t := 229) (e := 199) (n := 20) (by kernel_rfl) (by kernel_rfl) (by kernel_rfl) (by kernel_rfl) (by kernel_rfl) (by kernel_rfl) hm.tail.tail
    have hn : Tryz.prog.globalNamed "internal/strconv.uint64pow10" = some 1 := by kernel_rfl
    unfold Lib.TabIs World.var? at hT
    rw [hn] at hT
    simp only [Option.bind_some] at hT
    show ∃ t fz, W.heap[1]? = _
    cases hh : W.heap[1]? with
    | none => rw [hh] at hT; cases hT
    | some o =>
      rw [hh] at hT
      cases o with
      | cells cs t fz => simp only [Option.some.injEq] at hT; subst hT; exact ⟨t, fz, rfl⟩
      | _ => simp at hT
end Go.Proofs.YtfkgmcilaiblfaaGreatDoor

/- Part 3 of the proof of the law EnvelopeDomainsMatchSpec: what it needs. -/
import Derived.Test.YtfhfjckjmacekaaKEnvelopeDomainsMatchSpec2
import Derived.MapKept
import Derived.Laws.Cover3
import Derived.Test.YtfhfjckjmacekaaProg
import Derived.Test.YtfhfjckjmacekaaRows
import Derived.ProofKit
import Derived.Deep.Slices
import Derived.Lib.IndexMore
/- The abstract calculus: maps, nil slices: rules. No program is named. -/
namespace Go.Proofs.Ytfhfjckjmacekaa
open Go.RowKit Go.Lib

/-! ### maps as lists of pairs, in the order in which keys came up -/
section
variable {K V : Type} [BEq K]
def mget : List (K × V) → K → Option V
  | [], _ => none
  | (k, v) :: r, x => if k == x then some v else mget r x
def mput : List (K × V) → K → V → List (K × V)
  | [], x, y => [(x, y)]
  | (k, v) :: r, x, y => if k == x then (x, y) :: r else (k, v) :: mput r x y
def mdel : List (K × V) → K → List (K × V)
  | [], _ => []
  | (k, v) :: r, x => if k == x then r else (k, v) :: mdel r x
def mpos : List (K × V) → K → Option Nat
  | [], _ => none
  | (k, _) :: r, x => if k == x then some 0 else (mpos r x).map (· + 1)
theorem mget_pos (l : List (K × V)) (x : K) : mget l x = (mpos l x).bind fun i => (l[i]?).map (·.2) := by
  induction l with
  | nil => rfl
  | cons p r ih =>
    obtain ⟨k, v⟩ := p
    unfold mget mpos
    split
    · simp
    · rw [ih]; cases mpos r x <;> simp
theorem mput_pos (l : List (K × V)) (x : K) (y : V) : mput l x y = match mpos l x with | some i => l.set i (x, y) | none => l ++ [(x, y)] := by
  induction l with
  | nil => rfl
  | cons p r ih =>
    obtain ⟨k, v⟩ := p
    unfold mput mpos
    split
    · simp
    · rw [ih]; cases mpos r x <;> simp
theorem mpos_lt {l : List (K × V)} {x : K} {i : Nat} (h : mpos l x = some i) : ∃ p, l[i]? = some p ∧ (p.1 == x) = true := by
  induction l generalizing i with
  | nil => cases h
  | cons p r ih =>
    obtain ⟨k, v⟩ := p
    unfold mpos at h
    split at h
    · rename_i hk; cases h; exact ⟨(k, v), rfl, hk⟩
    · obtain ⟨j, hj, rfl⟩ := Option.map_eq_some_iff.1 h
      obtain ⟨p, hp, hx⟩ := ih hj
      exact ⟨p, by simpa using hp, hx⟩
end

/-- kinds of keys -/
structure KeyK (K : Type) [BEq K] [LawfulBEq K] where
  kd : TypeDesc
  kf : K → Value
  same : ∀ a b : K, Instr.sameNow kd (kf a) (kf b) = some (a == b)
  isk : ∀ a, MapKept.IsKey kd (kf a)
def keyS : KeyK Str where
  kd := .string
  kf s := .string (strB s)
  same a b := by
    simp only [Instr.sameNow, Option.some.injEq]
    rw [Bool.eq_iff_iff, MapKept.bytes_beq]
    simp only [beq_iff_eq]
    constructor
    · intro h
      have := congrArg ByteArray.toList h
      rwa [strB_list, strB_list] at this
    · rintro rfl; rfl
  isk a := trivial
def keyI : KeyK Int where
  kd := .int .i64
  kf n := .int .i64 n
  same a b := by simp [Instr.sameNow]
  isk a := rfl

/-- a value of a map -/
def mvA : Bool → List PV → AV
  | true, cs => .agg (cs.map .pv)
  | false, p :: _ => .pv p
  | false, [] => .any
theorem rel_mvA {g : G} {ag : Bool} {cs : List PV} {v : Value} (h : RelMV g.w g.u ag cs v) : Rel g (mvA ag cs) v := by
  cases ag with
  | true =>
    obtain ⟨vs, rfl, h1, h2⟩ := h
    refine .agg (by simpa using h1) (fun i hi => ?_) (fun i c hi => ?_)
    · have : i < cs.length := by omega
      exact (h2 i _ (List.getElem?_eq_getElem this)).cellV
    · simp only [List.getElem?_map, Option.map_eq_some_iff] at hi
      obtain ⟨c', hc, rfl⟩ := hi
      exact .pv (h2 i c' hc)
  | false =>
    obtain ⟨p, rfl, h1⟩ := h
    exact .pv h1
theorem relMV_of {g : G} {ag : Bool} {cs : List PV} {v : Value} (hne : ag = false → cs.length = 1) (h : Rel g (mvA ag cs) v) : RelMV g.w g.u ag cs v := by
  cases ag with
  | true =>
    cases h with
    | agg h1 h2 h3 =>
      refine ⟨_, rfl, by simpa using h1, fun i c hi => ?_⟩
      have := h3 i (.pv c) (by simp [hi])
      cases this with
      | pv h => exact h
  | false =>
    match cs, hne rfl with
    | [p], _ =>
      cases h with
      | pv h => exact ⟨p, rfl, h⟩
def constPV : Value → PV
  | .slice none 0 0 => .sl none []
  | v => .b v
def zeroMV : Bool → Value → Option (List PV)
  | true, .agg vs => if vs.toList.all (fun v => cellV v) then some (vs.toList.map constPV) else none
  | false, v => if cellV v then some [constPV v] else none
  | _, _ => none
theorem relP_constPV (w : World) (u : Nat → Nat) (v : Value) (h : cellV v = true) : RelP w u (constPV v) v := by
  unfold constPV
  split
  · exact relP_weak (relP_nil w u)
  · exact .b h
theorem relMV_zero {w : World} {u : Nat → Nat} {ag : Bool} {z : Value} {cs : List PV} (h : zeroMV ag z = some cs) : RelMV w u ag cs z := by
  unfold zeroMV at h
  split at h
  · rename_i vs
    split at h
    · rename_i ha
      cases h
      rw [List.all_eq_true] at ha
      refine ⟨_, rfl, by simp, fun i c hi => ?_⟩
      simp only [List.getElem?_map, Option.map_eq_some_iff] at hi
      obtain ⟨v, hv, rfl⟩ := hi
      have : vs.getD i undef = v := by
        rw [Array.getD_eq_getD_getElem?]; simp at hv; simp [hv]
      rw [this]
      exact relP_constPV w u v (ha v (List.mem_of_getElem? hv))
    · cases h
  · split at h
    · rename_i hv
      cases h
      exact ⟨_, rfl, relP_constPV w u _ hv⟩
    · cases h
  · cases h

section
variable {K V : Type} [BEq K] [LawfulBEq K] {KK : KeyK K} {F : V → List PV} {ag : Bool}
abbrev menc (KK : KeyK K) (F : V → List PV) (es : List (K × V)) : List (Value × List PV) := es.map fun p => (KK.kf p.1, F p.2)
theorem findNow_pos {es : List (K × V)} {k : K} : ∀ {ents : List MapEntry} (i : Nat), ents.length = es.length → (∀ (j : Nat) p x, es[j]? = some p → ents[j]? = some x → x.key = KK.kf p.1) →
    Instr.findNow KK.kd (KK.kf k) ents i = some ((mpos es k).bind fun j => (ents[j]?).map fun x => (i + j, x.val)) := by
  induction es with
  | nil => intro ents i hl _; have : ents = [] := List.eq_nil_of_length_eq_zero hl; subst this; rfl
  | cons p r ih =>
    intro ents i hl hk
    obtain ⟨k', v⟩ := p
    match ents, hl with
    | x :: xs, hl =>
      have h0 := hk 0 (k', v) x rfl rfl
      unfold Instr.findNow mpos
      rw [h0, KK.same]
      by_cases hkk : k' = k
      · subst hkk
        simp
      · have e1 : (k == k') = false := by simpa using fun h : k = k' => hkk h.symm
        have e2 : (k' == k) = false := by simpa using hkk
        rw [e1, e2]
        simp only [Bool.false_eq_true, if_false]
        rw [ih (i + 1) (by simpa using hl) (fun j p x hp hx => hk (j + 1) p x (by simpa using hp) (by simpa using hx))]
        cases mpos r k <;> simp [Nat.add_assoc, Nat.add_comm 1]
theorem run_findKey {P : Program} {kt : TypeId} {w : World} {es : List (K × V)} {k : K} {ents : Array MapEntry} (hkt : P.underlying kt = some KK.kd) (hl : ents.size = es.length) (hk : ∀ (j : Nat) p x, es[j]? = some p → ents[j]? = some x → x.key = KK.kf p.1) :
    (Instr.findKey kt (KK.kf k) ents.toList).run P w = .ok ((mpos es k).bind fun j => (ents[j]?).map fun x => (j, x.val)) w := by
  have h := findNow_pos (KK := KK) (es := es) (k := k) (ents := ents.toList) 0 (by simpa using hl) (fun j p x hp hx => hk j p x hp (by simpa using hx))
  refine (MapKept.run_findKey hkt h).trans ?_
  cases mpos es k <;> simp

variable {E : Env} {fr : Fr} {σ : Sto} {P : Program} {ρ : Operand → AV} {t kt e : TypeId} {m x y : Operand} {o size bytes ss sb k' : Nat} {zero sz : Value} {d : TypeDesc} {es : List (K × V)} {k : K} {z v : V}
variable {dst : Option Tmp} {ty : TypeId} {pos : String} {af : Array Edge} {gu : Option (Nat × Bool)}
theorem RelO.map_inv {g : G} (h : RelO g o (.mapo ag (menc KK F es))) : ∃ b clock ents, g.loc o = .map b ∧ g.w.heap[b]? = some (.map ents clock) ∧ g.u b = 0 ∧ ents.size = es.length ∧ (∀ (j : Nat) p x, es[j]? = some p → ents[j]? = some x → x.key = KK.kf p.1) ∧ ∀ (j : Nat) p x, es[j]? = some p → ents[j]? = some x → RelMV g.w g.u ag (F p.2) x.val := by
  generalize hes : menc KK F es = ms at h
  cases h with
  | @mapo _ _ b clock ents h1 h2 h3 h4 h5 =>
    subst hes
    have key : ∀ (j : Nat) p x, es[j]? = some p → ents[j]? = some x → x.key = KK.kf p.1 ∧ RelMV g.w g.u ag (F p.2) x.val := by
      intro j p x hp hx
      obtain ⟨x', e1, e2, e3⟩ := h5 j (KK.kf p.1) (F p.2) (by simp [menc, hp])
      rw [hx] at e1; cases e1
      exact ⟨e2, e3⟩
    exact ⟨b, clock, ents, h1, h2, h3, by simpa [menc] using h4, fun j p x hp hx => (key j p x hp hx).1, fun j p x hp hx => (key j p x hp hx).2⟩
/-- looking a key up -/
theorem run_lookup {g : G} (ok : Bool) (h : RelO g o (.mapo ag (menc KK F es))) {vm : Value} (hm : Rel g (.mp o) vm) (ht : P.underlying t = some (.map kt e)) (hkt : P.underlying kt = some KK.kd) (he : TyOk P e size bytes zero d) (hz : zeroMV ag zero = some (F z)) :
    ∃ v, (Instr.lookup t vm (KK.kf k) ok).run P g.w = .ok (if ok then .tuple #[v, .bool (mget es k).isSome] else v) g.w ∧ RelMV g.w g.u ag (F ((mget es k).getD z)) v := by
  obtain ⟨b, clock, ents, h1, h2, h3, h4, h5, h6⟩ := h.map_inv
  cases hm with
  | mp hl =>
    rw [h1] at hl; cases hl
    have hf := run_findKey (P := P) (w := g.w) (k := k) hkt h4 h5
    have hc := MapKept.run_checkKey (P := P) (w := g.w) hkt (KK.isk k) ents.isEmpty 9999
    rw [mget_pos]
    cases hp : mpos es k with
    | none =>
      rw [hp] at hf
      refine ⟨zero, ?_, relMV_zero (by simpa using hz)⟩
      simp only [Option.bind_none] at hf
      simp [Instr.lookup, run_underlying ht, MapKept.run_getObj_map h2, hc, hf, he.zeroValue, Result.andThen]
    | some i =>
      obtain ⟨p, hp1, hp2⟩ := mpos_lt hp
      have hi : i < ents.size := by rw [h4]; exact (List.getElem?_eq_some_iff.1 hp1).1
      rw [hp] at hf
      refine ⟨ents[i].val, ?_, ?_⟩
      · simp only [Option.bind_some, Array.getElem?_eq_getElem hi, Option.map_some] at hf
        simp [Instr.lookup, run_underlying ht, MapKept.run_getObj_map h2, hc, hf, hp1, Result.andThen]
      · simp only [Option.bind_some, hp1, Option.map_some, Option.getD_some]
        exact h6 i p _ hp1 (Array.getElem?_eq_getElem hi)
theorem ev_lookup (hm : ρ m = .mp o) (ho : σ.get o = some (.mapo ag (menc KK F es))) (hx : ρ x = .pv (.b (KK.kf k))) (ht : P.underlying t = some (.map kt e)) (hkt : P.underlying kt = some KK.kd) (he : TyOk P e size bytes zero d) (hz : zeroMV ag zero = some (F z)) :
    EvQ P ⟨dst, .lookup t m x false, ty, pos, af, gu⟩ ρ σ (mvA ag (F ((mget es k).getD z))) :=
  ⟨fun c => by simp, fun g ρv h hs => by
    obtain ⟨h1, h2⟩ := ops2 (o := ⟨dst, .lookup t m x false, ty, pos, af, gu⟩) (x := m) (y := x) rfl h
    rw [hm] at h1
    rw [hx] at h2
    have e2 := rel_b h2
    obtain ⟨v, hr, hv⟩ := run_lookup (k := k) (z := z) false (hs o _ ho) h1 ht hkt he hz
    refine ⟨v, ?_, rel_mvA hv⟩
    show Sem.run P (do let v ← Instr.lookup t (ρv m) (ρv x) false; pure (Next.value v)) g.w = _
    rw [e2, Sem.run_bind, hr]; rfl⟩
theorem ev_lookupOk (hm : ρ m = .mp o) (ho : σ.get o = some (.mapo ag (menc KK F es))) (hx : ρ x = .pv (.b (KK.kf k))) (ht : P.underlying t = some (.map kt e)) (hkt : P.underlying kt = some KK.kd) (he : TyOk P e size bytes zero d) (hz : zeroMV ag zero = some (F z)) :
    EvQ P ⟨dst, .lookup t m x true, ty, pos, af, gu⟩ ρ σ (.tup [mvA ag (F ((mget es k).getD z)), .bo (mget es k).isSome]) :=
  ⟨fun c => by simp, fun g ρv h hs => by
    obtain ⟨h1, h2⟩ := ops2 (o := ⟨dst, .lookup t m x true, ty, pos, af, gu⟩) (x := m) (y := x) rfl h
    rw [hm] at h1
    rw [hx] at h2
    have e2 := rel_b h2
    obtain ⟨v, hr, hv⟩ := run_lookup (k := k) (z := z) true (hs o _ ho) h1 ht hkt he hz
    refine ⟨.tuple #[v, .bool (mget es k).isSome], ?_, .tup rfl fun i c hi => ?_⟩
    · show Sem.run P (do let v ← Instr.lookup t (ρv m) (ρv x) true; pure (Next.value v)) g.w = _
      rw [e2, Sem.run_bind, hr]; rfl
    · match i, hi with
      | 0, rfl => exact rel_mvA hv
      | 1, rfl => exact .pv (.b rfl)⟩
/-- a new map -/
theorem opTo_makeMap {k0 : Nat} (id : Nat) (ag : Bool) (hN : Nat.ble (k0 + 1) E.N = true) (hf : fr.has id = false) (hs : σ.has id = false) :
    OpTo E ⟨some k0, .makeMap t none, ty, pos, af, gu⟩ fr σ ((k0, .mp id) :: fr) ((id, .mapo ag []) :: σ) :=
  ⟨fun g a K Q hst hK => by
    refine ⟨fun _ _ => trivial, ?_⟩
    rw [Oper.semAt_plain _ _ _ (fun c => by simp)]
    have hr : (execOp a.eval ⟨some k0, .makeMap t none, ty, pos, af, gu⟩).run E.P g.w = .ok (.value (.map (some g.w.heap.size))) (g.w.alloc (.map #[] 0)) := rfl
    rw [hr, Oper.uponIn_value]
    have hx : Ext g.w g.u (g.w.alloc (.map #[] 0)) g.u := ⟨by simp, fun _ _ => Nat.le_refl _, fun k i hk _ => by
      simp only [World.cell?]
      rw [(MapKept.heap_alloc g.w _).2 k hk], fun r' hr' => ((MapKept.heap_alloc g.w _).2 r' (blk_lt hr')).trans hr'⟩
    have hu0 : g.u g.w.heap.size = 0 := hst.so.wf _ (Nat.le_refl _)
    have hst' := hst.addObj (g' := ⟨g.w.alloc (.map #[] 0), g.u, fun q => if q = id then .map g.w.heap.size else g.loc q⟩) id (ob := .mapo ag []) hf hs
      ⟨rfl, rfl, rfl, hx, fun k hk _ => ⟨(MapKept.heap_alloc g.w _).2 k hk, rfl⟩⟩ (wf_same hst.so.wf hx.size _) (fun q hq => if_neg hq)
      (.mapo (if_pos rfl) (MapKept.heap_alloc g.w _).1 hu0 rfl (fun i k c hi => by simp at hi)) (fun b hb => by
        simp only [AO.blk, if_true, Loc.block] at hb
        cases hb; exact Nat.le_refl _)
    exact hK _ _ (hst'.put (Nat.le_of_ble_eq_true hN) (.mp (if_pos rfl)))⟩
/-- an entry is written -/
theorem opTo_mapUpdate (hm : fr.ev m = .mp o) (ho : σ.get o = some (.mapo ag (menc KK F es))) (hx : fr.ev x = .pv (.b (KK.kf k))) (hy : (fr.ev y).weak = mvA ag (F v)) (hne : ag || Nat.beq (F v).length 1) (ht : E.P.underlying t = some (.map kt e)) (hkt : E.P.underlying kt = some KK.kd) :
    OpTo E ⟨none, .mapUpdate t m x y, ty, pos, af, gu⟩ fr σ fr (σ.upd o (.mapo ag (menc KK F (mput es k v)))) :=
  ⟨fun g a K Q hst hK => by
    refine ⟨fun _ _ => trivial, ?_⟩
    rw [Oper.semAt_plain _ _ _ (fun c => by simp)]
    have h1 := hst.ev m
    have h2 := hst.ev x
    have h3 := rel_weak (hst.ev y)
    rw [hm] at h1
    rw [hx] at h2
    rw [hy] at h3
    have e2 := rel_b h2
    have h3 := relMV_of (fun hag => by rw [hag] at hne; exact Nat.eq_of_beq_eq_true hne) h3
    obtain ⟨b, clock, ents, i1, i2, i3, i4, i5, i6⟩ := (hst.so.obj o _ ho).map_inv
    generalize hvm : a.eval m = vm at h1
    cases h1 with
    | mp hl =>
      rw [i1] at hl; cases hl
      have hf := run_findKey (P := E.P) (w := g.w) (k := k) hkt i4 i5
      have hc := MapKept.run_checkKey (P := E.P) (w := g.w) hkt (KK.isk k) false 9999
      have hgo : ∀ ents' clock', ents'.size = (mput es k v).length → (∀ (j : Nat) p x, (mput es k v)[j]? = some p → ents'[j]? = some x → x.key = KK.kf p.1 ∧ RelMV g.w g.u ag (F p.2) x.val) →
          (execOp a.eval ⟨none, .mapUpdate t m x y, ty, pos, af, gu⟩).run E.P g.w = .ok .skip { g.w with heap := g.w.heap.setIfInBounds b (.map ents' clock') } → 
          Oper.uponIn (fen E.rd) 0 E.P ⟨none, .mapUpdate t m x y, ty, pos, af, gu⟩ a K Q ((execOp a.eval ⟨none, .mapUpdate t m x y, ty, pos, af, gu⟩).run E.P g.w) := by
        intro ents' clock' hsz hrel hrun
        rw [hrun, Oper.uponIn_skip]
        have hset := MapKept.heap_set (o' := .map ents' clock') i2
        have hsize : (g.w.heap.setIfInBounds b (.map ents' clock')).size = g.w.heap.size := by simp
        have hxx : Ext g.w g.u { g.w with heap := g.w.heap.setIfInBounds b (.map ents' clock') } g.u := ⟨Nat.le_of_eq hsize.symm, fun _ _ => Nat.le_refl _, fun q i hq hi => by
          by_cases hqb : q = b
          · subst hqb; omega
          · simp only [World.cell?]; rw [hset.2 q hqb], fun r' hr' => (hset.2 r' (by rintro rfl; rw [i2] at hr'; cases hr')).trans hr'⟩
        refine hK ⟨{ g.w with heap := g.w.heap.setIfInBounds b (.map ents' clock') }, g.u, g.loc⟩ _ (St.put_none (hst.objset ho hxx rfl rfl rfl rfl (fun q hq hn => ⟨hset.2 q (by rintro rfl; exact hn (by simp [AO.blk, i1, Loc.block])), rfl⟩) (wf_same hst.so.wf (Nat.le_of_eq hsize.symm) _) ?_ (fun _ => rfl)))
        refine .mapo i1 hset.1 i3 (by simpa [menc] using hsz) (fun j k' c hj => ?_)
        simp only [menc, List.getElem?_map, Option.map_eq_some_iff, Prod.mk.injEq] at hj
        obtain ⟨p, hp, rfl, rfl⟩ := hj
        have hlt : j < ents'.size := by rw [hsz]; exact (List.getElem?_eq_some_iff.1 hp).1
        obtain ⟨r1, r2⟩ := hrel j p _ hp (Array.getElem?_eq_getElem hlt)
        exact ⟨_, Array.getElem?_eq_getElem hlt, r1, r2.mono hxx⟩
      have hshow : (execOp a.eval ⟨none, .mapUpdate t m x y, ty, pos, af, gu⟩).run E.P g.w = Sem.run E.P (do Instr.mapUpdate t (.map (some b)) (KK.kf k) (a.eval y); pure Next.skip) g.w := by
        show Sem.run E.P (do Instr.mapUpdate t (a.eval m) (a.eval x) (a.eval y); pure Next.skip) g.w = _
        rw [hvm, e2]
      cases hp : mpos es k with
      | none =>
        rw [hp] at hf
        simp only [Option.bind_none] at hf
        have hmp : mput es k v = es ++ [(k, v)] := by rw [mput_pos, hp]
        refine hgo (ents.push ⟨KK.kf k, a.eval y, clock⟩) (clock + 1) (by rw [hmp]; simp [i4]) (fun j p x hj hx' => ?_) ?_
        · rw [hmp] at hj
          rcases Nat.lt_or_ge j es.length with h4 | h4
          · rw [List.getElem?_append_left h4] at hj
            rw [Array.getElem?_push_lt (by omega)] at hx'
            have hx2 : ents[j]? = some x := by rw [Array.getElem?_eq_getElem (by omega)]; exact hx'
            exact ⟨i5 j p x hj hx2, i6 j p x hj hx2⟩
          · have hj2 : j = es.length := by
              have := (List.getElem?_eq_some_iff.1 hj).1
              simp at this; omega
            subst hj2
            simp at hj
            subst hj
            rw [← i4] at hx'
            simp at hx'
            subst hx'
            exact ⟨rfl, h3⟩
        · rw [hshow]
          simp [Instr.mapUpdate, run_underlying ht, MapKept.run_getObj_map i2, hc, hf, MapKept.run_setObj_map _ i2, Result.andThen]
      | some i =>
        obtain ⟨p0, hp1, hp2⟩ := mpos_lt hp
        have hi : i < ents.size := by rw [i4]; exact (List.getElem?_eq_some_iff.1 hp1).1
        rw [hp] at hf
        simp only [Option.bind_some, Array.getElem?_eq_getElem hi, Option.map_some] at hf
        have hmp : mput es k v = es.set i (k, v) := by rw [mput_pos, hp]
        have hkk : ents[i].key = KK.kf k := by
          rw [i5 i p0 _ hp1 (Array.getElem?_eq_getElem hi)]
          rw [show p0.1 = k by simpa using hp2]
        refine hgo (ents.modify i fun e => { e with key := KK.kf k, val := a.eval y }) clock (by rw [hmp]; simp [i4]) (fun j p x hj hx' => ?_) ?_
        · rw [hmp] at hj
          rw [Array.getElem?_modify] at hx'
          by_cases hij : i = j
          · subst hij
            rw [List.getElem?_set_self (by rw [← i4]; exact hi)] at hj
            cases hj
            rw [if_pos rfl, Array.getElem?_eq_getElem hi] at hx'
            cases hx'
            exact ⟨rfl, h3⟩
          · rw [List.getElem?_set_ne hij] at hj
            rw [if_neg hij] at hx'
            exact ⟨i5 j p x hj hx', i6 j p x hj hx'⟩
        · rw [hshow]
          simp [Instr.mapUpdate, run_underlying ht, MapKept.run_getObj_map i2, hc, hf, hi, hkk, MapKept.run_keyThatStays (KK.isk k), MapKept.run_setObj_map _ i2, Result.andThen]⟩
theorem ev_mlen (hm : ρ m = .mp o) (ho : σ.get o = some (.mapo ag (menc KK F es))) (ht : P.underlying t = some (.map kt e)) : EvQ P ⟨dst, .call ⟨.builtin .len, #[m], #[t]⟩, ty, pos, af, gu⟩ ρ σ (.i es.length) :=
  ⟨fun c => by simp, fun g ρv h hs => by
    have h1 := h m (by simp [Op.operands, Call.operands])
    rw [hm] at h1
    obtain ⟨b, clock, ents, i1, i2, i3, i4, i5, i6⟩ := (hs o _ ho).map_inv
    generalize hvm : ρv m = vm at h1
    cases h1 with
    | mp hl =>
      rw [i1] at hl; cases hl
      refine ⟨.int .i64 es.length, ?_, .pv (.b rfl)⟩
      simp [execOp, resolve, invoke, builtin, Builtin.len_, hvm, run_underlying ht, goInt, MapKept.run_getObj_map i2, i4, Result.andThen]⟩
end

/-! ### is a slice nil? -/
section
variable {P : Program} {ρ : Operand → AV} {σ : Sto} {t t' e : TypeId} {x : Operand} {α : Type} {F : α → List PV} {l : List α} {dst : Option Tmp} {ty : TypeId} {pos : String} {af : Array Edge} {gu : Option (Nat × Bool)} {ss sb : Nat} {sz : Value}
/-- a slice that is not empty is not nil -/
def notNil {α : Type} (l : List α) : Option Bool := if l.isEmpty then none else some true
theorem notNil_spec {α : Type} {l : List α} {b : Bool} (h : notNil l = some b) : l ≠ [] ∧ b = true := by
  unfold notNil at h
  split at h
  · cases h
  · rename_i hl; cases h; exact ⟨by simpa using hl, rfl⟩
theorem val_notNil {g : G} {v : Value} (h : Rel g (.l F l) v) (hl : l ≠ []) : ∃ a n c, v = .slice (some a) n c := by
  cases h with
  | pv h =>
    obtain ⟨a', cap', size', b, off, val, hv, _, hc, _, ha, _⟩ := relP_sl_inv h
    have := ha (by simpa using hl)
    subst this
    exact ⟨_, _, _, hv⟩
theorem run_nilcmp {ρv : Operand → Value} {w : World} {a : Option Addr} {n c : Nat} (ne : Bool) (hx : ρv x = .slice a n c) (hy : ρv (.const (.slice none 0 0)) = .slice none 0 0) (ht : TyOk P t ss sb sz (.slice e)) :
    (execOp ρv ⟨dst, .binOp (if ne then .neq else .eql) t x (.const (.slice none 0 0)) t', ty, pos, af, gu⟩).run P w = .ok (.value (.bool (if ne then !a.isNone else a.isNone))) w := by
  cases ne <;> simp [execOp, hx, hy, go_sem, eqGuard, binOp, run_equal_slice_nil w t e a n c ht.u]
theorem ev_nilcmp (ne : Bool) {c : AV} {q : Bool} (hx : ρ x = c) (hc : ∀ g v, Rel g c v → ∃ a n k, v = .slice a n k ∧ a.isNone = q) (hy : ρ (.const (.slice none 0 0)) = .pv (.sl (some true) [])) (ht : TyOk P t ss sb sz (.slice e)) :
    EvQ P ⟨dst, .binOp (if ne then .neq else .eql) t x (.const (.slice none 0 0)) t', ty, pos, af, gu⟩ ρ σ (.bo (if ne then !q else q)) :=
  ⟨fun c => by simp, fun g ρv h hs => by
    obtain ⟨h1, h2⟩ := ops2 (o := ⟨dst, .binOp (if ne then .neq else .eql) t x (.const (.slice none 0 0)) t', ty, pos, af, gu⟩) (x := x) (y := .const (.slice none 0 0)) rfl h
    rw [hx] at h1
    rw [hy] at h2
    have e2 := rel_nil h2
    obtain ⟨a, n, k, e1, rfl⟩ := hc g _ h1
    exact ⟨_, run_nilcmp ne e1 e2 ht, .pv (.b rfl)⟩⟩
theorem ev_isnil (hx : ρ x = .pv (.sl (some true) [])) (hy : ρ (.const (.slice none 0 0)) = .pv (.sl (some true) [])) (ht : TyOk P t ss sb sz (.slice e)) : EvQ P ⟨dst, .binOp .eql t x (.const (.slice none 0 0)) t', ty, pos, af, gu⟩ ρ σ (.bo true) :=
  ev_nilcmp false hx (fun g v h => ⟨none, 0, 0, rel_nil h, rfl⟩) hy ht
theorem ev_nenil (hx : ρ x = .pv (.sl (some true) [])) (hy : ρ (.const (.slice none 0 0)) = .pv (.sl (some true) [])) (ht : TyOk P t ss sb sz (.slice e)) : EvQ P ⟨dst, .binOp .neq t x (.const (.slice none 0 0)) t', ty, pos, af, gu⟩ ρ σ (.bo false) :=
  ev_nilcmp true hx (fun g v h => ⟨none, 0, 0, rel_nil h, rfl⟩) hy ht
theorem ev_isnil_no {b : Bool} (hx : ρ x = .l F l) (hy : ρ (.const (.slice none 0 0)) = .pv (.sl (some true) [])) (ht : TyOk P t ss sb sz (.slice e)) (hl : notNil l = some b) : EvQ P ⟨dst, .binOp .eql t x (.const (.slice none 0 0)) t', ty, pos, af, gu⟩ ρ σ (.bo false) :=
  ev_nilcmp false hx (fun g v h => by obtain ⟨a, n, c, e⟩ := val_notNil h (notNil_spec hl).1; exact ⟨some a, n, c, e, rfl⟩) hy ht
theorem ev_nenil_no {b : Bool} (hx : ρ x = .l F l) (hy : ρ (.const (.slice none 0 0)) = .pv (.sl (some true) [])) (ht : TyOk P t ss sb sz (.slice e)) (hl : notNil l = some b) : EvQ P ⟨dst, .binOp .neq t x (.const (.slice none 0 0)) t', ty, pos, af, gu⟩ ρ σ (.bo true) :=
  ev_nilcmp true hx (fun g v h => by obtain ⟨a, n, c, e⟩ := val_notNil h (notNil_spec hl).1; exact ⟨some a, n, c, e, rfl⟩) hy ht
end

/-- a case distinction on what a map holds -/
def optElim {α β : Type} (o : Option α) (f : α → β) (b : β) : β := match o with | some v => f v | none => b
theorem opt_some {α β : Type} {o : Option α} {v : α} {f : α → β} {b x : β} (h : o = some v) (hr : optElim o f b = x) : f v = x := by subst h; exact hr
theorem opt_none {α β : Type} {o : Option α} {f : α → β} {b x : β} (h : o = none) (hr : optElim o f b = x) : b = x := by subst h; exact hr
theorem opt_split {α : Type} {G : Prop} (o : Option α) (h1 : ∀ v, o = some v → G) (h2 : o = none → G) : G := by
  cases h : o with
  | none => exact h2 h
  | some v => exact h1 v h
section
variable {K V : Type} [BEq K] [LawfulBEq K] {KK : KeyK K} {F : V → List PV} {ag : Bool} {P : Program} {ρ : Operand → AV} {σ : Sto} {t kt e : TypeId} {m x : Operand} {o size bytes : Nat} {zero : Value} {d : TypeDesc} {es : List (K × V)} {k : K} {z v : V}
variable {dst : Option Tmp} {ty : TypeId} {pos : String} {af : Array Edge} {gu : Option (Nat × Bool)}
theorem ev_lookup_some (hm : ρ m = .mp o) (ho : σ.get o = some (.mapo ag (menc KK F es))) (hx : ρ x = .pv (.b (KK.kf k))) (ht : P.underlying t = some (.map kt e)) (hkt : P.underlying kt = some KK.kd) (he : TyOk P e size bytes zero d) (hz : zeroMV ag zero = some (F z)) (hg : mget es k = some v) :
    EvQ P ⟨dst, .lookup t m x false, ty, pos, af, gu⟩ ρ σ (mvA ag (F v)) := by
  have := ev_lookup (dst := dst) (ty := ty) (pos := pos) (af := af) (gu := gu) hm ho hx ht hkt he hz
  rw [hg] at this; exact this
theorem ev_lookup_none (hm : ρ m = .mp o) (ho : σ.get o = some (.mapo ag (menc KK F es))) (hx : ρ x = .pv (.b (KK.kf k))) (ht : P.underlying t = some (.map kt e)) (hkt : P.underlying kt = some KK.kd) (he : TyOk P e size bytes zero d) (hg : mget es k = none) :
    EvQ P ⟨dst, .lookup t m x false, ty, pos, af, gu⟩ ρ σ (constAV zero) :=
  ⟨fun c => by simp, fun g ρv h hs => by
    obtain ⟨h1, h2⟩ := ops2 (o := ⟨dst, .lookup t m x false, ty, pos, af, gu⟩) (x := m) (y := x) rfl h
    rw [hm] at h1
    rw [hx] at h2
    have e2 := rel_b h2
    obtain ⟨b, clock, ents, i1, i2, i3, i4, i5, i6⟩ := (hs o _ ho).map_inv
    generalize hvm : ρv m = vm at h1
    cases h1 with
    | mp hl =>
      rw [i1] at hl; cases hl
      have hf := run_findKey (P := P) (w := g.w) (k := k) hkt i4 i5
      have hc := MapKept.run_checkKey (P := P) (w := g.w) hkt (KK.isk k) ents.isEmpty 9999
      have hp : mpos es k = none := by
        rw [mget_pos] at hg
        cases hp : mpos es k with
        | none => rfl
        | some i =>
          obtain ⟨p, hp1, _⟩ := mpos_lt hp
          rw [hp] at hg; simp [hp1] at hg
      rw [hp] at hf
      simp only [Option.bind_none] at hf
      refine ⟨zero, ?_, rel_const g zero⟩
      show Sem.run P (do let v ← Instr.lookup t (ρv m) (ρv x) false; pure (Next.value v)) g.w = _
      rw [hvm, e2]
      simp [Instr.lookup, run_underlying ht, MapKept.run_getObj_map i2, hc, hf, he.zeroValue, Result.andThen]⟩
end
end Go.Proofs.Ytfhfjckjmacekaa

/- The abstract calculus: parts of owned rows that are only looked at, clear, copies: rules. No program is named. -/
namespace Go.Proofs.Ytfhfjckjmacekaa
open Go.RowKit Go.Lib

variable {E : Env} {fr : Fr} {σ : Sto} {K : Post} {P : Program} {ρ : Operand → AV}
variable {dst : Option Tmp} {ty : TypeId} {pos : String} {af : Array Edge} {gu : Option (Nat × Bool)}
section
variable {α : Type} {F : α → List PV} {l xs r' : List α} {r size bytes sb ss k lim : Nat} {e t : TypeId} {mu : Bool} {zero sz : Value} {d : TypeDesc} {x y : Operand} {nl : Option Bool}

/-- row[lo:], the row as it was -/
theorem ev_hsub {p : Int} {k1 : IntKind} {v : List α} (hx : ρ x = .hs r 0) (hr : σ.get r = some (.row e mu size (l.map F))) (hy : ρ y = .pv (.b (.int k1 p)))
    (ht : TyOk P t ss sb sz (.slice e)) (he : TyOk P e size bytes zero d) (hv : cut l p l.length = some v) : EvQ P ⟨dst, .slice t x (some y) none none, ty, pos, af, gu⟩ ρ σ (.hsub r p.toNat) :=
  ⟨fun c => by simp, fun g ρv hh hs => by
    have h1 := hh x (by simp [Op.operands])
    have h2 := hh y (by simp [Op.operands])
    rw [hx] at h1
    rw [hy] at h2
    have e2 := rel_b h2
    obtain ⟨h0, h01, h02, _⟩ := cut_spec hv
    obtain ⟨old, ho1, ev, ho3⟩ := (hs r _ hr).old h1
    obtain ⟨a0, old⟩ := old
    have hrun : ∀ ad cap, ρv x = .slice ad l.length cap → l.length ≤ cap → (execOp ρv ⟨dst, .slice t x (some y) none none, ty, pos, af, gu⟩).run P g.w =
        .ok (.value (.slice (if cap = p.toNat then ad else ad.map (·.add (p.toNat * size))) (l.length - p.toNat) (cap - p.toNat))) g.w := by
      intro ad cap ev hcap
      show Sem.run P (do let v ← Instr.sliceAt t (ρv x) ((some y).map ρv) (Option.map ρv none) none; pure (Next.value v)) g.w = _
      have hb := run_sliceBounds (P := P) (w := g.w) (len := l.length) (cap := cap) (lo := (some y).map ρv) (hi := Option.map ρv none) (a := p) (b := l.length) hcap (.inr ⟨k1, by simp [e2]⟩) (.inl ⟨rfl, rfl⟩) h0 h01 (Int.le_refl _)
      rw [ev]
      simp only [Instr.sliceAt, underlying, program, Sem.run_bind, Sem.run, ht.u, Result.andThen_ok, Sem.run_pure, Instr.slice, hb, he.sizeOf, Int.toNat_natCast]
    cases old with
    | none =>
      obtain ⟨hl, rfl⟩ := ho3
      have hp : p.toNat = 0 := by simp at h01; omega
      refine ⟨_, hrun a0 0 ev (by simp), ?_⟩
      rw [hp]; simp only [if_true, Nat.sub_zero, List.length_nil]
      exact .hsubNil _ hl
    | some o =>
      obtain ⟨b, off, cap, cur⟩ := o
      obtain ⟨hb, hcs, hnc, hcm, ad, rfl, had⟩ := ho1
      refine ⟨_, hrun (some ad) cap ev hnc, ?_⟩
      split
      · exact .hsub ho3.1 (by omega) (fun hc => by omega)
      · refine .hsub ho3.1 (by omega) (fun hc => ?_)
        rw [had (by omega)]; show Addr.add _ _ = _; rw [addr_add, Nat.add_mul]⟩
def clr0 (l : List α) (i : Nat) (z : α) : List α := l.take i ++ List.replicate (l.length - i) z
theorem clr0_len (l : List α) (i : Nat) (z : α) (h : i ≤ l.length) : (clr0 l i z).length = l.length := by simp [clr0]; omega
theorem zeroCells_get {z : Array Value} {n q : Nat} (h : q < n * z.size) : (Builtin.zeroCells z n).toList[q]? = z.toList[q % z.size]? := by
  have hz : 0 < z.size := by
    rcases Nat.eq_zero_or_pos z.size with h0 | h0
    · rw [h0] at h; simp at h
    · exact h0
  have hm : q % z.size < z.size := Nat.mod_lt _ hz
  simp [Builtin.zeroCells, h, hm]
/-- clear of the end of a row -/
theorem opTo_clear {lo : Nat} {z : α} (hx : fr.ev x = .hsub r lo) (hr : σ.get r = some (.row e true size (l.map F))) (ht : TyOk E.P t ss sb sz (.slice e)) (he : TyOk E.P e size bytes zero d) (hzz : (Nat.beq zero.cells.size size && Nat.ble 1 size && zero.cells.toList.all cellV) = true)
    (hz : zero.cells.toList.map constPV = F z) :
    OpTo E ⟨none, .call ⟨.builtin .clear, #[x], #[t]⟩, ty, pos, af, gu⟩ fr σ fr (σ.upd r (.row e true size ((clr0 l lo z).map F))) :=
  ⟨fun g a K Q hst hK => by
    simp only [Bool.and_eq_true] at hzz
    have hz1 := Nat.eq_of_beq_eq_true hzz.1.1
    have hz2 := Nat.le_of_ble_eq_true hzz.1.2
    have hz3 := hzz.2
    rw [List.all_eq_true] at hz3
    refine ⟨fun _ _ => trivial, ?_⟩
    rw [Oper.semAt_plain _ _ _ (fun c => by simp)]
    have h1 := hst.ev x
    rw [hx] at h1
    generalize hev : a.eval x = vx at h1
    have hexec : ∀ w', (Builtin.clear_ #[t] ty #[vx]).run E.P g.w = .ok (.tuple #[]) w' → (execOp a.eval ⟨none, .call ⟨.builtin .clear, #[x], #[t]⟩, ty, pos, af, gu⟩).run E.P g.w = .ok (.value (.tuple #[])) w' := by
      intro w' hc
      simp [execOp, resolve, invoke, builtin, hev, hc]
    have hob := hst.so.obj r _ hr
    generalize hls : l.map F = ls at hob
    cases hob with
    | nil hl =>
      obtain rfl : l = [] := by simpa using hls
      cases h1 with
      | hsub h2 => rw [hl] at h2; cases h2
      | hsubNil ax =>
        rw [hexec g.w (by cases ax <;> simp [Builtin.clear_, run_underlying ht.u]), Oper.uponIn_value]
        have := hst.objset (ob := .row e true size ((clr0 ([] : List α) lo z).map F)) hr (Ext.refl _ _) rfl rfl rfl rfl (fun _ _ _ => ⟨rfl, rfl⟩) hst.so.wf (by simp [clr0]; exact .nil hl) (fun _ => rfl)
        exact hK g _ (St.put_none this)
    | @row _ _ _ _ b off cap cur hl hb hn hm hle hzl hu hmu hrel =>
      subst hls
      simp only [List.length_map] at hl hle hu
      cases h1 with
      | hsubNil ax h2 => rw [hl] at h2; cases h2
      | @hsub _ _ _ _ _ _ _ ad h2 hlo ha =>
        rw [hl] at h2
        cases h2
        have hu0 := hmu rfl
        by_cases hz0 : l.length - lo = 0
        · have hcl : clr0 l lo z = l := by unfold clr0; rw [hz0, List.take_of_length_le (by omega)]; simp
          rw [hcl] at hK
          rw [hexec g.w (by rw [hz0]; simp [Builtin.clear_, run_underlying ht.u]), Oper.uponIn_value]
          have := hst.objset (ob := .row e true size (l.map F)) hr (Ext.refl _ _) rfl rfl rfl rfl (fun _ _ _ => ⟨rfl, rfl⟩) hst.so.wf (hst.so.obj r _ hr) (fun _ => rfl)
          exact hK g _ (St.put_none this)
        · have had := ha (by omega)
          subst had
          generalize hzs : (Builtin.zeroCells zero.cells (l.length - lo)).toList = zs
          have hzlen : zs.length = (l.length - lo) * size := by rw [← hzs, Array.length_toList, size_zeroCells, hz1]
          have hzget : ∀ q, q < (l.length - lo) * size → zs[q]? = zero.cells.toList[q % size]? := by
            intro q hq
            rw [← hzs, zeroCells_get (by rw [hz1]; exact hq), hz1]
          have hone : ∀ u ∈ zs, u.oneCell' = true := by
            intro u hu'
            obtain ⟨q, hq⟩ := List.getElem?_of_mem hu'
            rw [hzget q (by rw [← hzlen]; exact (List.getElem?_eq_some_iff.1 hq).1)] at hq
            have := hz3 u (List.mem_of_getElem? hq)
            cases u <;> first | rfl | simp [cellV] at this
          generalize hp : (off + lo) * size = p at *
          have hfit : p + zs.length ≤ cur.size := by
            rw [hzlen, ← hp, hn, ← Nat.add_mul]; exact Nat.mul_le_mul_right _ (by omega)
          have hs := run_storeCells_at (P := E.P) b p e zs 0 cur g.w hb (by simpa using hfit) hone
          simp only [Nat.add_zero] at hs
          generalize hcs : (cur.toList.take p ++ zs ++ cur.toList.drop (p + zs.length)) = cells at hs
          have hrun : (Builtin.clear_ #[t] ty #[.slice (some ⟨b, p, none⟩) (l.length - lo) (cap - lo)]).run E.P g.w = .ok (.tuple #[]) (g.w.setRow b cells.toArray) := by
            obtain ⟨m, hm'⟩ : ∃ m, l.length - lo = m + 1 := ⟨l.length - lo - 1, by omega⟩
            rw [hm'] at hzs ⊢
            simp [Builtin.clear_, run_underlying ht.u, he.zeroValue, hzs, hs]
          rw [hexec _ hrun, Oper.uponIn_value]
          have hclen : cells.length = cur.size := by rw [← hcs]; simp; omega
          have hget : ∀ q, q < cur.size → cells[q]? = if p ≤ q ∧ q < p + zs.length then zs[q - p]? else cur.toList[q]? := by
            intro q hq
            rw [← hcs, List.append_assoc]
            rcases Nat.lt_or_ge q p with h2 | h2
            · rw [if_neg (by omega), List.getElem?_append_left (by simp; omega), List.getElem?_take_of_lt h2]
            · rw [List.getElem?_append_right (by simp; omega)]
              simp only [List.length_take, Array.length_toList, show min p cur.size = p by omega]
              rcases Nat.lt_or_ge q (p + zs.length) with h3 | h3
              · rw [if_pos ⟨h2, h3⟩, List.getElem?_append_left (by omega)]
              · rw [if_neg (by omega), List.getElem?_append_right (by omega), List.getElem?_drop]
                congr 1
                omega
          have hheap : ∀ k, k ≠ b → (g.w.setRow b cells.toArray).heap[k]? = g.w.heap[k]? := fun k hk => by
            simp only [World.setRow, Array.getElem?_modify]; rw [if_neg (Ne.symm hk)]
          have hnewb := setRow_heap g.w b cur cells.toArray e _ hb
          have hsz : (g.w.setRow b cells.toArray).heap.size = g.w.heap.size := by simp [World.setRow]
          have hxx : Ext g.w g.u (g.w.setRow b cells.toArray) g.u := ⟨Nat.le_of_eq hsz.symm, fun _ _ => Nat.le_refl _, fun k i hk hi => by
            by_cases hkb : k = b
            · subst hkb; omega
            · simp only [World.cell?]; rw [hheap k hkb], fun r' hr' => (hheap r' (by rintro rfl; rw [hb] at hr'; cases hr')).trans hr'⟩
          have hst' := hst.objset (g' := ⟨g.w.setRow b cells.toArray, g.u, g.loc⟩) (ob := .row e true size ((clr0 l lo z).map F)) hr hxx rfl rfl rfl rfl (fun k hk hne => ⟨hheap k (by rintro rfl; exact hne (by rw [hl]; rfl)), rfl⟩) (wf_same hst.so.wf (Nat.le_of_eq hsz.symm) _) ?_ (fun _ => rfl)
          · exact hK _ _ (St.put_none hst')
          have hFz : (F z).length = size := by rw [← hz]; simp [hz1]
          have hmem : ∀ w ∈ clr0 l lo z, (F w).length = size := by
            intro w hw
            rcases List.mem_append.1 hw with h2 | h2
            · exact hzl _ (List.mem_map_of_mem (List.mem_of_mem_take h2))
            · rw [List.mem_replicate] at h2; rw [h2.2]; exact hFz
          have hlen2 := clr0_len l lo z hlo
          refine .row (off := off) (by rw [List.length_map, hlen2]; exact hl) hnewb (by simp [hclen, hn]) hm (by rw [List.length_map, hlen2]; exact hle) (fun y' hy' => by obtain ⟨w, hw, rfl⟩ := List.mem_map.1 hy'; exact hmem w hw) (by show g.u b ≤ _; rw [hu0]; exact Nat.zero_le _) (fun _ => hu0) (fun i j w' c hi hj => ?_)
          simp only [List.getElem?_map, Option.map_eq_some_iff] at hi
          obtain ⟨w, hw, rfl⟩ := hi
          have hil : i < l.length := by have := (List.getElem?_eq_some_iff.1 hw).1; omega
          have hjs : j < size := by rw [← hmem w (List.mem_of_getElem? hw)]; exact (List.getElem?_eq_some_iff.1 hj).1
          have hpos : (off + i) * size + j < cur.size := by rw [hn]; exact hp_lt (s := 1) hil hle hjs
          rw [Array.getD_eq_getD_getElem?, List.getElem?_toArray, hget _ hpos]
          have htl : (l.take lo).length = lo := by simp; omega
          unfold clr0 at hw
          rcases Nat.lt_or_ge i lo with h2 | h2
          · rw [List.getElem?_append_left (by omega), List.getElem?_take_of_lt h2] at hw
            have hlt : (off + i) * size + j < p := by
              have : (off + i + 1) * size ≤ (off + lo) * size := Nat.mul_le_mul_right _ (by omega)
              rw [Nat.add_mul (off + i)] at this; omega
            rw [if_neg (by omega)]
            have h5 := (hrel i j (F w) c (by simp [hw]) hj).mono hxx
            rw [Array.getD_eq_getD_getElem?] at h5
            simpa using h5
          · rw [List.getElem?_append_right (by omega), htl] at hw
            have hwz : w = z := by have := List.mem_of_getElem? hw; rw [List.mem_replicate] at this; exact this.2
            subst hwz
            have e1 : (off + i) * size + j = p + ((i - lo) * size + j) := by
              rw [← hp, ← Nat.add_assoc, ← Nat.add_mul]; congr 2; omega
            have hq : (i - lo) * size + j < (l.length - lo) * size := by
              have : (i - lo + 1) * size ≤ (l.length - lo) * size := Nat.mul_le_mul_right _ (by omega)
              rw [Nat.add_mul] at this; omega
            rw [e1, if_pos (by omega), Nat.add_sub_cancel_left, hzget _ hq]
            have e2 : ((i - lo) * size + j) % size = j := by rw [Nat.mul_comm, Nat.mul_add_mod, Nat.mod_eq_of_lt hjs]
            rw [e2]
            rw [← hz, List.getElem?_map, Option.map_eq_some_iff] at hj
            obtain ⟨u, hu', rfl⟩ := hj
            rw [hu']
            exact relP_constPV _ _ u (hz3 u (List.mem_of_getElem? hu'))⟩
/-- append onto a slice without room: a new row -/
theorem opTo_appendz (r : Nat) (hN : Nat.ble (k + 1) E.N = true) (hx : fr.ev x = .z0) (hy : fr.ev y = .pv (.sl nl (xs.map F))) (ht : TyOk E.P t ss sb sz (.slice e)) (he : TyOk E.P e size bytes zero d)
    (hzz : Nat.beq zero.cells.size size = true) (hs : Nat.ble 1 size = true) (hF : ∀ x, (F x).length = size) (hlim : (Nat.ble (lim * bytes) 140737488355328 && Nat.ble lim 9223372036854775807) = true) (hf : fr.has r = false) (hso : σ.has r = false) (h : app lim [] xs = some r') :
    OpTo E ⟨some k, .call ⟨.builtin .append, #[x, y], #[t, t]⟩, ty, pos, af, gu⟩ fr σ ((k, .hs r 0) :: fr.clr r) ((Sto.clr r ((r, .row e true size []) :: σ)).upd r (.row e true size (r'.map F))) :=
  ⟨fun g a K Q hst hK => by
    obtain ⟨hle, hr'⟩ := app_spec h
    simp only [Bool.and_eq_true] at hlim
    have hl1 := Nat.le_of_ble_eq_true hlim.1
    have hl2 := Nat.le_of_ble_eq_true hlim.2
    have hzz := Nat.eq_of_beq_eq_true hzz
    have hs := Nat.le_of_ble_eq_true hs
    refine ⟨fun _ _ => trivial, ?_⟩
    rw [Oper.semAt_plain _ _ _ (fun c => by simp)]
    have h1 := hst.ev x
    rw [hx] at h1
    have hst0 := hst.adopt r e true size hf hso
    have h2 := hst0.ev y
    rw [hy] at h2
    have hlb : (0 + xs.length) * bytes ≤ 140737488355328 := by
      simp only [List.length_nil] at hle
      exact Nat.le_trans (Nat.mul_le_mul_right _ hle) hl1
    have hgr : Sto.get ((r, AO.row e true size []) :: σ) r = some (.row e true size (([] : List α).map F)) := by rw [Sto.get_cons, if_pos rfl]; rfl
    generalize hev : a.eval x = vx at h1
    cases h1 with
    | z0 ax =>
      have ho3 : OldRel ⟨g.w, g.u, fun k => if k = r then .nilRow else g.loc k⟩ r true size F ([] : List α) (ax, none) := ⟨if_pos rfl, rfl⟩
      cases h2 with
      | pv h2 =>
        rcases news_of hF h2 with ⟨e2, rfl⟩ | ⟨a0, c, news, e2, hnews, hcells⟩
        · obtain ⟨v', w', hrun, hres⟩ := app_res_none (P := E.P) (w := g.w) (ty := ty) (old := (ax, none)) (n := 0) ht he rfl
          rw [run_append_op (x := x) (y := y) (w := g.w) (by rw [hev, e2]; exact hrun), Oper.uponIn_value]
          obtain ⟨g', rfl, hst', hv⟩ := hst0.appended (F := F) (l := []) (xs := []) (old := (ax, none)) hgr rfl ho3 (news := []) ⟨by simp, by simp, fun i j x c hi => by simp at hi⟩ hres
          exact hK g' _ (by rw [hr']; exact hst'.put (Nat.le_of_ble_eq_true hN) hv)
        · obtain ⟨v', w', hrun, hres⟩ := app_res_slice (P := E.P) (w := g.w) (ty := ty) (c := c) (old := (ax, none)) (n := 0) ht he hzz (by omega) rfl hnews.len hcells hnews.one hlb (by unfold maxLen; simp only [List.length_nil] at hle; omega)
          rw [run_append_op (x := x) (y := y) (w := g.w) (by rw [hev, e2]; exact hrun), Oper.uponIn_value]
          obtain ⟨g', rfl, hst', hv⟩ := hst0.appended (F := F) (l := []) (old := (ax, none)) hgr rfl ho3 hnews hres
          exact hK g' _ (by rw [hr']; exact hst'.put (Nat.le_of_ble_eq_true hN) hv)⟩
/-- s[:0:0] -/
theorem ev_z0 {k1 k2 : IntKind} {z w : Operand} (hx : ρ x = .pv (.sl nl (l.map F))) (hz : ρ z = .pv (.b (.int k1 0))) (hw : ρ w = .pv (.b (.int k2 0))) (ht : TyOk P t ss sb sz (.slice e)) (he : TyOk P e size bytes zero d) :
    EvQ P ⟨dst, .slice t x none (some z) (some w), ty, pos, af, gu⟩ ρ σ .z0 :=
  ⟨fun c => by simp, fun g ρv hh _ => by
    have h1 := hh x (by simp [Op.operands])
    have h2 := hh z (by simp [Op.operands])
    have h3 := hh w (by simp [Op.operands])
    rw [hx] at h1
    rw [hz] at h2
    rw [hw] at h3
    have e2 := rel_b h2
    have e3 := rel_b h3
    cases h1 with
    | pv h1 =>
      obtain ⟨a', cap', size', b, off, val, hv, _, hc, _⟩ := relP_sl_inv h1
      refine ⟨.slice a' 0 0, ?_, .z0 a'⟩
      show Sem.run P (do let v ← Instr.sliceAt t (ρv x) none (some (ρv z)) (some (ρv w)); pure (Next.value v)) g.w = _
      rw [hv, e2, e3]
      simp [Instr.sliceAt, run_underlying ht.u, Instr.slice, Instr.sliceBounds, Instr.sliceBound, asIntOf, he.sizeOf, go_sem]⟩
/-- an owned row in a struct: publish it -/
theorem rel_aggset {g : G} {cs : List AV} {j : Nat} {c c0 : AV} {v : Value} (h : Rel g (.agg cs) v) (hj : cs[j]? = some c0) (hc : ∀ v, Rel g c0 v → Rel g c v) : Rel g (.agg (cs.set j c)) v := by
  cases h with
  | agg h1 h2 h3 =>
    refine .agg (by simpa using h1) h2 fun i c' hi => ?_
    rw [List.getElem?_set] at hi
    split at hi
    · rename_i hij
      split at hi
      · cases hi; subst hij; exact hc _ (h3 j c0 hj)
      · cases hi
    · exact h3 i c' hi
theorem awp_pubA {c : Code} {d' j : Nat} {cs : List AV} (hd : fr.get d' = .agg cs) (hj : cs[j]? = some (.hs r 0)) (hr : σ.get r = some (.row e false size (l.map F))) (h : AWP E c ((d', .agg (cs.set j (.l F l))) :: fr) σ K) : AWP E c fr σ K :=
  ⟨fun g a hst => by
    obtain ⟨g', hw, hl, hst', hv⟩ := hst.pub hr
    have h1 := hst'.fr d'
    rw [hd] at h1
    have := h.go g' a (hst'.reslot (d := d') (rel_aggset h1 hj hv))
    rw [hw] at this; exact this⟩
theorem awpl_pubA {ops : Array Oper} {ol : List Oper} {d' j : Nat} {cs : List AV} (hd : fr.get d' = .agg cs) (hj : cs[j]? = some (.hs r 0)) (hr : σ.get r = some (.row e false size (l.map F))) (h : AWPL E ops ol ((d', .agg (cs.set j (.l F l))) :: fr) σ K) : AWPL E ops ol fr σ K :=
  ⟨fun g a hst => by
    obtain ⟨g', hw, hl, hst', hv⟩ := hst.pub hr
    have h1 := hst'.fr d'
    rw [hd] at h1
    have := h.go g' a (hst'.reslot (d := d') (rel_aggset h1 hj hv))
    rw [hw] at this; exact this⟩
end
/-! ### more on integers -/
section
variable {t t' : TypeId} {x y : Operand} {a b : Int}
def iOr (a b : Int) : Int := w64 ((BitVec.ofInt 64 a ||| BitVec.ofInt 64 b).toNat : Int)
def iAnd (a b : Int) : Int := w64 ((BitVec.ofInt 64 a &&& BitVec.ofInt 64 b).toNat : Int)
def iXor (a b : Int) : Int := w64 ((BitVec.ofInt 64 a ^^^ BitVec.ofInt 64 b).toNat : Int)
def iQuo (a b : Int) : Int := w64 (a.tdiv b)
def iRem (a b : Int) : Int := a.tmod b
theorem ev_ibits {op : BinOp} {r : Int} (hx : ρ x = .i a) (hy : ρ y = .i b) (hr : (op = .or ∧ r = iOr a b) ∨ (op = .and ∧ r = iAnd a b) ∨ (op = .xor ∧ r = iXor a b)) : EvQ P ⟨dst, .binOp op t x y t', ty, pos, af, gu⟩ ρ σ (.i r) :=
  ⟨fun c => by simp, fun g ρv h _ => by
    obtain ⟨h1, h2⟩ := ops2 (o := ⟨dst, .binOp op t x y t', ty, pos, af, gu⟩) (x := x) (y := y) rfl h
    rw [hx] at h1
    rw [hy] at h2
    have e1 := rel_b h1
    have e2 := rel_b h2
    refine ⟨.int .i64 r, ?_, .pv (.b rfl)⟩
    rcases hr with ⟨rfl, rfl⟩ | ⟨rfl, rfl⟩ | ⟨rfl, rfl⟩ <;> (simp [execOp, e1, e2, go_sem, eqGuard, binOp, Op.intBits]; rfl)⟩
theorem ev_ior (hx : ρ x = .i a) (hy : ρ y = .i b) : EvQ P ⟨dst, .binOp .or t x y t', ty, pos, af, gu⟩ ρ σ (.i (iOr a b)) := ev_ibits hx hy (.inl ⟨rfl, rfl⟩)
theorem ev_iand (hx : ρ x = .i a) (hy : ρ y = .i b) : EvQ P ⟨dst, .binOp .and t x y t', ty, pos, af, gu⟩ ρ σ (.i (iAnd a b)) := ev_ibits hx hy (.inr (.inl ⟨rfl, rfl⟩))
theorem ev_ixor (hx : ρ x = .i a) (hy : ρ y = .i b) : EvQ P ⟨dst, .binOp .xor t x y t', ty, pos, af, gu⟩ ρ σ (.i (iXor a b)) := ev_ibits hx hy (.inr (.inr ⟨rfl, rfl⟩))
theorem ev_idiv {op : BinOp} {r : Int} (hx : ρ x = .i a) (hy : ρ y = .i b) (hb : (b == 0) = false) (hr : (op = .quo ∧ r = iQuo a b) ∨ (op = .rem ∧ r = iRem a b)) : EvQ P ⟨dst, .binOp op t x y t', ty, pos, af, gu⟩ ρ σ (.i r) :=
  ⟨fun c => by simp, fun g ρv h _ => by
    obtain ⟨h1, h2⟩ := ops2 (o := ⟨dst, .binOp op t x y t', ty, pos, af, gu⟩) (x := x) (y := y) rfl h
    rw [hx] at h1
    rw [hy] at h2
    have e1 := rel_b h1
    have e2 := rel_b h2
    have hb : b ≠ 0 := by simpa using hb
    refine ⟨.int .i64 r, ?_, .pv (.b rfl)⟩
    rcases hr with ⟨rfl, rfl⟩ | ⟨rfl, rfl⟩ <;> simp [execOp, e1, e2, go_sem, eqGuard, binOp, Op.intDiv, hb, iQuo, iRem]⟩
theorem ev_iquo (hx : ρ x = .i a) (hy : ρ y = .i b) (hb : (b == 0) = false) : EvQ P ⟨dst, .binOp .quo t x y t', ty, pos, af, gu⟩ ρ σ (.i (iQuo a b)) := ev_idiv hx hy hb (.inl ⟨rfl, rfl⟩)
theorem ev_irem (hx : ρ x = .i a) (hy : ρ y = .i b) (hb : (b == 0) = false) : EvQ P ⟨dst, .binOp .rem t x y t', ty, pos, af, gu⟩ ρ σ (.i (iRem a b)) := ev_idiv hx hy hb (.inr ⟨rfl, rfl⟩)
theorem ev_ineg (hx : ρ x = .i a) : EvQ P ⟨dst, .unOp .neg t x, ty, pos, af, gu⟩ ρ σ (.i (w64 (0 - a))) :=
  ⟨fun c => by simp, fun g ρv h _ => by
    have h1 := h x (by simp [Op.operands])
    rw [hx] at h1
    have e1 := rel_b h1
    refine ⟨.int .i64 (w64 (0 - a)), ?_, .pv (.b rfl)⟩
    simp [execOp, e1, go_sem, Op.unary, Op.intArith]⟩
/-- arithmetic of bytes -/
theorem ev_u8arith {op : BinOp} {r : UInt8} {a b : UInt8} (hx : ρ x = .u8 a) (hy : ρ y = .u8 b) (hr : (op = .add ∧ r = a + b) ∨ (op = .sub ∧ r = a - b)) : EvQ P ⟨dst, .binOp op t x y t', ty, pos, af, gu⟩ ρ σ (.u8 r) := by
  have hl1 := a.toNat_lt
  have hl2 := b.toNat_lt
  rcases hr with ⟨rfl, rfl⟩ | ⟨rfl, rfl⟩
  · have := ev_add (P := P) (σ := σ) (dst := dst) (ty := ty) (pos := pos) (af := af) (gu := gu) (t := t) (t' := t') hx hy
    rw [show IntKind.u8.wrap ((a.toNat : Int) + (b.toNat : Int)) = ((a + b).toNat : Int) by
      rw [wrap_u8, UInt8.toNat_add]; unfold toU8; rw [UInt8.toNat_ofNat']; omega] at this
    exact this
  · have := ev_sub (P := P) (σ := σ) (dst := dst) (ty := ty) (pos := pos) (af := af) (gu := gu) (t := t) (t' := t') hx hy
    rw [show IntKind.u8.wrap ((a.toNat : Int) - (b.toNat : Int)) = ((a - b).toNat : Int) by
      rw [wrap_u8, UInt8.toNat_sub]; unfold toU8; rw [UInt8.toNat_ofNat']; omega] at this
    exact this
theorem ev_u8add {a b : UInt8} (hx : ρ x = .u8 a) (hy : ρ y = .u8 b) : EvQ P ⟨dst, .binOp .add t x y t', ty, pos, af, gu⟩ ρ σ (.u8 (a + b)) := ev_u8arith hx hy (.inl ⟨rfl, rfl⟩)
theorem ev_u8sub {a b : UInt8} (hx : ρ x = .u8 a) (hy : ρ y = .u8 b) : EvQ P ⟨dst, .binOp .sub t x y t', ty, pos, af, gu⟩ ρ σ (.u8 (a - b)) := ev_u8arith hx hy (.inr ⟨rfl, rfl⟩)
end
end Go.Proofs.Ytfhfjckjmacekaa

/- The abstract calculus: slices that may be nil or not, make, cap: rules. No program is named. -/
namespace Go.Proofs.Ytfhfjckjmacekaa
open Go.RowKit Go.Lib

variable {E : Env} {fr : Fr} {σ : Sto} {K : Post} {P : Program} {ρ : Operand → AV}
variable {dst : Option Tmp} {ty : TypeId} {pos : String} {af : Array Edge} {gu : Option (Nat × Bool)}
open Classical in
/-- what comes out if a slice is nil (which it can be if it is empty), and if it is not: the same -/
noncomputable def nilE {R : Type} (e : Bool) (A B : Option R) : Option R := if e then (if A = B then B else none) else B
theorem nilE_nil {R : Type} {e : Bool} {A B : Option R} {r : R} (he : e = true) (h : nilE e A B = some r) : A = some r := by
  unfold nilE at h
  rw [if_pos he] at h
  split at h
  · rename_i hab; rw [hab]; exact h
  · cases h
theorem nilE_not {R : Type} {e : Bool} {A B : Option R} {r : R} (h : nilE e A B = some r) : B = some r := by
  unfold nilE at h
  split at h
  · split at h
    · exact h
    · cases h
  · exact h
theorem nilE_same {R : Type} (e : Bool) (A B : Option R) (h : e = true → A = B) : nilE e A B = B := by
  unfold nilE
  split
  · rename_i he; rw [if_pos (h he)]
  · rfl
section
variable {α : Type} {F : α → List PV} {l : List α} {t t' e : TypeId} {ss sb d k : Nat} {sz : Value}
theorem rel_nilcase {g : G} {v : Value} (h : Rel g (.l F l) v) : (l = [] ∧ v = .slice none 0 0) ∨ ∃ a n c, v = .slice (some a) n c := by
  cases h with
  | pv h =>
    obtain ⟨a', cap', size', b, off, val, hv, h0, _⟩ := relP_sl_inv h
    cases a' with
    | none =>
      obtain ⟨rfl, he⟩ := h0 rfl
      left
      have : l = [] := by simpa using he
      subst this
      exact ⟨rfl, hv⟩
    | some a => exact .inr ⟨a, _, _, hv⟩
theorem awpl_nilcmp (ne : Bool) {ops : Array Oper} {rest : List Oper} (hg : gu = none) (hN : Nat.ble (k + 1) E.N = true) (hd : fr.get d = .l F l) (ht : TyOk E.P t ss sb sz (.slice e))
    (h1 : l.isEmpty = true → AWPL E ops rest ((k, .bo (!ne)) :: (d, .pv (.sl (some true) [])) :: fr) σ K) (h2 : AWPL E ops rest ((k, .bo ne) :: fr) σ K) :
    AWPL E ops (⟨some k, .binOp (if ne then .neq else .eql) t (.tmp d) (.const (.slice none 0 0)) t', ty, pos, af, gu⟩ :: rest) fr σ K :=
  ⟨fun g a hst => by
    subst hg
    have hv := hst.fr d
    rw [hd] at hv
    have hc : a.eval (.const (.slice none 0 0)) = .slice none 0 0 := rfl
    have hx : a.eval (.tmp d) = a.tmps.getD d undef := rfl
    simp only [wpListIn, Region.wanted, if_true]
    refine ⟨fun _ _ => trivial, ?_⟩
    rw [Oper.semAt_plain _ _ _ (fun c => by simp)]
    rcases rel_nilcase hv with ⟨hl, ev⟩ | ⟨ad, n, c, ev⟩
    · rw [run_nilcmp ne (hx.trans ev) hc ht, Oper.uponIn_value]
      have hst2 := hst.reslot (d := d) (c := .pv (.sl (some true) [])) (by rw [ev]; exact .pv (relP_nil _ _))
      have := (h1 (by rw [hl]; rfl)).go g _ (hst2.put (Nat.le_of_ble_eq_true hN) (c := .bo (!ne)) (v := .bool (!ne)) (.pv (.b rfl)))
      cases ne <;> exact this
    · rw [run_nilcmp ne (hx.trans ev) hc ht, Oper.uponIn_value]
      have := h2.go g _ (hst.put (Nat.le_of_ble_eq_true hN) (c := .bo ne) (v := .bool ne) (.pv (.b rfl)))
      cases ne <;> exact this⟩
theorem awpl_isnil {ops : Array Oper} {rest : List Oper} (hg : gu = none) (hN : Nat.ble (k + 1) E.N = true) (hd : fr.get d = .l F l) (ht : TyOk E.P t ss sb sz (.slice e))
    (h1 : l.isEmpty = true → AWPL E ops rest ((k, .bo true) :: (d, .pv (.sl (some true) [])) :: fr) σ K) (h2 : AWPL E ops rest ((k, .bo false) :: fr) σ K) :
    AWPL E ops (⟨some k, .binOp .eql t (.tmp d) (.const (.slice none 0 0)) t', ty, pos, af, gu⟩ :: rest) fr σ K := awpl_nilcmp false hg hN hd ht h1 h2
theorem awpl_nenil {ops : Array Oper} {rest : List Oper} (hg : gu = none) (hN : Nat.ble (k + 1) E.N = true) (hd : fr.get d = .l F l) (ht : TyOk E.P t ss sb sz (.slice e))
    (h1 : l.isEmpty = true → AWPL E ops rest ((k, .bo false) :: (d, .pv (.sl (some true) [])) :: fr) σ K) (h2 : AWPL E ops rest ((k, .bo true) :: fr) σ K) :
    AWPL E ops (⟨some k, .binOp .neq t (.tmp d) (.const (.slice none 0 0)) t', ty, pos, af, gu⟩ :: rest) fr σ K := awpl_nilcmp true hg hN hd ht h1 h2
end
section
variable {t e : TypeId} {ss sb size bytes k : Nat} {sz zero : Value} {d : TypeDesc}
/-- S{}: a slice without elements and without room -/
theorem opTo_litz (hN : Nat.ble (k + 1) E.N = true) (ht : TyOk E.P t ss sb sz (.slice e)) (he : TyOk E.P e size bytes zero d) :
    OpTo E ⟨some k, .buildSlice t 0 #[], ty, pos, af, gu⟩ fr σ ((k, .z0) :: fr) σ :=
  ⟨fun g a K Q hst hK => by
    refine ⟨fun _ _ => trivial, ?_⟩
    rw [Oper.semAt_plain _ _ _ (fun c => by simp)]
    have hrun : (execOp a.eval ⟨some k, .buildSlice t 0 #[], ty, pos, af, gu⟩).run E.P g.w = .ok (.value (.slice (some ⟨g.w.heap.size, 0, none⟩) 0 0)) (g.w.alloc (.cells #[] e)) := by
      show Sem.run E.P (do let v ← Instr.buildSlice t 0 (Array.map (fun (x : Nat × Operand) => (x.1, a.eval x.2)) #[]); pure (Next.value v)) g.w = _
      simp only [Instr.buildSlice, underlying, program, Sem.run_bind, Sem.run, ht.u, he.sizeOf, Result.andThen_ok, Sem.run_pure, Nat.zero_mul, if_true]
      rw [if_neg (by simp)]
      have e1 : (Array.map (fun (x : Nat × Operand) => (x.1, a.eval x.2)) #[]).toList = [] := by simp
      have harr : ∀ z : Array Value, Array.map (fun x => z[x % z.size]!) (Array.range 0) = #[] := by intro z; simp
      simp only [Sem.run_bind, Sem.run_pure, Result.andThen_ok, e1, Instr.fill, harr]
      rfl
    rw [hrun, Oper.uponIn_value]
    have hold := old_alloc g #[] e 0 0 (g.loc 0)
    have hwf := wf_alloc hst.so.wf #[] e 0 0 (g.loc 0)
    have hst' := hst.grow hold hwf (fun q _ => by show (if q = 0 then g.loc 0 else g.loc q) = g.loc q; split <;> simp_all)
    exact hK _ _ (hst'.put (Nat.le_of_ble_eq_true hN) (.z0 _))⟩
end
/-- not zero -/
def nz (b : Int) : Option Bool := if b == 0 then none else some true
theorem nz_spec {b : Int} {r : Bool} (h : nz b = some r) : (b == 0) = false := by
  unfold nz at h
  cases hb : b == 0 with
  | true => rw [hb] at h; cases h
  | false => rfl
end Go.Proofs.Ytfhfjckjmacekaa

/- The whole of the calculus. -/
namespace Go.Proofs.Ytfhfjckjmacekaa
theorem bool_split {C : Prop} (b : Bool) (h1 : b = true → C) (h2 : b = false → C) : C := by
  cases b
  · exact h2 rfl
  · exact h1 rfl
/-- less is known, among operations -/
theorem awpl_le {E : Env} {fr fr' : Fr} {σ σ' : Sto} {K : Post} {ops : Array Oper} {ol : List Oper} (hf : FrLe fr fr') (hs : StoLe σ σ') (h : AWPL E ops ol fr' σ' K) : AWPL E ops ol fr σ K := ⟨fun g a hst => h.go g a (hst.le hf hs)⟩
theorem elim_l {α β γ : Type} {f : α → γ} {g : β → γ} {a : α} {x : γ} (h : Sum.elim f g (.inl a) = x) : f a = x := h
theorem elim_r {α β γ : Type} {f : α → γ} {g : β → γ} {a : β} {x : γ} (h : Sum.elim f g (.inr a) = x) : g a = x := h
section
variable {E : Env} {fr : Fr} {σ : Sto} {K : Post} {ops : Array Oper}
/-- steps that follow one another, in one -/
theorem oq {o : Oper} {rest : List Oper} {d : Nat} {c : AV} (hg : o.guard = none) (hd : o.dst = some d) (hN : Nat.ble (d + 1) E.N = true) (h : EvQ E.P o fr.ev σ c) (hr : AWPL E ops rest ((d, c) :: fr) σ K) : AWPL E ops (o :: rest) fr σ K := awpl_op hg (opTo_q hd hN h) hr
theorem xr {id : Nat} {l : List Oper} {y : Code} (h : AWPL E l.toArray l fr σ (kthen E y K)) : AWP E (.seq (.region id l.toArray false) y) fr σ K := awp_seq (awp_region h)
theorem nk {y : Code} (h : AWP E y fr σ K) : AWPL E ops [] fr σ (kthen E y K) := awpl_nil (kthen_normal h)
theorem nx {id : Nat} {l : List Oper} {y : Code} (h : AWPL E l.toArray l fr σ (kthen E y K)) : AWPL E ops [] fr σ (kthen E (.seq (.region id l.toArray false) y) K) := nk (xr h)
theorem nr {id : Nat} {l : List Oper} (h : AWPL E l.toArray l fr σ K) : AWPL E ops [] fr σ (kthen E (.region id l.toArray false) K) := nk (awp_region h)
theorem sk {y : Code} (h : AWP E y fr σ K) : AWP E .skip fr σ (kthen E y K) := awp_skip (kthen_normal h)
theorem sx {id : Nat} {l : List Oper} {y : Code} (h : AWPL E l.toArray l fr σ (kthen E y K)) : AWP E .skip fr σ (kthen E (.seq (.region id l.toArray false) y) K) := sk (xr h)
end
/-- several ways lead to the rest -/
theorem awpl_cut {E : Env} {fr : Fr} {σ : Sto} {K : Post} {ops : Array Oper} {o : Oper} {rest : List Oper} {J : Type} (frs : J → Fr) (stos : J → Sto) (Q : J → Prop)
    (h1 : (∀ j fr' σ', Q j → FrLe fr' (frs j) → StoLe σ' (stos j) → AWPL E ops rest fr' σ' K) → AWPL E ops (o :: rest) fr σ K) (h2 : ∀ j, Q j → AWPL E ops rest (frs j) (stos j) K) : AWPL E ops (o :: rest) fr σ K :=
  h1 fun j _ _ hq hf hs => awpl_le hf hs (h2 j hq)
end Go.Proofs.Ytfhfjckjmacekaa

/- Go's structures as Lean's, and their cells. Written by program. -/
namespace Go.Proofs.Ytfhfjckjmacekaa
open Go.RowKit
structure TFault where
  Code : Int
  Index : Int
def TFault.pc (x : TFault) : List PV := [pI x.Code, pI x.Index]
structure TAlias where
  Address : Str
  To : List Str
def TAlias.pc (x : TAlias) : List PV := [pS x.Address, pL cS x.To]
structure TRecipient where
  Address : Str
  Notify : Int
def TRecipient.pc (x : TRecipient) : List PV := [pS x.Address, pI x.Notify]
structure TEnvelope where
  From : Str
  To : List TRecipient
  Id : Str
def TEnvelope.pc (x : TEnvelope) : List PV := [pS x.From, pL TRecipient.pc x.To, pS x.Id]
end Go.Proofs.Ytfhfjckjmacekaa

/- The calculus as a reckoning: the steps of a walk that need no choice are done by a function. No program is named. -/
namespace Go.Proofs.Ytfhfjckjmacekaa
open Go.RowKit

/-- rows of the table of types -/
structure TyRow where
  size : Nat
  bytes : Nat
  zero : Value
  desc : TypeDesc
  pl : Option (Array (Nat × Nat))
abbrev Tab := List (Nat × TyRow)
def Tab.get : Tab → Nat → Option TyRow
  | [], _ => none
  | (k, a) :: r, t => bif Nat.beq k t then some a else Tab.get r t
structure RowOk (P : Program) (t : TypeId) (r : TyRow) : Prop where
  ty : TyOk P t r.size r.bytes r.zero r.desc
  pl : ∀ fs p, r.desc = .struct fs → r.pl = some p → ∀ w, Sem.run P (fs.mapM fun f => do pure (f.offset, ← sizeOf f.type)) w = .ok p w
def TabOk (P : Program) (T : Tab) : Prop := ∀ t r, T.get t = some r → RowOk P t r
theorem tab_nil {P : Program} : TabOk P [] := fun t r h => by simp [Tab.get] at h
theorem Tab.get_cons (k : Nat) (a : TyRow) (T : Tab) (t : Nat) : Tab.get ((k, a) :: T) t = if k = t then some a else Tab.get T t := by
  by_cases h : k = t
  · subst h; simp [Tab.get]
  · have : Nat.beq k t = false := by cases hb : Nat.beq k t with
      | false => rfl
      | true => exact absurd (Nat.eq_of_beq_eq_true hb) h
    simp [Tab.get, this, h]
theorem tab_row {P : Program} {T : Tab} {k : Nat} {r : TyRow} (h : RowOk P k r) (hT : TabOk P T) : TabOk P ((k, r) :: T) := fun t r' h' => by
  rw [Tab.get_cons] at h'
  split at h'
  · rename_i hk; subst hk; cases h'; exact h
  · exact hT t r' h'
theorem tab_cons {P : Program} {T : Tab} {k size bytes : Nat} {zero : Value} {d : TypeDesc} (h : TyOk P k size bytes zero d) (hT : TabOk P T) : TabOk P ((k, ⟨size, bytes, zero, d, none⟩) :: T) :=
  tab_row ⟨h, fun fs p _ h => by cases h⟩ hT
theorem tab_consP {P : Program} {T : Tab} {k size bytes : Nat} {zero : Value} {fs : Array Field} {p : Array (Nat × Nat)} (h : TyOk P k size bytes zero (.struct fs)) (hp : ∀ w, Sem.run P (fs.mapM fun f => do pure (f.offset, ← sizeOf f.type)) w = .ok p w) (hT : TabOk P T) : TabOk P ((k, ⟨size, bytes, zero, .struct fs, some p⟩) :: T) :=
  tab_row ⟨h, fun fs' p' h1 h2 => by cases h1; cases h2; exact hp⟩ hT

/-- the same, seen to be made of a constructor -/
def AV.force : AV → Option AV
  | .any => some .any
  | .pv p => some (.pv p)
  | .agg cs => some (.agg cs)
  | .tup vs => some (.tup vs)
  | .ptr o f => some (.ptr o f)
  | .ep c => some (.ep c)
  | .hs r o => some (.hs r o)
  | .hp r i o => some (.hp r i o)
  | .fn f a c => some (.fn f a c)
  | .mp o => some (.mp o)
  | .hsub r l => some (.hsub r l)
  | .z0 => some .z0
theorem AV.force_eq {c d : AV} (h : c.force = some d) : c = d := by cases c <;> simpa [AV.force] using h
def forceL : List AV → Option (List AV)
  | [] => some []
  | c :: cs => match c.force with
    | some c' => (match forceL cs with | some cs' => some (c' :: cs') | none => none)
    | none => none
theorem forceL_eq : ∀ {cs ds : List AV}, forceL cs = some ds → cs = ds
  | [], _, h => by simpa [forceL] using h
  | c :: cs, _, h => by
    unfold forceL at h
    split at h
    · rename_i c' hc
      split at h
      · rename_i cs' hcs
        cases h
        rw [AV.force_eq hc, forceL_eq hcs]
      · cases h
    · cases h
def forceP : List PV → Option (List PV)
  | [] => some []
  | c :: cs => match forceP cs with | some cs' => some (c :: cs') | none => none
theorem forceP_eq : ∀ {cs ds : List PV}, forceP cs = some ds → cs = ds
  | [], _, h => by simpa [forceP] using h
  | c :: cs, _, h => by
    unfold forceP at h
    split at h
    · rename_i cs' hcs
      cases h
      rw [forceP_eq hcs]
    · cases h
def AV.str? : AV → Option Str
  | .pv (.b (.string s)) => some s.data.toList
  | _ => none
theorem AV.str?_eq {c : AV} {s : Str} (h : c.str? = some s) : c = .s s := by
  unfold AV.str? at h
  split at h
  · cases h; rfl
  · cases h
/-- the address of an operand's object is in a slot of its own -/
def Sto.updF : Sto → Nat → AO → Option Sto
  | [], _, _ => some []
  | (k, a) :: r, o, ob => match Nat.beq k o with
    | true => some ((k, ob) :: r)
    | false => (match Sto.updF r o ob with
      | some r' => some ((k, a) :: r')
      | none => none)

section
variable {P : Program} {T : Tab} {ρ : Operand → AV} {σ : Sto} {dst : Option Tmp} {ty : TypeId} {pos : String} {af : Array Edge} {gu : Option (Nat × Bool)} {c : AV}
def qStr (op : BinOp) (x y : Str) : Option AV := match op with
  | .eql => some (.bo (x == y))
  | .neq => some (.bo (x != y))
  | .lss => some (.bo (Op.bytesLess x y))
  | _ => none
def qCmp (op : BinOp) (x y : Int) : Option AV := match op with
  | .eql => some (.bo (x == y))
  | .neq => some (.bo (x != y))
  | .lss => some (.bo (decide (x < y)))
  | .leq => some (.bo (decide (x ≤ y)))
  | .gtr => some (.bo (decide (y < x)))
  | .geq => some (.bo (decide (y ≤ x)))
  | _ => none
def qI64 (op : BinOp) (x y : Int) : Option AV := match op with
  | .add => some (.i (IntKind.wrap .i64 (x + y)))
  | .sub => some (.i (IntKind.wrap .i64 (x - y)))
  | .mul => some (.i (IntKind.wrap .i64 (x * y)))
  | op => qCmp op x y
def qBool (T : Tab) (op : BinOp) (t : TypeId) (x y : Bool) : Option AV := match T.get t with
  | some ⟨_, _, _, .bool, _⟩ => (match op with | .eql => some (.bo (x == y)) | .neq => some (.bo (x != y)) | _ => none)
  | _ => none
def qBin (T : Tab) (op : BinOp) (t : TypeId) (a b : AV) : Option AV := match a with
  | .pv (.b (.int .i64 x)) => (match b with | .pv (.b (.int .i64 y)) => qI64 op x y | _ => none)
  | .pv (.b (.int .u8 x)) => (match b with | .pv (.b (.int .u8 y)) => qCmp op x y | _ => none)
  | .pv (.b (.string x)) => (match b with | .pv (.b (.string y)) => qStr op x.data.toList y.data.toList | _ => none)
  | .pv (.b (.bool x)) => (match b with | .pv (.b (.bool y)) => qBool T op t x y | _ => none)
  | _ => none
theorem qCmp_ok {op : BinOp} {t t' : TypeId} {x y : Operand} {k : IntKind} {a b : Int} (hx : ρ x = .pv (.b (.int k a))) (hy : ρ y = .pv (.b (.int k b))) (h : qCmp op a b = some c) : EvQ P ⟨dst, .binOp op t x y t', ty, pos, af, gu⟩ ρ σ c := by
  unfold qCmp at h
  split at h <;> first | (cases h; done) | skip
  all_goals cases h
  · exact ev_eql hx hy
  · exact ev_neq hx hy
  · exact ev_lss hx hy
  · exact ev_leq hx hy
  · exact ev_gtr hx hy
  · exact ev_geq hx hy
theorem qI64_ok {op : BinOp} {t t' : TypeId} {x y : Operand} {a b : Int} (hx : ρ x = .pv (.b (.int .i64 a))) (hy : ρ y = .pv (.b (.int .i64 b))) (h : qI64 op a b = some c) : EvQ P ⟨dst, .binOp op t x y t', ty, pos, af, gu⟩ ρ σ c := by
  unfold qI64 at h
  split at h
  · cases h; exact ev_add hx hy
  · cases h; exact ev_sub hx hy
  · cases h; exact ev_mul hx hy
  · exact qCmp_ok hx hy h
theorem qStr_ok {op : BinOp} {t t' : TypeId} {x y : Operand} {a b : Str} (hx : ρ x = .s a) (hy : ρ y = .s b) (h : qStr op a b = some c) : EvQ P ⟨dst, .binOp op t x y t', ty, pos, af, gu⟩ ρ σ c := by
  unfold qStr at h
  split at h <;> first | (cases h; done) | skip
  all_goals cases h
  · exact ev_seql hx hy
  · exact ev_sneq hx hy
  · exact ev_slss hx hy
theorem qBool_ok (hT : TabOk P T) {op : BinOp} {t t' : TypeId} {x y : Operand} {a b : Bool} (hx : ρ x = .bo a) (hy : ρ y = .bo b) (h : qBool T op t a b = some c) : EvQ P ⟨dst, .binOp op t x y t', ty, pos, af, gu⟩ ρ σ c := by
  unfold qBool at h
  split at h
  · rename_i hr
    have := (hT _ _ hr).ty
    split at h
    · cases h; exact ev_beql hx hy this
    · cases h; exact ev_bneq hx hy this
    · cases h
  · cases h
theorem qBin_ok (hT : TabOk P T) {op : BinOp} {t t' : TypeId} {x y : Operand} (h : qBin T op t (ρ x) (ρ y) = some c) : EvQ P ⟨dst, .binOp op t x y t', ty, pos, af, gu⟩ ρ σ c := by
  unfold qBin at h
  split at h
  · rename_i hx; split at h
    · rename_i hy; exact qI64_ok hx hy h
    · cases h
  · rename_i hx; split at h
    · rename_i hy; exact qCmp_ok hx hy h
    · cases h
  · rename_i hx; split at h
    · rename_i hy; exact qStr_ok hx hy h
    · cases h
  · rename_i hx; split at h
    · rename_i hy; exact qBool_ok hT hx hy h
    · cases h
  · cases h
def qLoad (T : Tab) (σ : Sto) (t : TypeId) (v : AV) : Option AV := match T.get t with
  | none => none
  | some row => match v with
    | .ptr o off => (match σ.get o with
      | some (.cells cs) => bif dAgg row.desc then (bif Nat.ble (off + row.size) cs.length then (match forceL ((cs.drop off).take row.size) with | some l => some (.agg l) | none => none) else none)
          else (match cs[off]? with | some c => c.force | none => none)
      | _ => none)
    | .ep el => bif dAgg row.desc then (bif Nat.beq el.length row.size then (match forceL (el.map .pv) with | some l => some (.agg l) | none => none) else none)
        else (match el with | c :: _ => some (.pv c) | [] => none)
    | _ => none
theorem qLoad_ok (hT : TabOk P T) {t : TypeId} {x : Operand} (h : qLoad T σ t (ρ x) = some c) : EvQ P ⟨dst, .load t x, ty, pos, af, gu⟩ ρ σ c := by
  unfold qLoad at h
  split at h
  · cases h
  · rename_i row hr
    have ht := (hT _ _ hr).ty
    split at h
    · rename_i o off hx
      split at h
      · rename_i cs ho
        cases hd : dAgg row.desc with
        | true =>
          rw [hd] at h
          simp only [cond_true] at h
          cases hn : Nat.ble (off + row.size) cs.length with
          | false => rw [hn] at h; cases h
          | true =>
            rw [hn] at h
            simp only [cond_true] at h
            split at h
            · rename_i l hl
              cases h
              rw [← forceL_eq hl]
              exact ev_loadN hx ho ht hd hn
            · cases h
        | false =>
          rw [hd] at h
          simp only [cond_false] at h
          split at h
          · rename_i c' hc
            rw [← AV.force_eq h]
            exact ev_load hx ho ht hd hc
          · cases h
      · cases h
    · rename_i el hx
      cases hd : dAgg row.desc with
      | true =>
        rw [hd] at h
        simp only [cond_true] at h
        cases hn : Nat.beq el.length row.size with
        | false => rw [hn] at h; cases h
        | true =>
          rw [hn] at h
          simp only [cond_true] at h
          split at h
          · rename_i l hl
            cases h
            rw [← forceL_eq hl]
            exact ev_load_epN hx ht hd (Nat.eq_of_beq_eq_true hn)
          · cases h
      | false =>
        rw [hd] at h
        simp only [cond_false] at h
        split at h
        · cases h
          exact ev_load_ep hx ht hd (by simp)
        · cases h
    · cases h
def qFA (T : Tab) (t : TypeId) (f : Nat) (v : AV) : Option AV := match T.get t with
  | some ⟨_, _, _, .struct fs, _⟩ => (match fs[f]? with
    | some fl => (match T.get fl.type with
      | some r2 => bif Nat.beq r2.size 0 then none else (match v with
        | .ptr o off => some (.ptr o (off + fl.offset))
        | .ep el => bif Nat.ble fl.offset el.length then (match forceP (el.drop fl.offset) with | some l => some (.ep l) | none => none) else none
        | .hp r i j => some (.hp r i (j + fl.offset))
        | _ => none)
      | none => none)
    | none => none)
  | _ => none
theorem qFA_ok (hT : TabOk P T) {t : TypeId} {f : Nat} {x : Operand} (h : qFA T t f (ρ x) = some c) : EvQ P ⟨dst, .fieldAddr t x f, ty, pos, af, gu⟩ ρ σ c := by
  unfold qFA at h
  split at h
  · rename_i fs _ hr
    have ht := (hT _ _ hr).ty.u
    split at h
    · rename_i fl hf
      split at h
      · rename_i r2 hr2
        have ht2 := (hT _ _ hr2).ty
        cases hz : Nat.beq r2.size 0 with
        | true => rw [hz] at h; cases h
        | false =>
          rw [hz] at h
          simp only [cond_false] at h
          split at h
          · rename_i hx; cases h; exact ev_fieldAddr hx ht hf ht2 hz
          · rename_i el hx
            cases hle : Nat.ble fl.offset el.length with
            | false => rw [hle] at h; cases h
            | true =>
              rw [hle] at h
              simp only [cond_true] at h
              split at h
              · rename_i l hl
                cases h
                rw [← forceP_eq hl]
                exact ev_fieldAddr_ep hx ht hf ht2 hz hle
              · cases h
          · rename_i hx; cases h; exact ev_fieldAddr_hp hx ht hf ht2 hz
          · cases h
      · cases h
    · cases h
  · cases h
def qField (T : Tab) (t : TypeId) (f : Nat) (v : AV) : Option AV := match T.get t with
  | some ⟨_, _, _, .struct fs, _⟩ => (match fs[f]? with
    | some fl => (match T.get fl.type with
      | some r2 => (match v with
        | .agg cs => bif dAgg r2.desc then none else (match cs[fl.offset]? with | some c => c.force | none => none)
        | _ => none)
      | none => none)
    | none => none)
  | _ => none
theorem qField_ok (hT : TabOk P T) {t : TypeId} {f : Nat} {x : Operand} (h : qField T t f (ρ x) = some c) : EvQ P ⟨dst, .field t x f, ty, pos, af, gu⟩ ρ σ c := by
  unfold qField at h
  split at h
  · rename_i fs _ hr
    have ht := (hT _ _ hr).ty.u
    split at h
    · rename_i fl hf
      split at h
      · rename_i r2 hr2
        have ht2 := (hT _ _ hr2).ty
        split at h
        · rename_i cs hx
          cases hd : dAgg r2.desc with
          | true => rw [hd] at h; cases h
          | false =>
            rw [hd] at h
            simp only [cond_false] at h
            split at h
            · rename_i c' hc
              rw [← AV.force_eq h]
              exact ev_field hx ht hf ht2 hd hc
            · cases h
        · cases h
      · cases h
    · cases h
  · cases h
def qLen (T : Tab) (t : TypeId) (v : AV) : Option AV := match v with
  | .pv (.b (.string s)) => (match T.get t with | some ⟨_, _, _, .string, _⟩ => some (.i s.data.toList.length) | _ => none)
  | _ => none
theorem qLen_ok (hT : TabOk P T) {t : TypeId} {x : Operand} (h : qLen T t (ρ x) = some c) : EvQ P ⟨dst, .call ⟨.builtin .len, #[x], #[t]⟩, ty, pos, af, gu⟩ ρ σ c := by
  unfold qLen at h
  split at h
  · rename_i hx
    split at h
    · rename_i hr
      cases h
      exact ev_slen hx (hT _ _ hr).ty.u
    · cases h
  · cases h
def qBuild (T : Tab) (t : TypeId) (ps : List (Nat × AV)) : Option AV := match T.get t with
  | some ⟨_, _, z, .struct _, some pl⟩ => bif z.cells.toList.all cellV then (match forceL (z.cells.toList.map constAV) with
    | some zs => (match fillA (pl[·]?) zs ps with
      | some cs => (match forceL cs with | some cs' => some (.agg cs') | none => none)
      | none => none)
    | none => none) else none
  | _ => none
theorem qBuild_ok (hT : TabOk P T) {t : TypeId} {ps : List (Nat × Operand)} (h : qBuild T t (ps.map fun p => (p.1, ρ p.2)) = some c) : EvQ P ⟨dst, .build t ps.toArray, ty, pos, af, gu⟩ ρ σ c := by
  unfold qBuild at h
  split at h
  · rename_i z fs pl hr
    have hk := hT _ _ hr
    cases hz : z.cells.toList.all cellV with
    | false => rw [hz] at h; cases h
    | true =>
      rw [hz] at h
      simp only [cond_true] at h
      split at h
      · rename_i zs hzs
        split at h
        · rename_i cs hc
          split at h
          · rename_i cs' hcs
            cases h
            rw [← forceL_eq hcs]
            rw [← forceL_eq hzs] at hc
            exact ev_build hk.ty (hk.pl fs pl rfl rfl) (.inr ⟨rfl, hz⟩) hc
          · cases h
        · cases h
      · cases h
  · cases h
def qConv (T : Tab) (t t' : TypeId) (v : AV) : Option AV := match T.get t, T.get t' with
  | some ⟨_, _, _, .string, _⟩, some ⟨_, _, _, .string, _⟩ => (match v with | .pv (.b (.string s)) => some (.s s.data.toList) | _ => none)
  | _, _ => none
theorem qConv_ok (hT : TabOk P T) {t t' : TypeId} {x : Operand} (h : qConv T t t' (ρ x) = some c) : EvQ P ⟨dst, .convert t t' x, ty, pos, af, gu⟩ ρ σ c := by
  unfold qConv at h
  split at h
  · rename_i h1 h2
    split at h
    · rename_i hx
      cases h
      exact ev_s2s hx (hT _ _ h1).ty (hT _ _ h2).ty
    · cases h
  · cases h
/-- operations that leave the world alone -/
def qval (T : Tab) (ρ : Operand → AV) (σ : Sto) : Op → Option AV
  | .move x => (ρ x).force
  | .assign x => (ρ x).force
  | .extract x i => (match ρ x with | .tup cs => (match cs[i]? with | some c => c.force | none => none) | _ => none)
  | .binOp op t x y _ => qBin T op t (ρ x) (ρ y)
  | .unOp .not _ x => (match ρ x with | .pv (.b (.bool b)) => some (.bo (!b)) | _ => none)
  | .pick c x y => (match ρ c with | .pv (.b (.bool b)) => (match b with | true => (ρ x).force | false => (ρ y).force) | _ => none)
  | .load t x => qLoad T σ t (ρ x)
  | .fieldAddr t x f => qFA T t f (ρ x)
  | .field t x f => qField T t f (ρ x)
  | .call ⟨.builtin .len, ⟨[x]⟩, ⟨[t]⟩⟩ => qLen T t (ρ x)
  | .build t ps => qBuild T t (ps.toList.map fun p => (p.1, ρ p.2))
  | .convert t t' x => qConv T t t' (ρ x)
  | .makeFunc f xs ys => (match forceL (xs.toList.map ρ), forceL (ys.toList.map ρ) with | some a, some b => some (.fn f a b) | _, _ => none)
  | _ => none
theorem qval_ok (hT : TabOk P T) {op : Op} (h : qval T ρ σ op = some c) : EvQ P ⟨dst, op, ty, pos, af, gu⟩ ρ σ c := by
  unfold qval at h
  split at h
  · rw [← AV.force_eq h]; exact ev_move
  · rw [← AV.force_eq h]; exact ev_assign
  · split at h
    · rename_i hx
      split at h
      · rename_i hc; rw [← AV.force_eq h]; exact ev_extract hx hc
      · cases h
    · cases h
  · exact qBin_ok hT h
  · split at h
    · rename_i hx; cases h; exact ev_not hx
    · cases h
  · split at h
    · rename_i b hc
      cases b with
      | true => rw [← AV.force_eq h]; exact ev_pick_t hc rfl
      | false => rw [← AV.force_eq h]; exact ev_pick_f hc rfl
    · cases h
  · exact qLoad_ok hT h
  · exact qFA_ok hT h
  · exact qField_ok hT h
  · exact qLen_ok hT h
  · rename_i ps
    obtain ⟨ps⟩ := ps
    exact qBuild_ok hT h
  · exact qConv_ok hT h
  · rename_i f xs ys
    obtain ⟨xs⟩ := xs
    obtain ⟨ys⟩ := ys
    split at h
    · rename_i h1 h2
      cases h
      exact ev_makeFunc (forceL_eq h1) (forceL_eq h2)
    · cases h
  · cases h
end

section
variable {E : Env} {fr : Fr} {σ : Sto} {K : Post}
/-- one operation, its guard left aside -/
def opDo (T : Tab) (N : Nat) (o : Oper) (fr : Fr) (σ : Sto) : Option (Fr × Sto) := match o.dst with
  | some d => bif Nat.ble (d + 1) N then (match o.op with
    | .alloc t => (match T.get t with
      | some row => (match forceL (row.zero.cells.toList.map constAV) with
        | some cs => bif (row.zero.cells.toList.all cellV && !fr.has d && !σ.has d && !AV.hasL d cs) then some ((d, .ptr d 0) :: fr, (d, .cells cs) :: σ) else none
        | none => none)
      | none => none)
    | .box _ x => (match (fr.ev x).cells with
      | some cs0 => (match forceL cs0 with
        | some cs => bif (!fr.has d && !σ.has d && !AV.hasL d cs) then some ((d, .ptr d 0) :: fr, (d, .cells cs) :: σ) else none
        | none => none)
      | none => none)
    | op => (match qval T fr.ev σ op with
      | some c => some ((d, c) :: fr, σ)
      | none => none)) else none
  | none => (match o.op with
    | .store t x y => (match T.get t with
      | some row => (match fr.ev x with
        | .ptr b off => (match σ.get b with
          | some (.cells cs) => (match (fr.ev y).cells with
            | some vs => bif (Nat.beq vs.length row.size && Nat.ble (off + vs.length) cs.length) then (match forceL (splice cs off vs) with
              | some cs' => (match Sto.updF σ b (.cells cs') with
                | some σ' => some (fr, σ')
                | none => none)
              | none => none) else none
            | none => none)
          | _ => none)
        | _ => none)
      | none => none)
    | _ => none)
theorem updF_eq : ∀ {σ σ' : Sto} {o : Nat} {ob : AO}, Sto.updF σ o ob = some σ' → σ.upd o ob = σ'
  | [], _, _, _, h => by simp [Sto.updF] at h; subst h; rfl
  | (k, a) :: r, σ', o, ob, h => by
    unfold Sto.updF at h
    unfold Sto.upd
    cases hb : Nat.beq k o with
    | true => rw [hb] at h; cases h; rfl
    | false =>
      rw [hb] at h
      dsimp only at h
      split at h
      · rename_i r' hr
        cases h
        rw [updF_eq hr]; rfl
      · cases h
theorem opDo_ok {T : Tab} (hT : TabOk E.P T) {o : Oper} {fr' : Fr} {σ' : Sto} (h : opDo T E.N o fr σ = some (fr', σ')) : OpTo E o fr σ fr' σ' := by
  obtain ⟨dst, op, ty, pos, af, gu⟩ := o
  unfold opDo at h
  split at h
  · rename_i d hd
    dsimp only at hd
    subst hd
    cases hN : Nat.ble (d + 1) E.N with
    | false => rw [hN] at h; cases h
    | true =>
      rw [hN] at h
      simp only [cond_true] at h
      split at h
      · rename_i t
        split at h
        · rename_i row hr
          split at h
          · rename_i cs hcs
            cases hb : (row.zero.cells.toList.all cellV && !fr.has d && !σ.has d && !AV.hasL d cs) with
            | false => rw [hb] at h; cases h
            | true =>
              rw [hb] at h
              simp only [cond_true] at h
              cases h
              simp only [Bool.and_eq_true, Bool.not_eq_true'] at hb
              obtain ⟨⟨⟨h1, h2⟩, h3⟩, h4⟩ := hb
              exact opTo_alloc d hN (hT _ _ hr).ty (.inr ⟨forceL_eq hcs, h1⟩) h2 h3 h4
          · cases h
        · cases h
      · split at h
        · rename_i cs0 hc0
          split at h
          · rename_i cs hcs
            cases hb : (!fr.has d && !σ.has d && !AV.hasL d cs) with
            | false => rw [hb] at h; cases h
            | true =>
              rw [hb] at h
              simp only [cond_true] at h
              cases h
              simp only [Bool.and_eq_true, Bool.not_eq_true'] at hb
              obtain ⟨⟨h2, h3⟩, h4⟩ := hb
              rw [forceL_eq hcs] at hc0
              exact opTo_box d hN hc0 h2 h3 h4
          · cases h
        · cases h
      · split at h
        · rename_i c hc
          cases h
          exact opTo_q rfl hN (qval_ok hT hc)
        · cases h
  · rename_i hd
    dsimp only at hd
    subst hd
    split at h
    · subst_vars
      split at h
      · rename_i row hr
        split at h
        · rename_i b off hx
          split at h
          · rename_i cs ho
            split at h
            · rename_i vs hy
              cases hb : (Nat.beq vs.length row.size && Nat.ble (off + vs.length) cs.length) with
              | false => rw [hb] at h; cases h
              | true =>
                rw [hb] at h
                simp only [cond_true] at h
                simp only [Bool.and_eq_true] at hb
                split at h
                · rename_i cs' hcs
                  split at h
                  · rename_i s' hs'
                    cases h
                    have e1 := updF_eq hs'
                    rw [← forceL_eq hcs] at e1
                    rw [← e1]
                    exact opTo_store hx ho hy (hT _ _ hr).ty hb.1 hb.2
                  · cases h
                · cases h
            · cases h
          · cases h
        · cases h
      · cases h
    · cases h

/-- what is known less of is taken where more is known -/
def Mono (K : Post) : Prop := ∀ e fr σ fr' σ', FrLe fr fr' → StoLe σ σ' → K e fr' σ' → K e fr σ
theorem mono_kthen {y : Code} (h : Mono K) : Mono (kthen E y K) := fun e fr σ fr' σ' hf hs hk => by
  cases e <;> first | exact awp_le hf hs hk | exact h _ _ _ _ _ hf hs hk
theorem mono_kblock {id : Nat} (h : Mono K) : Mono (kblock id K) := fun e fr σ fr' σ' hf hs hk => by
  cases e
  case exit i =>
    simp only [kblock] at hk ⊢
    split
    · rename_i hi; rw [if_pos hi] at hk; exact h _ _ _ _ _ hf hs hk
    · rename_i hi; rw [if_neg hi] at hk; exact h _ _ _ _ _ hf hs hk
  all_goals exact h _ _ _ _ _ hf hs hk
theorem mono_join {J : Type} {frs : J → Fr} {stos : J → Sto} {M : J → Prop} (h : Mono K) : Mono (JoinK K frs stos M) := fun e fr σ fr' σ' hf hs hk => by
  cases e
  case normal =>
    obtain ⟨j, hm, h1, h2⟩ := hk
    exact ⟨j, hm, frLe_trans hf h1, stoLe_trans hs h2⟩
  all_goals exact h _ _ _ _ _ hf hs hk
theorem mono_at {e0 : Exit} {fr0 : Fr} {σ0 : Sto} : Mono (At e0 fr0 σ0) := fun e fr σ fr' σ' hf hs ⟨h1, h2, h3⟩ => ⟨h1, frLe_trans hf h2, stoLe_trans hs h3⟩
theorem mono_round {A R : Type} {frs : A → Fr} {stos : A → Sto} {e0 : R → Exit} {fr0 : R → Fr} {σ0 : R → Sto} {x : Step A R} : Mono (RoundK frs stos (fun b => At (e0 b) (fr0 b) (σ0 b)) x) := fun e fr σ fr' σ' hf hs hk => by
  cases x with
  | cont s => exact mono_at e fr σ fr' σ' hf hs hk
  | out r => exact ⟨hk.1, mono_at e fr σ fr' σ' hf hs hk.2⟩
theorem mono_kret {P : Program} {fn : Func} {r : AV} : Mono (Kret P fn r) := fun e fr σ fr' σ' hf hs ⟨h1, cs, h2, h3⟩ => ⟨h1, cs, h2.le hf hs, h3⟩

/-- what is to be done afterwards -/
inductive KS where
  | base (K : Post) (h : Mono K)
  | th (y : Code) (k : KS)
  | bl (id : Nat) (k : KS)
  | jo {J : Type} (frs : J → Fr) (stos : J → Sto) (M : J → Prop) (k : KS)
def KS.post (E : Env) : KS → Post
  | .base K _ => K
  | .th y k => kthen E y (k.post E)
  | .bl id k => kblock id (k.post E)
  | .jo frs stos M k => JoinK (k.post E) frs stos M
theorem KS.mono (E : Env) : ∀ k : KS, Mono (k.post E)
  | .base _ h => h
  | .th _ k => mono_kthen (k.mono E)
  | .bl _ k => mono_kblock (k.mono E)
  | .jo _ _ _ k => mono_join (k.mono E)
/-- where a walk stands -/
inductive GS where
  | ops (ops : Array Oper) (l : List Oper) (fr : Fr) (σ : Sto) (k : KS)
  | code (c : Code) (fr : Fr) (σ : Sto) (k : KS)
  | at (e : Exit) (fr : Fr) (σ : Sto) (k : KS)
def GS.holds (E : Env) : GS → Prop
  | .ops o l fr σ k => AWPL E o l fr σ (k.post E)
  | .code c fr σ k => AWP E c fr σ (k.post E)
  | .at e fr σ k => k.post E e fr σ
/-- one step -/
def GS.step (T : Tab) (N : Nat) : GS → Option GS
  | .ops o l fr σ k => (match l with
    | [] => some (.at .normal fr σ k)
    | x :: rest => (match x.guard with
      | none => (match opDo T N x fr σ with | some (fr', σ') => some (.ops o rest fr' σ' k) | none => none)
      | some (j, want) => (match (o[j]?).bind (·.dst) with
        | none => none
        | some d => (match fr.get d with
          | .pv (.b (.bool t)) => (match (match t, want with | true, w => w | false, w => !w) with
            | true => (match opDo T N x fr σ with | some (fr', σ') => some (.ops o rest fr' σ' k) | none => none)
            | false => (match x.dst with | some d => some (.ops o rest ((d, .tup []) :: fr) σ k) | none => some (.ops o rest fr σ k)))
          | .tup [] => (match x.dst with | some d => some (.ops o rest ((d, .tup []) :: fr) σ k) | none => some (.ops o rest fr σ k))
          | _ => none))))
  | .code c fr σ k => (match c with
    | .seq x y => some (.code x fr σ (.th y k))
    | .region _ os draw => (match draw with | false => some (.ops os os.toList fr σ k) | true => none)
    | .block id x => some (.code x fr σ (.bl id k))
    | .skip => some (.at .normal fr σ k)
    | .ret => some (.at .ret fr σ k)
    | .exit i => some (.at (.exit i) fr σ k)
    | .cond v x y => (match fr.ev v with
      | .pv (.b (.bool t)) => (match t with | true => some (.code x fr σ k) | false => some (.code y fr σ k))
      | _ => none)
    | _ => none)
  | .at e fr σ k => (match k with
    | .base _ _ => none
    | .th y k => (match e with
      | .normal => some (.code y fr σ k)
      | .ret => some (.at .ret fr σ k)
      | .exit i => some (.at (.exit i) fr σ k)
      | _ => none)
    | .bl id k => (match e with
      | .normal => some (.at .normal fr σ k)
      | .ret => some (.at .ret fr σ k)
      | .exit i => (match Nat.beq i id with | true => some (.at .normal fr σ k) | false => some (.at (.exit i) fr σ k))
      | _ => none)
    | .jo _ _ _ k => (match e with
      | .ret => some (.at .ret fr σ k)
      | .exit i => some (.at (.exit i) fr σ k)
      | _ => none))
def GS.run (T : Tab) (N : Nat) : Nat → GS → Option GS
  | 0, g => some g
  | n + 1, g => match GS.step T N g with
    | some g' => GS.run T N n g'
    | none => none
theorem step_ok {T : Tab} (hT : TabOk E.P T) {g g' : GS} (h : GS.step T E.N g = some g') (hh : g'.holds E) : g.holds E := by
  unfold GS.step at h
  split at h
  · rename_i o l fr σ k
    split at h
    · cases h; exact awpl_nil hh
    · rename_i x rest
      split at h
      · rename_i hg
        split at h
        · rename_i fr' σ' ho; cases h; exact awpl_op hg (opDo_ok hT ho) hh
        · cases h
      · rename_i j want hg
        split at h
        · cases h
        · rename_i d hj
          split at h
          · rename_i t hv
            split at h
            · rename_i hw
              have ht : t = want := by cases t <;> cases want <;> simp_all
              split at h
              · rename_i fr' σ' ho; cases h; exact awpl_yes hg hj hv ht (opDo_ok hT ho) hh
              · cases h
            · rename_i hw
              have ht : t = !want := by cases t <;> cases want <;> simp_all
              split at h
              · rename_i d' hd; cases h; exact awpl_no hg hj hv ht (by rw [hd]; exact hh)
              · rename_i hd; cases h; exact awpl_no hg hj hv ht (by rw [hd]; exact hh)
          · rename_i hv
            split at h
            · rename_i d' hd; cases h; exact awpl_none hg hj hv (by rw [hd]; exact hh)
            · rename_i hd; cases h; exact awpl_none hg hj hv (by rw [hd]; exact hh)
          · cases h
  · rename_i c fr σ k
    split at h
    · cases h; exact awp_seq hh
    · rename_i id ops draw
      cases draw with
      | false => cases h; obtain ⟨ops⟩ := ops; exact awp_region hh
      | true => cases h
    · cases h; exact awp_block hh
    · cases h; exact awp_skip hh
    · cases h; exact awp_ret hh
    · cases h; exact awp_exit hh
    · split at h
      · rename_i t hv
        cases t with
        | true => cases h; exact awp_cond hv (fun _ => hh) (fun h => nomatch h)
        | false => cases h; exact awp_cond hv (fun h => nomatch h) (fun _ => hh)
      · cases h
    · cases h
  · rename_i e fr σ k
    split at h
    · cases h
    · split at h <;> first | (cases h; done) | (cases h; exact hh)
    · split at h
      · cases h; exact hh
      · cases h; exact hh
      · rename_i id k _ i
        cases hb : Nat.beq i id with
        | true => rw [hb] at h; cases h; have := Nat.eq_of_beq_eq_true hb; subst this; exact kblock_exit hh
        | false => rw [hb] at h; cases h; exact kblock_other hb hh
      · cases h
    · split at h <;> first | (cases h; done) | (cases h; exact hh)
theorem rn {T : Tab} (hT : TabOk E.P T) (n : Nat) {g g' : GS} (h : GS.run T E.N n g = some g') (hh : g'.holds E) : g.holds E := by
  induction n generalizing g with
  | zero => simp only [GS.run, Option.some.injEq] at h; subst h; exact hh
  | succ n ih =>
    unfold GS.run at h
    split at h
    · rename_i g1 h1; exact step_ok hT h1 (ih h)
    · cases h
end
end Go.Proofs.Ytfhfjckjmacekaa

/- The calculus: the steps of a walk that are chosen or told, in short forms. No program is named. -/
namespace Go.Proofs.Ytfhfjckjmacekaa
open Go.RowKit

mutual
/-- does it say whether a slice is nil? -/
def AV.strong : AV → Bool
  | .pv (.sl (some _) _) => true
  | .agg cs => AV.strongL cs
  | .tup cs => AV.strongL cs
  | _ => false
def AV.strongL : List AV → Bool
  | [] => false
  | c :: cs => c.strong || AV.strongL cs
end
def Fr.sel (fr : Fr) (p : Nat × AV) : Nat × AV := (p.1, bif p.2.strong then fr.get p.1 else (fr.get p.1).weak)
theorem frw {fr : Fr} : ∀ {fr' : Fr}, fr'.map fr.sel = fr' → FrLe fr fr'
  | [], _ => frLe_nil
  | (k, a) :: r, h => by
    simp only [List.map_cons, List.cons.injEq] at h
    obtain ⟨h1, h2⟩ := h
    have h3 : (bif a.strong then fr.get k else (fr.get k).weak) = a := congrArg Prod.snd h1
    cases hs : a.strong with
    | true => rw [hs] at h3; exact frLe_cons h3 (frw h2)
    | false => rw [hs] at h3; exact frLe_weak h3 (frw h2)
def Sto.sel (σ : Sto) (p : Nat × AO) : Option AO := match p.2 with
  | .cells cs => bif AV.strongL cs then σ.get p.1 else (match σ.get p.1 with
    | some (.cells ds) => some (.cells (AV.weakL ds))
    | _ => none)
  | _ => σ.get p.1
theorem stw {σ : Sto} : ∀ {σ' : Sto}, σ'.map σ.sel = σ'.map (fun p => some p.2) → StoLe σ σ'
  | [], _ => stoLe_nil
  | (k, a) :: r, h => by
    simp only [List.map_cons, List.cons.injEq] at h
    obtain ⟨h1, h2⟩ := h
    unfold Sto.sel at h1
    split at h1
    · rename_i cs hc
      dsimp only at hc
      subst hc
      cases hs : AV.strongL cs with
      | true => rw [hs] at h1; exact stoLe_cons h1 (stw h2)
      | false =>
        rw [hs] at h1
        simp only [cond_false] at h1
        split at h1
        · rename_i ds hd
          simp only [Option.some.injEq, AO.cells.injEq] at h1
          exact stoLe_weak hd h1 (stw h2)
        · cases h1
    · exact stoLe_cons h1 (stw h2)
theorem kpw {fr : Fr} : ∀ {l : Fr}, l.map (fun p => fr.get p.1) = l.map (·.2) → Keep fr l
  | [], _ => .nil
  | (k, a) :: r, h => by
    simp only [List.map_cons, List.cons.injEq] at h
    exact .cons h.1 (kpw h.2)
theorem hdw {σ : Sto} {base : Nat} {T : Array Value} : ∀ {l : Fr}, l.map (fun p => σ.get (base + p.1)) = l.map (fun p => some (.hold p.2 (T.getD p.1 undef))) → Held σ base T l
  | [], _ => .nil
  | (k, a) :: r, h => by
    simp only [List.map_cons, List.cons.injEq] at h
    exact .cons h.1 (hdw h.2)

section
variable {E : Env} {fr : Fr} {σ : Sto} {k : KS} {ops : Array Oper} {l : List Oper} {R : Type} {r : R} {A B : Option R} {t : Bool}
theorem hO (h : (GS.ops ops l fr σ k).holds E) : AWPL E ops l fr σ (k.post E) := h
theorem hC {c : Code} (h : (GS.code c fr σ k).holds E) : AWP E c fr σ (k.post E) := h
theorem hB {K : Post} {c : Code} (hK : Mono K) (h : (GS.code c fr σ (.base K hK)).holds E) : AWP E c fr σ K := h
theorem hA {e : Exit} (h : (GS.at e fr σ k).holds E) : k.post E e fr σ := h
theorem St.relit {g : G} {a : Act} (h : St E g a fr σ) {d : Nat} (hd : fr.get d = .pv (.b (.bool t))) : St E g a ((d, .pv (.b (.bool t))) :: fr) σ := h.reslot (by rw [← hd]; exact h.fr d)
/-- a condition that is known -/
theorem kn (d : Nat) {b : Bool} (hc : t = b) (hd : fr.get d = .pv (.b (.bool t))) (h : (GS.ops ops l ((d, .pv (.b (.bool b))) :: fr) σ k).holds E) : (GS.ops ops l fr σ k).holds E := by
  subst hc
  exact ⟨fun g a hs => h.go g a (hs.relit hd)⟩
theorem knC (d : Nat) {b : Bool} {c : Code} (hc : t = b) (hd : fr.get d = .pv (.b (.bool t))) (h : (GS.code c ((d, .pv (.b (.bool b))) :: fr) σ k).holds E) : (GS.code c fr σ k).holds E := by
  subst hc
  exact ⟨fun g a hs => h.go g a (hs.relit hd)⟩
/-- both ways -/
theorem bs (d : Nat) (hr : (bif t then A else B) = some r) (hd : fr.get d = .pv (.b (.bool t))) (hT : t = true → A = some r → (GS.ops ops l ((d, .pv (.b (.bool true))) :: fr) σ k).holds E) (hF : t = false → B = some r → (GS.ops ops l ((d, .pv (.b (.bool false))) :: fr) σ k).holds E) : (GS.ops ops l fr σ k).holds E := by
  cases t with
  | true => exact kn d rfl hd (hT rfl hr)
  | false => exact kn d rfl hd (hF rfl hr)
theorem ac (d : Nat) {x y : Code} (hr : (bif t then A else B) = some r) (hd : fr.get d = .pv (.b (.bool t))) (hT : t = true → A = some r → (GS.code x ((d, .pv (.b (.bool true))) :: fr) σ k).holds E) (hF : t = false → B = some r → (GS.code y ((d, .pv (.b (.bool false))) :: fr) σ k).holds E) : (GS.code (.cond (.tmp d) x y) fr σ k).holds E :=
  awp_cond (t := t) hd (fun h => by subst h; exact ⟨fun g a hs => (hT rfl hr).go g a (hs.relit hd)⟩) (fun h => by subst h; exact ⟨fun g a hs => (hF rfl hr).go g a (hs.relit hd)⟩)
/-- several ways lead to the rest -/
theorem jb {J : Type} {X : Option J} {f : J → Option R} {x y : Code} (hr : X.bind f = some r) (frs : J → Fr) (stos : J → Sto) (hx : ∀ j, X = some j → (GS.code x fr σ (.jo frs stos (fun z => j = z) k)).holds E) (hy : ∀ j, f j = some r → (GS.code y (frs j) (stos j) k).holds E) : (GS.code (.seq x y) fr σ k).holds E := by
  obtain ⟨j, h1, h2⟩ := bind_some hr
  exact awp_join frs stos (fun z => j = z) (hx j h1) (fun _ hz => hz ▸ hy j h2)
theorem jk {J : Type} {x y : Code} (frs : J → Fr) (stos : J → Sto) (M : J → Prop) (hx : (GS.code x fr σ (.jo frs stos M k)).holds E) (hy : ∀ j, M j → (GS.code y (frs j) (stos j) k).holds E) : (GS.code (.seq x y) fr σ k).holds E :=
  awp_join frs stos M hx hy
theorem jn {J : Type} {frs : J → Fr} {stos : J → Sto} {M : J → Prop} (j : J) (hm : M j) (hf : (frs j).map fr.sel = frs j) (hs : (stos j).map σ.sel = (stos j).map (fun p => some p.2)) : (GS.at .normal fr σ (.jo frs stos M k)).holds E := ⟨j, hm, frw hf, stw hs⟩
theorem ct {J : Type} {X : Option J} {f : J → Option R} {o : Oper} (hr : X.bind f = some r) (frs : J → Fr) (stos : J → Sto)
    (hx : ∀ j, X = some j → (∀ fr' σ', (frs j).map fr'.sel = frs j → (stos j).map σ'.sel = (stos j).map (fun p => some p.2) → AWPL E ops l fr' σ' (k.post E)) → (GS.ops ops (o :: l) fr σ k).holds E) (hy : ∀ j, f j = some r → (GS.ops ops l (frs j) (stos j) k).holds E) : (GS.ops ops (o :: l) fr σ k).holds E := by
  obtain ⟨j, h1, h2⟩ := bind_some hr
  exact hx j h1 (fun fr' σ' hf hs => awpl_le (frw hf) (stw hs) (hy j h2))
/-- a loop -/
def isN : Exit → Bool
  | .normal => true
  | _ => false
theorem al {A B : Type} {c : Code} {body : A → Option (Step A B)} {s : A} {f : B → Option R} (hr : (iter body s).bind f = some r) (frs : A → Fr) (stos : A → Sto) (e0 : B → Exit) (fr0 : B → Fr) (σ0 : B → Sto) (hf : (frs s).map fr.sel = frs s) (hs : (stos s).map σ.sel = (stos s).map (fun p => some p.2))
    (h : ∀ s x, body s = some x → (GS.code c (frs s) (stos s) (.base (RoundK frs stos (fun b => At (e0 b) (fr0 b) (σ0 b)) x) mono_round)).holds E)
    (hK : ∀ b, f b = some r → (GS.at (e0 b) (fr0 b) (σ0 b) k).holds E) : (GS.code (.loop c) fr σ k).holds E := by
  obtain ⟨b, h1, h2⟩ := bind_some hr
  exact awp_loop body frs stos (fun b => At (e0 b) (fr0 b) (σ0 b)) (fun s x hx => h s x hx) s h1 (frw hf) (stw hs) (fun e fr σ ⟨he, hf, hs⟩ => by
    subst he
    exact k.mono E _ _ _ _ _ hf hs (hK b h2))
theorem al1 {A B : Type} {c : Code} {body : A → Option (Step A B)} {s : A} {f : B → Option R} (hr : (iter body s).bind f = some r) (frs : A → Fr) (stos : A → Sto) (e0 : Exit) (fr0 : B → Fr) (σ0 : B → Sto) (hf : (frs s).map fr.sel = frs s) (hs : (stos s).map σ.sel = (stos s).map (fun p => some p.2))
    (h : ∀ s x, body s = some x → (GS.code c (frs s) (stos s) (.base (RoundK frs stos (fun b => At ((fun _ => e0) b) (fr0 b) (σ0 b)) x) mono_round)).holds E)
    (hK : ∀ b, f b = some r → (GS.at e0 (fr0 b) (σ0 b) k).holds E) : (GS.code (.loop c) fr σ k).holds E := al hr frs stos (fun _ => e0) fr0 σ0 hf hs h hK
theorem al2 {A B C : Type} {c : Code} {body : A → Option (Step A (B ⊕ C))} {s : A} {f : B → Option R} {g : C → Option R} (hr : (iter body s).bind (Sum.elim f g) = some r) (frs : A → Fr) (stos : A → Sto) (e1 : Exit) (fr1 : B → Fr) (σ1 : B → Sto) (e2 : Exit) (fr2 : C → Fr) (σ2 : C → Sto) (hf : (frs s).map fr.sel = frs s) (hs : (stos s).map σ.sel = (stos s).map (fun p => some p.2))
    (h : ∀ s x, body s = some x → (GS.code c (frs s) (stos s) (.base (RoundK frs stos (fun b => At (Sum.elim (fun _ => e1) (fun _ => e2) b) (Sum.elim fr1 fr2 b) (Sum.elim σ1 σ2 b)) x) mono_round)).holds E)
    (hK1 : ∀ b, f b = some r → (GS.at e1 (fr1 b) (σ1 b) k).holds E) (hK2 : ∀ b, g b = some r → (GS.at e2 (fr2 b) (σ2 b) k).holds E) : (GS.code (.loop c) fr σ k).holds E :=
  al hr frs stos _ _ _ hf hs h (fun b hb => by cases b with | inl b => exact hK1 b hb | inr b => exact hK2 b hb)
theorem al3 {A B C D : Type} {c : Code} {body : A → Option (Step A (B ⊕ C ⊕ D))} {s : A} {f : B → Option R} {g : C → Option R} {g3 : D → Option R} (hr : (iter body s).bind (Sum.elim f (Sum.elim g g3)) = some r) (frs : A → Fr) (stos : A → Sto) (e1 : Exit) (fr1 : B → Fr) (σ1 : B → Sto) (e2 : Exit) (fr2 : C → Fr) (σ2 : C → Sto) (e3 : Exit) (fr3 : D → Fr) (σ3 : D → Sto) (hf : (frs s).map fr.sel = frs s) (hs : (stos s).map σ.sel = (stos s).map (fun p => some p.2))
    (h : ∀ s x, body s = some x → (GS.code c (frs s) (stos s) (.base (RoundK frs stos (fun b => At (Sum.elim (fun _ => e1) (Sum.elim (fun _ => e2) (fun _ => e3)) b) (Sum.elim fr1 (Sum.elim fr2 fr3) b) (Sum.elim σ1 (Sum.elim σ2 σ3) b)) x) mono_round)).holds E)
    (hK1 : ∀ b, f b = some r → (GS.at e1 (fr1 b) (σ1 b) k).holds E) (hK2 : ∀ b, g b = some r → (GS.at e2 (fr2 b) (σ2 b) k).holds E) (hK3 : ∀ b, g3 b = some r → (GS.at e3 (fr3 b) (σ3 b) k).holds E) : (GS.code (.loop c) fr σ k).holds E :=
  al hr frs stos _ _ _ hf hs h (fun b hb => by rcases b with b | b | b; exact hK1 b hb; exact hK2 b hb; exact hK3 b hb)
theorem atc {A B : Type} {frs : A → Fr} {stos : A → Sto} {e0 : B → Exit} {fr0 : B → Fr} {σ0 : B → Sto} {s : A} {hm : Mono (RoundK frs stos (fun b => At (e0 b) (fr0 b) (σ0 b)) (.cont s))} (hf : (frs s).map fr.sel = frs s) (hs : (stos s).map σ.sel = (stos s).map (fun p => some p.2)) : (GS.at .normal fr σ (.base (RoundK frs stos (fun b => At (e0 b) (fr0 b) (σ0 b)) (.cont s)) hm)).holds E := ⟨rfl, frw hf, stw hs⟩
theorem ato {A B : Type} {e : Exit} {frs : A → Fr} {stos : A → Sto} {e0 : B → Exit} {fr0 : B → Fr} {σ0 : B → Sto} {b : B} {hm : Mono (RoundK frs stos (fun b => At (e0 b) (fr0 b) (σ0 b)) (.out b))} (he : e = e0 b) (hn : isN e = false) (hf : (fr0 b).map fr.sel = fr0 b) (hs : (σ0 b).map σ.sel = (σ0 b).map (fun p => some p.2)) : (GS.at e fr σ (.base (RoundK frs stos (fun b => At (e0 b) (fr0 b) (σ0 b)) (.out b)) hm)).holds E :=
  ⟨fun h => (by rw [h] at hn; cases hn), he, frw hf, stw hs⟩
/-- results -/
def resOf (T : Tab) (fr : Fr) (σ : Sto) : List ResultVar → Option (List AV)
  | [] => some []
  | .tmp t :: r => (match (fr.get t).force, resOf T fr σ r with | some c, some cs => some (c :: cs) | _, _ => none)
  | .cell a t :: r => (match fr.get a, T.get t with
    | .ptr o 0, some row => (match σ.get o with
      | some (.cells ds) => bif dAgg row.desc then (bif Nat.ble row.size ds.length then (match forceL (ds.take row.size), resOf T fr σ r with | some l, some cs => some (.agg l :: cs) | _, _ => none) else none)
        else (match ds[0]?, resOf T fr σ r with | some c, some cs => some (c :: cs) | _, _ => none)
      | _ => none)
    | _, _ => none)
theorem resOf_ok {P : Program} {T : Tab} (hT : TabOk P T) : ∀ {l : List ResultVar} {cs : List AV}, resOf T fr σ l = some cs → ResL P fr σ l cs
  | [], _, h => by simp [resOf] at h; subst h; exact .nil
  | .tmp t :: l, _, h => by
    unfold resOf at h
    split at h
    · rename_i h1 h2; cases h; exact .cons (res_tmp (AV.force_eq h1)) (resOf_ok hT h2)
    · cases h
  | .cell a t :: l, _, h => by
    unfold resOf at h
    split at h
    · rename_i o row ha hr
      have ht := (hT _ _ hr).ty
      split at h
      · rename_i ds ho
        cases hd : dAgg row.desc with
        | true =>
          rw [hd] at h
          simp only [cond_true] at h
          cases hn : Nat.ble row.size ds.length with
          | false => rw [hn] at h; cases h
          | true =>
            rw [hn] at h
            simp only [cond_true] at h
            split at h
            · rename_i h1 h2; cases h; rw [← forceL_eq h1]; exact .cons (res_cellN ha ho ht hd hn) (resOf_ok hT h2)
            · cases h
        | false =>
          rw [hd] at h
          simp only [cond_false] at h
          split at h
          · rename_i h1 h2; cases h; exact .cons (res_cell ha ho ht hd h1) (resOf_ok hT h2)
          · cases h
      · cases h
    · cases h
theorem kr {P : Program} {T : Tab} (hT : TabOk P T) {e : Exit} {fn : Func} {cs : List AV} {r : AV} {hm : Mono (Kret P fn r)} (he : isN e = true ∨ e = .ret) (h : resOf T fr σ fn.results.toList = some cs) (hr : retAV cs = r) : (GS.at e fr σ (.base (Kret P fn r) hm)).holds E :=
  ⟨by cases e <;> simp_all [isN], cs, resOf_ok hT h, hr⟩
/-- the contract of a function -/
theorem rf {P : Program} {f : FuncId} {fn : Func} {c : Code} (hok : FnOk P f fn c) {args : List AV} {r : AV} (hN : Nat.ble args.length fn.ntmps = true) (hr : ∀ k, r.has k = false)
    (h : ∀ g0 (hg : Gl g0), (GS.code c (frameFrom 0 args) [] (.base (Kret P fn r) mono_kret)).holds ⟨P, none, fun _ => False, g0, fn.ntmps, false, hg⟩) : Run P f args r := run_of_awp hok hN hr h
end

section
variable {E : Env} {fr : Fr} {σ : Sto} {k : KS} {ops : Array Oper} {rest : List Oper} {ty : TypeId} {pos : String} {af : Array Edge} {x y z : Operand} {t t' t2 e : TypeId}
variable {α : Type} {F : α → List PV} {l xs r' v : List α} {nl : Option Bool} {k1 k2 : IntKind} {d r lim size : Nat} {n p q : Int} {mu : Bool} {b2 : Nat} {z1 z2 : Value} {td : TypeDesc} {T : Tab} {c : AV}
/-- the guard is known to hold -/
theorem ug {dst : Option Tmp} {op : Op} {j d : Nat} {want b : Bool} (hj : (ops[j]?).bind (·.dst) = some d) (hv : fr.get d = .pv (.b (.bool b))) (ht : b = want)
    (h : (GS.ops ops (⟨dst, op, ty, pos, af, none⟩ :: rest) fr σ k).holds E) : (GS.ops ops (⟨dst, op, ty, pos, af, some (j, want)⟩ :: rest) fr σ k).holds E :=
  ⟨fun g a hs => by
    have hy := yielded_of hs hj hv
    have hw : Region.wanted ⟨dst, op, ty, pos, af, some (j, want)⟩ (yielded ops a.tmps) = true := by simp [Region.wanted, hy, ht]
    have h0 := h.go g a hs
    have hw0 : Region.wanted ⟨dst, op, ty, pos, af, none⟩ (yielded ops a.tmps) = true := by simp [Region.wanted]
    simp only [wpListIn, hw, hw0, if_true] at h0 ⊢
    exact h0⟩
theorem wo {o : Oper} {fr' : Fr} {σ' : Sto} (ho : OpTo E o fr σ fr' σ') (hg : o.guard = none) (h : (GS.ops ops rest fr' σ' k).holds E) : (GS.ops ops (o :: rest) fr σ k).holds E := awpl_op hg ho h
theorem wq {o : Oper} (h : EvQ E.P o fr.ev σ c) (hg : o.guard = none) (hd : o.dst = some d) (hN : Nat.ble (d + 1) E.N = true) (hq : (GS.ops ops rest ((d, c) :: fr) σ k).holds E) : (GS.ops ops (o :: rest) fr σ k).holds E := awpl_op hg (opTo_q hd hN h) hq
theorem cl {f : FuncId} {d : Nat} {xs : List Operand} {ats : Array TypeId} {args : List AV} {r : AV} (hr : Run E.P f args r) (hN : Nat.ble (d + 1) E.N = true) (ha : xs.map (fun x => (fr.ev x).weak) = args) (h : (GS.ops ops rest ((d, r) :: fr) σ k).holds E) :
    (GS.ops ops (⟨some d, .call ⟨.value (.func f), xs.toArray, ats⟩, ty, pos, af, none⟩ :: rest) fr σ k).holds E := awpl_op rfl (opTo_call hr hN ha) h
/-- the row of a slice's type, and that of its elements -/
def Tab.sl (T : Tab) (t : TypeId) : Option (TypeId × TyRow) := match T.get t with
  | some ⟨_, _, _, .slice e, _⟩ => (match T.get e with | some r => some (e, r) | none => none)
  | _ => none
theorem Tab.sl_ok {P : Program} (hT : TabOk P T) {row : TyRow} (h : T.sl t = some (e, row)) : (∃ ss sb sz, TyOk P t ss sb sz (.slice e)) ∧ TyOk P e row.size row.bytes row.zero row.desc := by
  unfold Tab.sl at h
  split at h
  · rename_i h1
    split at h
    · rename_i h2
      cases h
      exact ⟨⟨_, _, _, (hT _ _ h1).ty⟩, (hT _ _ h2).ty⟩
    · cases h
  · cases h
def Tab.st (T : Tab) (t : TypeId) : Bool := match T.get t with
  | some ⟨_, _, _, .string, _⟩ => true
  | _ => false
theorem Tab.st_ok {P : Program} (hT : TabOk P T) (h : T.st t = true) : ∃ ss sb sz, TyOk P t ss sb sz .string := by
  unfold Tab.st at h
  split at h
  · rename_i h1; exact ⟨_, _, _, (hT _ _ h1).ty⟩
  · cases h
variable {row : TyRow}
theorem wi {a : α} (hT : TabOk E.P T) (hi : idx l n = some a) (hs : T.sl t = some (e, row)) (hx : fr.ev x = .pv (.sl nl (l.map F))) (hy : fr.ev y = .pv (.b (.int k1 n))) (hz : (F a).length = row.size) (hN : Nat.ble (d + 1) E.N = true) (hq : (GS.ops ops rest ((d, .ep (F a)) :: fr) σ k).holds E) :
    (GS.ops ops (⟨some d, .indexAddr t x y, ty, pos, af, none⟩ :: rest) fr σ k).holds E := by
  obtain ⟨⟨_, _, _, h1⟩, h2⟩ := Tab.sl_ok hT hs
  exact awpl_op rfl (opTo_q rfl hN (ev_idx hx hy h1 h2 hz hi)) hq
theorem wih {a : α} (hT : TabOk E.P T) (hi : idx l n = some a) (hs : T.sl t = some (e, row)) (hx : fr.ev x = .hs r 0) (hy : fr.ev y = .pv (.b (.int k1 n))) (hr : σ.get r = some (.row e mu row.size (l.map F))) (hN : Nat.ble (d + 1) E.N = true) (hq : (GS.ops ops rest ((d, .hp r n.toNat 0) :: fr) σ k).holds E) :
    (GS.ops ops (⟨some d, .indexAddr t x y, ty, pos, af, none⟩ :: rest) fr σ k).holds E := by
  obtain ⟨⟨_, _, _, h1⟩, h2⟩ := Tab.sl_ok hT hs
  exact awpl_op rfl (opTo_q rfl hN (ev_hidx hx hy hr h1 h2 hi)) hq
theorem ws {s : Str} {b : UInt8} (hT : TabOk E.P T) (hi : idx s n = some b) (hs : T.st t = true) (hx : (fr.ev x).str? = some s) (hy : fr.ev y = .pv (.b (.int k1 n))) (hN : Nat.ble (d + 1) E.N = true) (hq : (GS.ops ops rest ((d, .u8 b) :: fr) σ k).holds E) :
    (GS.ops ops (⟨some d, .index t x y, ty, pos, af, none⟩ :: rest) fr σ k).holds E := by
  obtain ⟨_, _, _, h1⟩ := Tab.st_ok hT hs
  exact awpl_op rfl (opTo_q rfl hN (ev_sidx (AV.str?_eq hx) hy h1 hi)) hq
theorem wc {a b s : Str} (hi : cat a b = some s) (hx : (fr.ev x).str? = some a) (hy : (fr.ev y).str? = some b) (hN : Nat.ble (d + 1) E.N = true) (hq : (GS.ops ops rest ((d, .s s) :: fr) σ k).holds E) :
    (GS.ops ops (⟨some d, .binOp .add t x y t', ty, pos, af, none⟩ :: rest) fr σ k).holds E := awpl_op rfl (opTo_q rfl hN (ev_cat (AV.str?_eq hx) (AV.str?_eq hy) hi)) hq
/-- len of a slice -/
theorem wn (hT : TabOk E.P T) (hs : T.sl t = some (e, row)) (hx : fr.ev x = .pv (.sl nl (l.map F))) (hN : Nat.ble (d + 1) E.N = true) (hq : (GS.ops ops rest ((d, .i l.length) :: fr) σ k).holds E) :
    (GS.ops ops (⟨some d, .call ⟨.builtin .len, #[x], #[t]⟩, ty, pos, af, none⟩ :: rest) fr σ k).holds E := by
  obtain ⟨⟨_, _, _, h1⟩, h2⟩ := Tab.sl_ok hT hs
  exact awpl_op rfl (opTo_q rfl hN (ev_llen hx h1.u)) hq
theorem wnh (hT : TabOk E.P T) (hs : T.sl t = some (e, row)) (hx : fr.ev x = .hs r 0) (hr : σ.get r = some (.row e mu size (l.map F))) (hN : Nat.ble (d + 1) E.N = true) (hq : (GS.ops ops rest ((d, .i l.length) :: fr) σ k).holds E) :
    (GS.ops ops (⟨some d, .call ⟨.builtin .len, #[x], #[t]⟩, ty, pos, af, none⟩ :: rest) fr σ k).holds E := by
  obtain ⟨⟨_, _, _, h1⟩, h2⟩ := Tab.sl_ok hT hs
  exact awpl_op rfl (opTo_q rfl hN (ev_hlen hx hr h1.u)) hq
/-- a byte as an int -/
def Tab.ub (T : Tab) (t t' : TypeId) : Bool := match T.get t, T.get t' with
  | some ⟨_, _, _, .int .u8, _⟩, some ⟨_, _, _, .int .i64, _⟩ => true
  | _, _ => false
theorem wu {b : UInt8} (hT : TabOk E.P T) (hs : T.ub t t' = true) (hx : fr.ev x = .u8 b) (hN : Nat.ble (d + 1) E.N = true) (hq : (GS.ops ops rest ((d, .i b.toNat) :: fr) σ k).holds E) :
    (GS.ops ops (⟨some d, .convert t t' x, ty, pos, af, none⟩ :: rest) fr σ k).holds E := by
  unfold Tab.ub at hs
  split at hs
  · rename_i h1 h2; exact awpl_op rfl (opTo_q rfl hN (ev_u8int hx (hT _ _ h1).ty (hT _ _ h2).ty)) hq
  · cases hs
section
variable {s w : Str}
theorem wsc (hT : TabOk E.P T) (hr : cut s 0 s.length = some w) (hs : T.st t = true) (hx : (fr.ev x).str? = some s) (hN : Nat.ble (d + 1) E.N = true) (hq : (GS.ops ops rest ((d, .s w) :: fr) σ k).holds E) :
    (GS.ops ops (⟨some d, .slice t x none none none, ty, pos, af, none⟩ :: rest) fr σ k).holds E := by
  obtain ⟨_, _, _, h1⟩ := Tab.st_ok hT hs
  exact awpl_op rfl (opTo_q rfl hN (ev_scut (AV.str?_eq hx) h1 hr)) hq
theorem wscL (hT : TabOk E.P T) (hr : cut s p s.length = some w) (hs : T.st t = true) (hx : (fr.ev x).str? = some s) (hy : fr.ev y = .pv (.b (.int k1 p))) (hN : Nat.ble (d + 1) E.N = true) (hq : (GS.ops ops rest ((d, .s w) :: fr) σ k).holds E) :
    (GS.ops ops (⟨some d, .slice t x (some y) none none, ty, pos, af, none⟩ :: rest) fr σ k).holds E := by
  obtain ⟨_, _, _, h1⟩ := Tab.st_ok hT hs
  exact awpl_op rfl (opTo_q rfl hN (ev_scutL (AV.str?_eq hx) hy h1 hr)) hq
theorem wscH (hT : TabOk E.P T) (hr : cut s 0 q = some w) (hs : T.st t = true) (hx : (fr.ev x).str? = some s) (hy : fr.ev z = .pv (.b (.int k1 q))) (hN : Nat.ble (d + 1) E.N = true) (hq : (GS.ops ops rest ((d, .s w) :: fr) σ k).holds E) :
    (GS.ops ops (⟨some d, .slice t x none (some z) none, ty, pos, af, none⟩ :: rest) fr σ k).holds E := by
  obtain ⟨_, _, _, h1⟩ := Tab.st_ok hT hs
  exact awpl_op rfl (opTo_q rfl hN (ev_scutH (AV.str?_eq hx) hy h1 hr)) hq
theorem wscLH (hT : TabOk E.P T) (hr : cut s p q = some w) (hs : T.st t = true) (hx : (fr.ev x).str? = some s) (hy : fr.ev y = .pv (.b (.int k1 p))) (hz : fr.ev z = .pv (.b (.int k2 q))) (hN : Nat.ble (d + 1) E.N = true) (hq : (GS.ops ops rest ((d, .s w) :: fr) σ k).holds E) :
    (GS.ops ops (⟨some d, .slice t x (some y) (some z) none, ty, pos, af, none⟩ :: rest) fr σ k).holds E := by
  obtain ⟨_, _, _, h1⟩ := Tab.st_ok hT hs
  exact awpl_op rfl (opTo_q rfl hN (ev_scutLH (AV.str?_eq hx) hy hz h1 hr)) hq
end
theorem wl (hT : TabOk E.P T) (hr : cut l 0 l.length = some v) (hs : T.sl t = some (e, row)) (hx : fr.ev x = .pv (.sl nl (l.map F))) (hF : ∀ x, (F x).length = row.size) (hN : Nat.ble (d + 1) E.N = true) (hq : (GS.ops ops rest ((d, .l F v) :: fr) σ k).holds E) :
    (GS.ops ops (⟨some d, .slice t x none none none, ty, pos, af, none⟩ :: rest) fr σ k).holds E := by
  obtain ⟨⟨_, _, _, h1⟩, h2⟩ := Tab.sl_ok hT hs
  exact awpl_op rfl (opTo_q rfl hN (ev_cut hx h1 h2 hF hr)) hq
theorem wlL (hT : TabOk E.P T) (hr : cut l p l.length = some v) (hs : T.sl t = some (e, row)) (hx : fr.ev x = .pv (.sl nl (l.map F))) (hy : fr.ev y = .pv (.b (.int k1 p))) (hF : ∀ x, (F x).length = row.size) (hN : Nat.ble (d + 1) E.N = true) (hq : (GS.ops ops rest ((d, .l F v) :: fr) σ k).holds E) :
    (GS.ops ops (⟨some d, .slice t x (some y) none none, ty, pos, af, none⟩ :: rest) fr σ k).holds E := by
  obtain ⟨⟨_, _, _, h1⟩, h2⟩ := Tab.sl_ok hT hs
  exact awpl_op rfl (opTo_q rfl hN (ev_cutL hx hy h1 h2 hF hr)) hq
theorem wlH (hT : TabOk E.P T) (hr : cut l 0 q = some v) (hs : T.sl t = some (e, row)) (hx : fr.ev x = .pv (.sl nl (l.map F))) (hy : fr.ev z = .pv (.b (.int k1 q))) (hF : ∀ x, (F x).length = row.size) (hN : Nat.ble (d + 1) E.N = true) (hq : (GS.ops ops rest ((d, .l F v) :: fr) σ k).holds E) :
    (GS.ops ops (⟨some d, .slice t x none (some z) none, ty, pos, af, none⟩ :: rest) fr σ k).holds E := by
  obtain ⟨⟨_, _, _, h1⟩, h2⟩ := Tab.sl_ok hT hs
  exact awpl_op rfl (opTo_q rfl hN (ev_cutH hx hy h1 h2 hF hr)) hq
theorem wlLH (hT : TabOk E.P T) (hr : cut l p q = some v) (hs : T.sl t = some (e, row)) (hx : fr.ev x = .pv (.sl nl (l.map F))) (hy : fr.ev y = .pv (.b (.int k1 p))) (hz : fr.ev z = .pv (.b (.int k2 q))) (hF : ∀ x, (F x).length = row.size) (hN : Nat.ble (d + 1) E.N = true) (hq : (GS.ops ops rest ((d, .l F v) :: fr) σ k).holds E) :
    (GS.ops ops (⟨some d, .slice t x (some y) (some z) none, ty, pos, af, none⟩ :: rest) fr σ k).holds E := by
  obtain ⟨⟨_, _, _, h1⟩, h2⟩ := Tab.sl_ok hT hs
  exact awpl_op rfl (opTo_q rfl hN (ev_cutLH hx hy hz h1 h2 hF hr)) hq
def rowFit (row : TyRow) (lim : Nat) : Bool := Nat.beq row.zero.cells.size row.size && Nat.ble 1 row.size && (Nat.ble (lim * row.bytes) 140737488355328 && Nat.ble lim 9223372036854775807)
theorem wa (hT : TabOk E.P T) (h : app lim l xs = some r') (hs : T.sl t = some (e, row)) (hx : fr.ev x = .hs r 0) (hr : σ.get r = some (.row e mu row.size (l.map F))) (hy : fr.ev y = .pv (.sl nl (xs.map F))) (hF : ∀ x, (F x).length = row.size) (hfit : rowFit row lim = true) (hN : Nat.ble (d + 1) E.N = true) (hq : (GS.ops ops rest ((d, .hs r 0) :: fr.clr r) ((σ.clr r).upd r (.row e mu row.size (r'.map F))) k).holds E) :
    (GS.ops ops (⟨some d, .call ⟨.builtin .append, #[x, y], #[t, t]⟩, ty, pos, af, none⟩ :: rest) fr σ k).holds E := by
  obtain ⟨⟨_, _, _, h1⟩, h2⟩ := Tab.sl_ok hT hs
  simp only [rowFit, Bool.and_eq_true] at hfit
  exact awpl_op rfl (opTo_append hN hx hr hy h1 h2 hfit.1.1 hfit.1.2 hF (by simp only [Bool.and_eq_true]; exact hfit.2) h) hq
theorem wa0 (r : Nat) (hT : TabOk E.P T) (h : app lim [] xs = some r') (hs : T.sl t = some (e, row)) (hx : fr.ev x = .pv (.sl (some true) [])) (hy : fr.ev y = .pv (.sl nl (xs.map F))) (hF : ∀ x, (F x).length = row.size) (hfit : rowFit row lim = true) (hf : (fr.has r || σ.has r) = false) (hN : Nat.ble (d + 1) E.N = true) (hq : (GS.ops ops rest ((d, .hs r 0) :: fr.clr r) ((Sto.clr r ((r, .row e false row.size []) :: σ)).upd r (.row e false row.size (r'.map F))) k).holds E) :
    (GS.ops ops (⟨some d, .call ⟨.builtin .append, #[x, y], #[t, t]⟩, ty, pos, af, none⟩ :: rest) fr σ k).holds E := by
  obtain ⟨⟨_, _, _, h1⟩, h2⟩ := Tab.sl_ok hT hs
  simp only [rowFit, Bool.and_eq_true] at hfit
  simp only [Bool.or_eq_false_iff] at hf
  exact awpl_op rfl (opTo_append0 r hN hx hy h1 h2 hfit.1.1 hfit.1.2 hF (by simp only [Bool.and_eq_true]; exact hfit.2) hf.1 hf.2 h) hq
def Tab.bs (T : Tab) (t t2 : TypeId) : Bool := match T.get t with
  | some ⟨_, _, _, .slice e, _⟩ => (match T.get e with | some ⟨_, _, _, .int .u8, _⟩ => T.st t2 | _ => false)
  | _ => false
theorem wb {s : Str} (hT : TabOk E.P T) (hs : T.bs t t2 = true) (hx : fr.ev x = .pv (.sl nl (s.map cU))) (hN : Nat.ble (d + 1) E.N = true) (hq : (GS.ops ops rest ((d, .s s) :: fr) σ k).holds E) :
    (GS.ops ops (⟨some d, .convert t t2 x, ty, pos, af, none⟩ :: rest) fr σ k).holds E := by
  unfold Tab.bs at hs
  split at hs
  · rename_i h1
    split at hs
    · rename_i h2
      obtain ⟨_, _, _, h3⟩ := Tab.st_ok hT hs
      exact awpl_op rfl (opTo_q rfl hN (ev_bytes2s hx (hT _ _ h1).ty (hT _ _ h2).ty h3)) hq
    · cases hs
  · cases hs
/-- a slice's literal -/
theorem wz (F : α → List PV) (l : List α) {m : Nat} {ps : List (Nat × Operand)} (hT : TabOk E.P T) (hs : T.sl t = some (e, row)) (hzs : (Nat.beq row.zero.cells.size row.size && Nat.ble 1 row.size && row.zero.cells.toList.all cellV) = true) (hF : ∀ x, (F x).length = row.size) (hln : (Nat.beq l.length m && Nat.ble (m * row.size) 16777216) = true)
    (hc : fillA (fun i => some (i * row.size, row.size)) (List.replicate (m * row.size) .any) (ps.map fun p => (p.1, (fr.ev p.2).weak)) = some (l.flatMap fun x => (F x).map AV.pv)) (hN : Nat.ble (d + 1) E.N = true) (hq : (GS.ops ops rest ((d, .l F l) :: fr) σ k).holds E) :
    (GS.ops ops (⟨some d, .buildSlice t m ps.toArray, ty, pos, af, none⟩ :: rest) fr σ k).holds E := by
  obtain ⟨⟨_, _, _, h1⟩, h2⟩ := Tab.sl_ok hT hs
  exact awpl_op rfl (opTo_g rfl hN (opG_lit h1 h2 hzs hF hln hc)) hq
/-- a region that draws its order -/
theorem dr {id : Nat} {l : List Oper} (m : Nat) (new : Fr) {cs : List AV} (hmix : E.P.follows .mixedOrders = true) (hok : drawOk l m = true) (hm : Nat.ble m l.length = true) (hN : ((l.take m).all fun o => o.dst.all fun d => Nat.ble (d + 1) E.N) = true)
    (hp : Pres E l.toArray (new ++ fr) σ (l.take m) cs) (hnew : newOf (l.take m) cs [] = new) (h : (GS.ops l.toArray (l.drop m) (new ++ fr) σ k).holds E) : (GS.code (.region id l.toArray true) fr σ k).holds E := awp_drawn m new hmix hok hm hN hp hnew h
theorem pq {o : Oper} {l : List Oper} {cs : List AV} (hT : TabOk E.P T) (hq : qval T fr.ev σ o.op = some c) (hg : GuardYes ops fr o) (hr : Pres E ops fr σ l cs) : Pres E ops fr σ (o :: l) (c :: cs) := .run hg (opG_q (qval_ok hT hq)) hr
/-- calls in place -/
theorem mono_inl {d : Nat} {fn : Func} {base sid : Nat} {T : Array Value} {ds : List Deferred} {K : Post} : Mono (InlK E ops rest d fn base sid T ds K) := fun e fr σ fr' σ' hf hs ⟨h1, fr2, σ2, cs, fr'', σ'', h2, h3, h4⟩ => ⟨h1, fr2, σ2, cs, fr'', σ'', frLe_trans hf h2, stoLe_trans hs h3, h4⟩
theorem mono_itr {base sid lid b : Nat} {L : Loop} {T : Array Value} {ds : List Deferred} {K : Post} : Mono (ItrK E base sid lid b L T ds K) := fun e fr σ fr' σ' _ hs ⟨h1, σ2, L', fr'', σ'', h2, h3⟩ => ⟨h1, σ2, L', fr'', σ'', stoLe_trans hs h2, h3⟩
theorem mono_rnd {d base2 sid2 lid b : Nat} {L : Loop} {T : Array Value} {ds : List Deferred} {K : Post} : Mono (RndK E ops rest d base2 sid2 lid b L T ds K) := fun e fr σ fr' σ' _ hs ⟨L', t, σ2, fr'', σ'', h1, h2, h3⟩ => ⟨L', t, σ2, fr'', σ'', h1, stoLe_trans hs h2, h3⟩
theorem mono_asg {lid b : Nat} {L : Loop} {body : Code} {K : Post} : Mono (AsgK E lid b L body K) := fun e fr σ fr' σ' hf hs ⟨h1, fr2, σ2, h2, h3, h4⟩ => ⟨h1, fr2, σ2, frLe_trans hf h2, stoLe_trans hs h3, h4⟩
theorem il {d f : Nat} {fn : Func} {c : Code} {fx : Operand} {xs : List Operand} {ats : Array TypeId} {first cap args : List AV} (base sid : Nat) (keep : Fr) (hf : fr.ev fx = .fn (.func f) first cap) (hok : FnOk E.P f fn c)
    (hN : (Nat.ble (d + 1) E.N && Nat.ble args.length fn.ntmps) = true) (ha : first ++ xs.map fr.ev ++ cap = args) (hk : keep.map (fun p => fr.get p.1) = keep.map (·.2))
    (h : ∀ (T : Array Value) (ds : List Deferred), (GS.code c (frameFrom 0 args) ((sid, .sus E.g0.w.heap.size ds) :: (holds base T keep ++ σ)) (.base (InlK E ops rest d fn base sid T ds (k.post E)) mono_inl)).holds ⟨E.P, none, E.S, E.g0, fn.ntmps, true, E.gl⟩) :
    (GS.ops ops (⟨some d, .call ⟨.value fx, xs.toArray, ats⟩, ty, pos, af, none⟩ :: rest) fr σ k).holds E :=
  awpl_inl base sid keep (wanted_plain rfl) hf hok hN ha (kpw hk) fun T ds _ => h T ds
theorem ie {E' : Env} {d : Nat} {fn : Func} {base sid : Nat} {Tm : Array Value} {ds : List Deferred} {e : Exit} {hm : Mono (InlK E ops rest d fn base sid Tm ds (k.post E))} (hT : TabOk E.P T) (cs : List AV) (fr'' : Fr) (σ'' : Sto) (he : isN e = true ∨ e = .ret) (hr : resOf T fr σ fn.results.toList = some cs) (hh : fr''.map (fun p => σ.get (base + p.1)) = fr''.map (fun p => some (.hold p.2 (Tm.getD p.1 undef)))) (hsu : σ.get sid = some (.sus E.g0.w.heap.size ds)) (hle : σ''.map σ.sel = σ''.map (fun p => some p.2))
    (h : AWPL E ops rest ((d, retAV cs) :: fr'') σ'' (k.post E)) : (GS.at e fr σ (.base (InlK E ops rest d fn base sid Tm ds (k.post E)) hm)).holds E' :=
  inlK (by cases e <;> simp_all [isN]) frLe_refl stoLe_refl (resOf_ok hT hr) (hdw hh) hsu (stw hle) h
end
end Go.Proofs.Ytfhfjckjmacekaa

/- Rows of the table of types. Written by program. -/
namespace Go.Proofs.Ytfhfjckjmacekaa
open Go.RowKit
set_option maxRecDepth 100000
set_option maxHeartbeats 40000000
set_option linter.unusedVariables false
theorem mixed : Try.prog.follows .mixedOrders = true := by kernel_rfl
theorem cmp_api_Fault : CmpOk Try.prog 26 := ⟨by kernel_rfl, by kernel_rfl⟩
theorem cmp_api_Recipient : CmpOk Try.prog 36 := ⟨by kernel_rfl, by kernel_rfl⟩
theorem pl_api_Alias (w : World) : Sem.run Try.prog (Array.mapM (fun (f : Field) => do pure (f.offset, ← sizeOf f.type)) #[⟨"Address", 9, 0, false, "", "", 0⟩, ⟨"To", 28, 1, false, "", "", 16⟩]) w = .ok #[(0, 1), (1, 1)] w := by kernel_rfl
theorem pl_api_Envelope (w : World) : Sem.run Try.prog (Array.mapM (fun (f : Field) => do pure (f.offset, ← sizeOf f.type)) #[⟨"From", 9, 0, false, "", "", 0⟩, ⟨"To", 22, 1, false, "", "", 16⟩, ⟨"Id", 9, 2, false, "", "", 40⟩]) w = .ok #[(0, 1), (1, 1), (2, 1)] w := by kernel_rfl
theorem pl_api_Fault (w : World) : Sem.run Try.prog (Array.mapM (fun (f : Field) => do pure (f.offset, ← sizeOf f.type)) #[⟨"Code", 3, 0, false, "", "", 0⟩, ⟨"Index", 3, 1, false, "", "", 8⟩]) w = .ok #[(0, 1), (1, 1)] w := by kernel_rfl
theorem pl_api_Recipient (w : World) : Sem.run Try.prog (Array.mapM (fun (f : Field) => do pure (f.offset, ← sizeOf f.type)) #[⟨"Address", 9, 0, false, "", "", 0⟩, ⟨"Notify", 3, 1, false, "", "", 16⟩]) w = .ok #[(0, 1), (1, 1)] w := by kernel_rfl
theorem ty_api_Alias : TyOk Try.prog 110 2 40 (.agg #[.string ⟨#[]⟩, .slice none 0 0]) (.struct #[⟨"Address", 9, 0, false, "", "", 0⟩, ⟨"To", 28, 1, false, "", "", 16⟩]) := ⟨by kernel_rfl, by kernel_rfl⟩
theorem ty_api_Envelope : TyOk Try.prog 24 3 56 (.agg #[.string ⟨#[]⟩, .slice none 0 0, .string ⟨#[]⟩]) (.struct #[⟨"From", 9, 0, false, "", "", 0⟩, ⟨"To", 22, 1, false, "", "", 16⟩, ⟨"Id", 9, 2, false, "", "", 40⟩]) := ⟨by kernel_rfl, by kernel_rfl⟩
theorem ty_api_Fault : TyOk Try.prog 26 2 16 (.agg #[.int .i64 0, .int .i64 0]) (.struct #[⟨"Code", 3, 0, false, "", "", 0⟩, ⟨"Index", 3, 1, false, "", "", 8⟩]) := ⟨by kernel_rfl, by kernel_rfl⟩
theorem ty_api_Recipient : TyOk Try.prog 36 2 24 (.agg #[.string ⟨#[]⟩, .int .i64 0]) (.struct #[⟨"Address", 9, 0, false, "", "", 0⟩, ⟨"Notify", 3, 1, false, "", "", 16⟩]) := ⟨by kernel_rfl, by kernel_rfl⟩
theorem ty_bool : TyOk Try.prog 4 1 1 (.bool false) .bool := ⟨by kernel_rfl, by kernel_rfl⟩
theorem ty_int : TyOk Try.prog 3 1 8 (.int .i64 0) (.int .i64) := ⟨by kernel_rfl, by kernel_rfl⟩
theorem ty_map_string_bool : TyOk Try.prog 107 1 8 (.map none) (.map 9 4) := ⟨by kernel_rfl, by kernel_rfl⟩
theorem ty_map_string_int : TyOk Try.prog 76 1 8 (.map none) (.map 9 3) := ⟨by kernel_rfl, by kernel_rfl⟩
theorem ty_map_string_s_string : TyOk Try.prog 105 1 8 (.map none) (.map 9 28) := ⟨by kernel_rfl, by kernel_rfl⟩
theorem ty_s_api_Alias : TyOk Try.prog 87 1 24 (.slice none 0 0) (.slice 110) := ⟨by kernel_rfl, by kernel_rfl⟩
theorem ty_s_api_Recipient : TyOk Try.prog 22 1 24 (.slice none 0 0) (.slice 36) := ⟨by kernel_rfl, by kernel_rfl⟩
theorem ty_s_string : TyOk Try.prog 28 1 24 (.slice none 0 0) (.slice 9) := ⟨by kernel_rfl, by kernel_rfl⟩
theorem ty_s_uint8 : TyOk Try.prog 51 1 24 (.slice none 0 0) (.slice 5) := ⟨by kernel_rfl, by kernel_rfl⟩
theorem ty_string : TyOk Try.prog 9 1 16 (.string ⟨#[]⟩) .string := ⟨by kernel_rfl, by kernel_rfl⟩
theorem ty_uint8 : TyOk Try.prog 5 1 1 (.int .u8 0) (.int .u8) := ⟨by kernel_rfl, by kernel_rfl⟩
def tab : Tab := [(110, ⟨2, 40, (.agg #[.string ⟨#[]⟩, .slice none 0 0]), (.struct #[⟨"Address", 9, 0, false, "", "", 0⟩, ⟨"To", 28, 1, false, "", "", 16⟩]), (some #[(0, 1), (1, 1)])⟩), (24, ⟨3, 56, (.agg #[.string ⟨#[]⟩, .slice none 0 0, .string ⟨#[]⟩]), (.struct #[⟨"From", 9, 0, false, "", "", 0⟩, ⟨"To", 22, 1, false, "", "", 16⟩, ⟨"Id", 9, 2, false, "", "", 40⟩]), (some #[(0, 1), (1, 1), (2, 1)])⟩), (26, ⟨2, 16, (.agg #[.int .i64 0, .int .i64 0]), (.struct #[⟨"Code", 3, 0, false, "", "", 0⟩, ⟨"Index", 3, 1, false, "", "", 8⟩]), (some #[(0, 1), (1, 1)])⟩), (36, ⟨2, 24, (.agg #[.string ⟨#[]⟩, .int .i64 0]), (.struct #[⟨"Address", 9, 0, false, "", "", 0⟩, ⟨"Notify", 3, 1, false, "", "", 16⟩]), (some #[(0, 1), (1, 1)])⟩), (4, ⟨1, 1, (.bool false), .bool, none⟩), (3, ⟨1, 8, (.int .i64 0), (.int .i64), none⟩), (107, ⟨1, 8, (.map none), (.map 9 4), none⟩), (76, ⟨1, 8, (.map none), (.map 9 3), none⟩), (105, ⟨1, 8, (.map none), (.map 9 28), none⟩), (87, ⟨1, 24, (.slice none 0 0), (.slice 110), none⟩), (22, ⟨1, 24, (.slice none 0 0), (.slice 36), none⟩), (28, ⟨1, 24, (.slice none 0 0), (.slice 9), none⟩), (51, ⟨1, 24, (.slice none 0 0), (.slice 5), none⟩), (9, ⟨1, 16, (.string ⟨#[]⟩), .string, none⟩), (5, ⟨1, 1, (.int .u8 0), (.int .u8), none⟩)]
theorem tk : TabOk Try.prog tab := (tab_consP ty_api_Alias pl_api_Alias (tab_consP ty_api_Envelope pl_api_Envelope (tab_consP ty_api_Fault pl_api_Fault (tab_consP ty_api_Recipient pl_api_Recipient (tab_cons ty_bool (tab_cons ty_int (tab_cons ty_map_string_bool (tab_cons ty_map_string_int (tab_cons ty_map_string_s_string (tab_cons ty_s_api_Alias (tab_cons ty_s_api_Recipient (tab_cons ty_s_string (tab_cons ty_s_uint8 (tab_cons ty_string (tab_cons ty_uint8 tab_nil)))))))))))))))
end Go.Proofs.Ytfhfjckjmacekaa

/- From a law's arguments, as they are read, to the calculus: openers; from a contract to the row's end. -/
namespace Go.Proofs.Ytfhfjckjmacekaa
open Go.ChangeShapes Go.WideShapes Go.ChangeAt Go.RowKit

/-- every cell that is there is published -/
def uAll (W : World) (k : Nat) : Nat := match W.heap[k]? with
  | some (.cells vs _ _) => vs.size
  | _ => 0
theorem uAll_lt {W : World} {b i : Nat} {v : Value} (h : W.cell? ⟨b, i, none⟩ = some v) : i < uAll W b ∧ b < W.heap.size := by
  unfold World.cell? at h
  simp only [Option.isSome_none, Bool.false_eq_true, if_false] at h
  split at h
  · rename_i c t z hb
    refine ⟨?_, (Array.getElem?_eq_some_iff.1 hb).1⟩
    unfold uAll
    rw [hb]
    exact (Array.getElem?_eq_some_iff.1 h).1
  · cases h
def gAll (W : World) : G := ⟨W, uAll W, fun _ => .none⟩
theorem wf_all (W : World) : Wf (gAll W) := fun k hk => by
  show uAll W k = 0
  unfold uAll
  have : W.heap[k]? = none := Array.getElem?_eq_none hk
  rw [this]

/-- cells and what they hold -/
structure RelC (W : World) (ps : List PV) (cs : List Value) : Prop where
  len : cs.length = ps.length
  rel : ∀ (i : Nat) (c : PV), ps[i]? = some c → RelP W (uAll W) c (cs.getD i undef)
theorem relC_one {W : World} {p : PV} {v : Value} (h : RelP W (uAll W) p v) : RelC W [p] [v] := ⟨rfl, fun i c hi => by
  cases i with
  | zero => simp at hi; subst hi; exact h
  | succ i => simp at hi⟩
theorem relC_append {W : World} {p1 p2 : List PV} {cs : List Value} {n : Nat} (hn : n = p1.length) (h1 : RelC W p1 (cs.take n)) (h2 : RelC W p2 (cs.drop n)) : RelC W (p1 ++ p2) cs := by
  subst hn
  have l1 := h1.len
  have l2 := h2.len
  simp at l1 l2
  refine ⟨by simp; omega, fun i c hi => ?_⟩
  rcases Nat.lt_or_ge i p1.length with hlt | hge
  · rw [List.getElem?_append_left hlt] at hi
    have := h1.rel i c hi
    simpa [List.getD_eq_getElem?_getD, List.getElem?_take, hlt] using this
  · rw [List.getElem?_append_right hge] at hi
    have := h2.rel _ c hi
    simp only [List.getD_eq_getElem?_getD, List.getElem?_drop] at this ⊢
    rwa [show p1.length + (i - p1.length) = i by omega] at this

/-- **how a type's values are read**: as T's; ok: what is known of them; bk: they are no bulkier than what was read -/
structure Opens (P : Program) (t : TypeId) {T : Type} (n : Nat) (pc : T → List PV) (ok : T → Prop) (bk : T → Nat) : Prop where
  cells : P.cellsOf t = n
  len : ∀ x, (pc x).length = n
  op : ∀ {H : Type} {enc : TypeId × Value → H} {W : World} {fuel : Nat} {cs : List Value} {d : DataW H × List MemPlace}, DataW.trod enc P W 0 (fun _ => true) true fuel t cs = some d →
    ∃ x : T, RelC W (pc x) cs ∧ ok x ∧ bk x ≤ Rows.uptoBulk d.1

def ok64 (n : Int) : Prop := -9223372036854775808 ≤ n ∧ n ≤ 9223372036854775807
def okStr (s : Str) : Prop := s.length ≤ maxLen
def okL {T : Type} (ok : T → Prop) (l : List T) : Prop := l.length ≤ maxLen ∧ ∀ x ∈ l, ok x
def bkL {T : Type} (bk : T → Nat) : List T → Nat
  | [] => 1
  | x :: r => bk x + bkL bk r

variable {P : Program} {t e : TypeId}
theorem opens_I (ht : P.underlying t = some (.int .i64)) (hc : P.cellsOf t = 1) : Opens P t 1 cI ok64 (fun _ => 1) := ⟨hc, fun _ => rfl, fun h => by
  obtain ⟨n, rfl, rfl, hw⟩ := DataW.trod_int ht h
  refine ⟨n, relC_one (.b rfl), ?_, by simp [Rows.uptoBulk]⟩
  unfold ok64
  simpa [Lit.wf, IntKind.min, IntKind.max, IntKind.signed, IntKind.bits] using hw⟩
theorem opens_U (ht : P.underlying t = some (.int .u8)) (hc : P.cellsOf t = 1) : Opens P t 1 cU (fun _ => True) (fun _ => 1) := ⟨hc, fun _ => rfl, fun {H enc W fuel cs d} h => by
  obtain ⟨n, rfl, rfl, hw⟩ := DataW.trod_int ht h
  have hw : 0 ≤ n ∧ n ≤ 255 := by simpa [Lit.wf, IntKind.min, IntKind.max, IntKind.signed, IntKind.bits] using hw
  refine ⟨UInt8.ofNat n.toNat, relC_one ?_, trivial, by simp [Rows.uptoBulk]⟩
  have : ((UInt8.ofNat n.toNat).toNat : Int) = n := by
    rw [UInt8.toNat_ofNat']
    omega
  show RelP W (uAll W) (.b (.int .u8 _)) _
  rw [this]
  exact .b rfl⟩
theorem opens_B (ht : P.underlying t = some .bool) (hc : P.cellsOf t = 1) : Opens P t 1 cB (fun _ => True) (fun _ => 1) := ⟨hc, fun _ => rfl, fun h => by
  obtain ⟨n, rfl, rfl⟩ := DataW.trod_bool ht h
  exact ⟨n, relC_one (.b rfl), trivial, by simp [Rows.uptoBulk]⟩⟩
theorem opens_S (ht : P.underlying t = some .string) (hc : P.cellsOf t = 1) : Opens P t 1 cS okStr (fun s => s.length + 1) := ⟨hc, fun _ => rfl, fun {H enc W fuel cs d} h => by
  obtain ⟨s, rfl, rfl, hw⟩ := DataW.trod_string ht h
  refine ⟨s.data.toList, relC_one ?_, ?_, ?_⟩
  · have : strB s.data.toList = s := by cases s; simp [strB]
    show RelP W (uAll W) (.b (.string (strB s.data.toList))) _
    rw [this]; exact .b rfl
  · show s.data.toList.length ≤ maxLen
    have : s.data.toList.length = s.size := by cases s; rfl
    omega
  · simp [Rows.uptoBulk]⟩
theorem bulkAll_append {H : Type} (a b : List (DataW H)) : Rows.uptoBulkAll (a ++ b) = Rows.uptoBulkAll a + Rows.uptoBulkAll b := by
  induction a with
  | nil => simp [Rows.uptoBulkAll]
  | cons x a ih => simp only [List.cons_append, Rows.uptoBulkAll, ih]; omega
theorem bkL_map {T : Type} {H : Type} {bk : T → Nat} (n : Nat) (X : Nat → T) (D : Nat → DataW H) (h : ∀ i, i < n → bk (X i) ≤ Rows.uptoBulk (D i)) : bkL bk ((List.range n).map X) ≤ Rows.uptoBulkAll ((List.range n).map D) + 1 := by
  suffices h' : ∀ l : List Nat, (∀ i ∈ l, i < n) → bkL bk (l.map X) ≤ Rows.uptoBulkAll (l.map D) + 1 from h' _ (fun i hi => List.mem_range.1 hi)
  intro l
  induction l with
  | nil => intro _; simp [bkL]
  | cons i l ih =>
    intro hl
    have h1 := h i (hl i (List.mem_cons_self ..))
    have h2 := ih fun j hj => hl j (List.mem_cons_of_mem _ hj)
    simp only [List.map_cons, bkL, Rows.uptoBulkAll]
    omega
theorem opens_L {T : Type} [Inhabited T] {n : Nat} {pc : T → List PV} {ok : T → Prop} {bk : T → Nat} (h : Opens P e n pc ok bk) (hn : Nat.blt 0 n = true) (ht : P.underlying t = some (.slice e)) (hc : P.cellsOf t = 1) : Opens P t 1 (cL pc) (okL ok) (bkL bk) := ⟨hc, fun _ => rfl, fun {H enc W fuel cs d} hd => by
  have hn : 0 < n := Nat.le_of_ble_eq_true hn
  rcases Go.Deep.open_slice ht hd with ⟨rfl, rfl⟩ | ⟨a, len, cap, m, n', D, Pl, rfl, hb, hl, hm, hmm, rfl, hx⟩
  · refine ⟨[], relC_one (RelP.sl (a := none) (cap := 0) 1 0 0 (fun _ => undef) (fun x hx => by cases hx) (fun _ => ⟨rfl, rfl⟩) (by simp) (by simp) (by simp) (by simp) (fun i hi => by simp at hi) (fun i j e c hi => by simp at hi)), ⟨Nat.zero_le _, by simp⟩, by simp [bkL, Rows.uptoBulk]⟩
  · simp only [if_true] at hmm
    subst hmm
    obtain ⟨X, hX⟩ := Go.Deep.choose_lt (n := len) (p := fun i (x : T) => ∃ cs', W.cells? 0 (a.add (i * P.cellsOf e)) (P.cellsOf e) = some cs' ∧ RelC W (pc x) cs' ∧ ok x ∧ bk x ≤ Rows.uptoBulk (D i)) (fun i hi => by
      obtain ⟨cs', h1, h2⟩ := hx i (by omega)
      obtain ⟨x, h3, h4, h5⟩ := h.op h2
      exact ⟨x, cs', h1, h3, h4, h5⟩)
    rw [h.cells] at hX
    have hcell : ∀ i j, i < len → j < n → ∃ v, W.cell? (a.add (i * n + j)) = some v ∧ ∀ c, (pc (X i))[j]? = some c → RelP W (uAll W) c v := by
      intro i j hi hj
      obtain ⟨cs', h1, h2, _⟩ := hX i hi
      obtain ⟨_, hlen, hget⟩ := World.cells?_some h1
      have hj' := hget j hj
      have hadd : (a.add (i * n)).add j = a.add (i * n + j) := by
        unfold Addr.add
        by_cases h0 : j = 0
        · simp [h0]
        · by_cases h00 : i * n = 0
          · simp [h0, h00]
          · rw [if_neg h0, if_neg h00, if_neg (by omega)]
            simp [Nat.add_assoc]
      rw [hadd] at hj'
      have hlt : j < cs'.length := by omega
      refine ⟨cs'[j], by rw [hj']; exact List.getElem?_eq_getElem hlt, fun c hc' => ?_⟩
      have := h2.rel j c hc'
      simpa [List.getD_eq_getElem?_getD, List.getElem?_eq_getElem hlt] using this
    by_cases h0 : len = 0
    · subst h0
      refine ⟨[], relC_one (RelP.sl (elems := []) (a := some a) (cap := m) 1 0 0 (fun _ => undef) (fun x hx => by cases hx) (fun hx => by cases hx) (by simp) (by simp) (by simp) (by simp) (fun i hi => by simp at hi) (fun i j e c hi => by simp at hi)), ⟨Nat.zero_le _, by simp⟩, by simp [bkL, Rows.uptoBulk]⟩
    obtain ⟨b, off, spot⟩ := a
    have hspot : spot = none := by
      obtain ⟨v, hv, _⟩ := hcell 0 0 (by omega) hn
      simpa [Addr.add] using World.cell?_spot hv
    subst hspot
    have hadd : ∀ i, (⟨b, off, none⟩ : Addr).add i = ⟨b, off + i, none⟩ := by
      intro i
      unfold Addr.add
      by_cases h0 : i = 0
      · simp [h0]
      · simp [h0]
    simp only [hadd] at hcell
    have hdm : ∀ i j, j < n → (i * n + j) / n = i ∧ (i * n + j) % n = j := by
      intro i j hj
      rw [Nat.mul_comm, Nat.mul_add_div hn, Nat.mul_add_mod]
      exact ⟨by rw [Nat.div_eq_of_lt hj]; rfl, Nat.mod_eq_of_lt hj⟩
    have hcv : ∀ k, k < len * n → ∃ v, W.cell? ⟨b, off + k, none⟩ = some v ∧ ∀ c, (pc (X (k / n)))[k % n]? = some c → RelP W (uAll W) c v := by
      intro k hk
      have h1 : k / n < len := Nat.div_lt_of_lt_mul (by rw [Nat.mul_comm]; exact hk)
      have h2 : k % n < n := Nat.mod_lt _ hn
      have := hcell (k / n) (k % n) h1 h2
      rwa [show k / n * n + k % n = k by rw [Nat.mul_comm]; exact Nat.div_add_mod k n] at this
    obtain ⟨V, hV⟩ := Go.Deep.choose_lt (α := Value) hcv
    refine ⟨(List.range len).map X, ?_, ⟨by simp; omega, ?_⟩, ?_⟩
    · have key : RelP W (uAll W) (.sl none (((List.range len).map X).map pc)) (.slice (some ⟨b, off, none⟩) (((List.range len).map X).map pc).length m) := by
        refine .sl n b off V (fun x hx => by cases hx) (fun hx => by cases hx) (by simpa using hl) (fun e he => ?_) (fun _ => rfl) (fun _ => ?_) (fun i hi => ?_) (fun i j e' c hi hj => ?_)
        · simp only [List.map_map, List.mem_map] at he
          obtain ⟨i, _, rfl⟩ := he
          exact h.len _
        · simp only [List.length_map, List.length_range]
          have hpos : 0 < len * n := Nat.mul_pos (by omega) hn
          obtain ⟨hv, _⟩ := hV (len * n - 1) (by omega)
          obtain ⟨h1, h2⟩ := uAll_lt hv
          exact ⟨by omega, h2⟩
        · exact (hV i (by simpa using hi)).1
        · simp only [List.getElem?_map, List.map_map] at hi
          rw [Option.map_eq_some_iff] at hi
          obtain ⟨i', hi', rfl⟩ := hi
          obtain ⟨hlt, rfl⟩ := List.getElem?_eq_some_iff.1 hi'
          simp only [List.length_range] at hlt
          simp only [List.getElem_range, Function.comp] at hj
          have hjn : j < n := by have := (List.getElem?_eq_some_iff.1 hj).1; rw [h.len] at this; exact this
          have hk : i * n + j < len * n := by
            have := Nat.mul_le_mul_right n (show i + 1 ≤ len from hlt)
            rw [Nat.add_mul] at this
            omega
          have := (hV _ hk).2 c
          rw [(hdm i j hjn).1, (hdm i j hjn).2] at this
          exact this hj
      have hl' : (((List.range len).map X).map pc).length = len := by simp
      rw [hl'] at key
      exact relC_one key
    · intro x hx
      simp only [List.mem_map, List.mem_range] at hx
      obtain ⟨i, hi, rfl⟩ := hx
      obtain ⟨_, _, _, h4, _⟩ := hX i hi
      exact h4
    · have := bkL_map len X D (fun i hi => by obtain ⟨_, _, _, _, h5⟩ := hX i hi; exact h5)
      simp only [Rows.uptoBulk]
      omega⟩

/-- an argument of one cell -/
theorem arg_one {T : Type} {pc : T → List PV} {ok : T → Prop} {bk : T → Nat} (h : Opens P t 1 pc ok bk) {H : Type} {enc : TypeId × Value → H} {W : World} {v : Value} {d : DataW H} {ps : List MemPlace} (hv : cellV v = true) (hd : DataW.Trod enc P W 0 (fun _ => true) true t v d ps) :
    ∃ x, (∀ p, pc x = [p] → Rel (gAll W) (.pv p) v) ∧ ok x ∧ bk x ≤ Rows.uptoBulk d := by
  obtain ⟨fuel, hf⟩ := hd
  obtain ⟨x, h1, h2, h3⟩ := h.op hf
  refine ⟨x, fun p hp => .pv ?_, h2, h3⟩
  have hcs : v.cells.toList = [v] := by cases v <;> first | rfl | cases hv
  rw [hcs, hp] at h1
  have := h1.rel 0 p rfl
  exact this
/-- an argument that is a structure -/
theorem arg_agg {T : Type} {n : Nat} {pc : T → List PV} {ok : T → Prop} {bk : T → Nat} (h : Opens P t n pc ok bk) {H : Type} {enc : TypeId × Value → H} {W : World} {v : Value} {d : DataW H} {ps : List MemPlace} (hv : ∃ cs, v = .agg cs) (hd : DataW.Trod enc P W 0 (fun _ => true) true t v d ps) :
    ∃ x, Rel (gAll W) (.agg ((pc x).map .pv)) v ∧ ok x ∧ bk x ≤ Rows.uptoBulk d := by
  obtain ⟨cs, rfl⟩ := hv
  obtain ⟨fuel, hf⟩ := hd
  obtain ⟨x, h1, h2, h3⟩ := h.op hf
  refine ⟨x, ?_, h2, h3⟩
  have hl := h1.len
  simp only [Value.cells, Array.length_toList] at hl
  have hr : ∀ (i : Nat) (c : PV), (pc x)[i]? = some c → RelP W (uAll W) c (cs.getD i undef) := fun i c hi => by
    have := h1.rel i c hi
    simpa [Value.cells, List.getD_eq_getElem?_getD, Array.getD_eq_getD_getElem?] using this
  refine .agg (by simpa using hl) (fun i hi => ?_) (fun i c hi => ?_)
  · have hlt : i < (pc x).length := by omega
    exact (hr i _ (List.getElem?_eq_getElem hlt)).cellV
  · simp only [List.getElem?_map, Option.map_eq_some_iff] at hi
    obtain ⟨c', hc, rfl⟩ := hi
    exact .pv (hr i c' hc)

/-- **a contract is a law's walk** -/
theorem calls_of_run {f : FuncId} {args : List AV} (h : Run P f args (.pv (pB true))) {W : World} {vs : Array Value} (hgl : Gl (gAll W)) (ha : RelArgs (gAll W) args vs) : Calls P f vs W fun e W' => e = .returned (.bool true) ∧ Below W.heap.size W W' := by
  refine callsIn_wide.1 ((h.run (gAll W) vs (wf_all W) hgl ha).mono ?_)
  rintro e w' ⟨g', v, rfl, hl, ho, hw, rfl, hv⟩
  refine ⟨by rw [rel_bool hv], ⟨ho.os, ho.tape, ho.output, ho.ext.size, fun k hk => (ho.block k hk (by simp)).1⟩⟩

theorem relC_seg {W : World} {p1 p2 : List PV} {cs : List Value} {off n : Nat} (hn : n = p1.length) (h1 : RelC W p1 ((cs.drop off).take n)) (h2 : RelC W p2 (cs.drop (off + n))) : RelC W (p1 ++ p2) (cs.drop off) := relC_append hn h1 (by rw [List.drop_drop]; exact h2)
theorem relC_end {W : World} {cs : List Value} {k : Nat} (h : cs.length = k) : RelC W [] (cs.drop k) := ⟨by simp [h], fun i c hi => by simp at hi⟩
inductive RelL (g : G) : List AV → List Value → Prop
  | nil : RelL g [] []
  | cons {c : AV} {v : Value} {cs : List AV} {vs : List Value} (h : Rel g c v) (r : RelL g cs vs) : RelL g (c :: cs) (v :: vs)
theorem relArgs_of {g : G} {cs : List AV} {vs : List Value} (h : RelL g cs vs) : RelArgs g cs vs.toArray := by
  have key : vs.length = cs.length ∧ ∀ (i : Nat) (c : AV), cs[i]? = some c → Rel g c (vs.getD i undef) := by
    induction h with
    | nil => exact ⟨rfl, fun i c hi => by simp at hi⟩
    | cons h _ ih =>
      refine ⟨by simp [ih.1], fun i c hi => ?_⟩
      cases i with
      | zero => simp at hi; subst hi; exact h
      | succ i => exact ih.2 i c (by simpa using hi)
  exact ⟨by simpa using key.1, fun i c hi => by have := key.2 i c hi; simpa [List.getD_eq_getElem?_getD] using this⟩

end Go.Proofs.Ytfhfjckjmacekaa

/- How the laws' arguments are read. Written by program. -/
namespace Go.Proofs.Ytfhfjckjmacekaa
open Go.RowKit
set_option maxRecDepth 100000
set_option linter.unusedVariables false
theorem op_string : Opens Try.prog 9 1 cS okStr (fun s => s.length + 1) := opens_S ty_string.u (by kernel_rfl)
theorem op_int : Opens Try.prog 3 1 cI ok64 (fun _ => 1) := opens_I ty_int.u (by kernel_rfl)
def TRecipient.ok (x : TRecipient) : Prop := okStr x.Address ∧ ok64 x.Notify
def TRecipient.bk (x : TRecipient) : Nat := (fun s => s.length + 1) x.Address + (fun _ => 1) x.Notify + 1
instance : Inhabited TRecipient := ⟨⟨default, default⟩⟩
theorem op_api_Recipient : Opens Try.prog 36 2 TRecipient.pc TRecipient.ok TRecipient.bk := ⟨by kernel_rfl, fun _ => rfl, fun {H enc W fuel cs d} h => by
  obtain ⟨xs, n, _, rfl, hl, hlen, hf⟩ := DataW.trod_struct ty_api_Recipient.u h
  have hl2 : cs.length = 2 := hl.trans (by kernel_rfl)
  match xs, hlen with
  | [y0, y1], _ =>
    obtain ⟨x0, r0, o0, b0⟩ := op_string.op (show _ = some y0 from hf 0 _ rfl)
    replace r0 : RelC W _ (List.take (Try.prog.cellsOf 9) (List.drop 0 cs)) := r0
    rw [op_string.cells] at r0
    obtain ⟨x1, r1, o1, b1⟩ := op_int.op (show _ = some y1 from hf 1 _ rfl)
    replace r1 : RelC W _ (List.take (Try.prog.cellsOf 3) (List.drop 1 cs)) := r1
    rw [op_int.cells] at r1
    exact ⟨⟨x0, x1⟩, (relC_seg (off := 0) rfl r0 (relC_seg (off := 1) rfl r1 (relC_end hl2))), ⟨o0, o1⟩, by simp only [List.map, Rows.uptoBulk, Rows.uptoBulkAll, TRecipient.bk]; omega⟩⟩
theorem op_s_api_Recipient : Opens Try.prog 22 1 (cL TRecipient.pc) (okL TRecipient.ok) (bkL TRecipient.bk) := opens_L op_api_Recipient rfl ty_s_api_Recipient.u (by kernel_rfl)
def TEnvelope.ok (x : TEnvelope) : Prop := okStr x.From ∧ (okL TRecipient.ok) x.To ∧ okStr x.Id
def TEnvelope.bk (x : TEnvelope) : Nat := (fun s => s.length + 1) x.From + (bkL TRecipient.bk) x.To + (fun s => s.length + 1) x.Id + 1
instance : Inhabited TEnvelope := ⟨⟨default, default, default⟩⟩
theorem op_api_Envelope : Opens Try.prog 24 3 TEnvelope.pc TEnvelope.ok TEnvelope.bk := ⟨by kernel_rfl, fun _ => rfl, fun {H enc W fuel cs d} h => by
  obtain ⟨xs, n, _, rfl, hl, hlen, hf⟩ := DataW.trod_struct ty_api_Envelope.u h
  have hl2 : cs.length = 3 := hl.trans (by kernel_rfl)
  match xs, hlen with
  | [y0, y1, y2], _ =>
    obtain ⟨x0, r0, o0, b0⟩ := op_string.op (show _ = some y0 from hf 0 _ rfl)
    replace r0 : RelC W _ (List.take (Try.prog.cellsOf 9) (List.drop 0 cs)) := r0
    rw [op_string.cells] at r0
    obtain ⟨x1, r1, o1, b1⟩ := op_s_api_Recipient.op (show _ = some y1 from hf 1 _ rfl)
    replace r1 : RelC W _ (List.take (Try.prog.cellsOf 22) (List.drop 1 cs)) := r1
    rw [op_s_api_Recipient.cells] at r1
    obtain ⟨x2, r2, o2, b2⟩ := op_string.op (show _ = some y2 from hf 2 _ rfl)
    replace r2 : RelC W _ (List.take (Try.prog.cellsOf 9) (List.drop 2 cs)) := r2
    rw [op_string.cells] at r2
    exact ⟨⟨x0, x1, x2⟩, (relC_seg (off := 0) rfl r0 (relC_seg (off := 1) rfl r1 (relC_seg (off := 2) rfl r2 (relC_end hl2)))), ⟨o0, o1, o2⟩, by simp only [List.map, Rows.uptoBulk, Rows.uptoBulkAll, TEnvelope.bk]; omega⟩⟩
end Go.Proofs.Ytfhfjckjmacekaa

/- Functions of the program as Lean functions: what they compute. Written by program. -/
namespace Go.Proofs.Ytfhfjckjmacekaa
open Go.RowKit
set_option maxRecDepth 100000
set_option maxHeartbeats 40000000
set_option linter.unusedVariables false
def R_In (a0 : Int) (a1 : Int) (a2 : Int) : Option Bool :=
  ((bif decide (a1 ≤ a0) then some (decide (a0 ≤ a2)) else some false) : Option Bool).bind fun (j1 : Bool) => some j1
def R_At (a0 : Int) (a1 : Int) : Option TFault :=
  some ((TFault.mk a0 a1))
def R_Has_l1 (a0 : List Str) (a1 : Str) (s1 : Int) : Option (Step Int (Unit ⊕ Bool)) :=
  (bif decide (s1 < (a0.length : Int)) then (idx a0 s1).bind fun v7 => (bif (v7 == a1) then some (.out (.inr true)) else some (.cont (w64 (s1 + 1)))) else some (.out (.inl (()))))
noncomputable def R_Has (a0 : List Str) (a1 : Str) : Option Bool :=
  (iter (R_Has_l1 a0 a1) 0).bind (Sum.elim (fun b2 => some false) (fun b3 => some b3))
def R_letterOrDigit (a0 : UInt8) : Option Bool :=
  ((R_In ((a0.toNat : Int)) 97 122).bind fun v2 => (bif v2 then some true else (R_In ((a0.toNat : Int)) 65 90).bind fun v5 => (bif v5 then some true else (R_In ((a0.toNat : Int)) 48 57).bind fun v8 => some v8)) : Option Bool).bind fun (j1 : Bool) => some j1
def R_sign_l1 (a0 : Str) (s1 : Int) : Option (Step Int (Unit ⊕ Int)) :=
  (bif decide (s1 < (a0.length : Int)) then (idx a0 s1).bind fun v7 => (bif ((v7.toNat : Int) == 64) then some (.out (.inr s1)) else some (.cont (w64 (s1 + 1)))) else some (.out (.inl (()))))
noncomputable def R_sign (a0 : Str) : Option Int :=
  (iter (R_sign_l1 a0) 0).bind (Sum.elim (fun b2 => some ((a0.length : Int))) (fun b3 => some b3))
def R_DomainOk_l1 (a0 : Str) (s1 : Int) : Option (Step Int (Unit ⊕ Bool)) :=
  (bif decide (s1 < (a0.length : Int)) then (idx a0 s1).bind fun v7 => ((idx a0 s1).bind fun v10 => (bif ((v10.toNat : Int) == 46) then (bif (s1 == 0) then some true else (bif (s1 == (w64 ((a0.length : Int) - 1))) then some true else (idx a0 ((w64 (s1 - 1)))).bind fun v15 => some (((v15.toNat : Int) == 46)))) else some false) : Option Bool).bind fun (j9 : Bool) => (bif j9 then some (.out (.inr false)) else ((R_In ((v7.toNat : Int)) 97 122).bind fun v19 => (bif (!v19) then (R_In ((v7.toNat : Int)) 48 57).bind fun v22 => (bif (!v22) then (idx a0 s1).bind fun v25 => (bif ((v25.toNat : Int) != 45) then (idx a0 s1).bind fun v28 => some (((v28.toNat : Int) != 46)) else some false) else some false) else some false) : Option Bool).bind fun (j18 : Bool) => (bif j18 then some (.out (.inr false)) else some (.cont (w64 (s1 + 1))))) else some (.out (.inl (()))))
noncomputable def R_DomainOk (a0 : Str) : Option Bool :=
  (iter (R_DomainOk_l1 a0) 0).bind (Sum.elim (fun b2 => (R_In ((a0.length : Int)) 1 60).bind fun v31 => some v31) (fun b3 => some b3))
def R_AddressOk_l1 (a0 : Str) (v1 : Int) (s3 : Int) : Option (Step Int (Unit ⊕ Bool)) :=
  (bif decide (s3 < v1) then (idx a0 s3).bind fun v9 => ((R_letterOrDigit v9).bind fun v12 => (bif (!v12) then (bif ((v9.toNat : Int) != 45) then (bif ((v9.toNat : Int) != 95) then (bif ((v9.toNat : Int) != 46) then (bif ((v9.toNat : Int) != 43) then some (((v9.toNat : Int) != 61)) else some false) else some false) else some false) else some false) else some false) : Option Bool).bind fun (j11 : Bool) => (bif j11 then some (.out (.inr false)) else some (.cont (w64 (s3 + 1)))) else some (.out (.inl (()))))
noncomputable def R_AddressOk (a0 : Str) : Option Bool :=
  (R_sign a0).bind fun v1 => (iter (R_AddressOk_l1 a0 v1) 0).bind (Sum.elim (fun b4 => ((R_In v1 1 60).bind fun v21 => (bif v21 then (bif decide (v1 < (a0.length : Int)) then (cut a0 ((w64 (v1 + 1))) ((a0.length : Int))).bind fun v25 => (R_DomainOk v25).bind fun v27 => some v27 else some false) else some false) : Option Bool).bind fun (j20 : Bool) => some j20) (fun b5 => some b5))
noncomputable def R_AddressesOk_l1 (a0 : List Str) (s1 : Int) : Option (Step Int (Unit ⊕ Bool)) :=
  (bif decide (s1 < (a0.length : Int)) then (idx a0 s1).bind fun v7 => (R_AddressOk v7).bind fun v9 => (bif (!v9) then some (.out (.inr false)) else some (.cont (w64 (s1 + 1)))) else some (.out (.inl (()))))
noncomputable def R_AddressesOk (a0 : List Str) : Option Bool :=
  (iter (R_AddressesOk_l1 a0) 0).bind fun o => match o with | .inl b2 => some true | .inr b3 => some b3
def R_targets_l1 (a0 : List TAlias) (a1 : Str) (s1 : Int) : Option (Step Int (Unit ⊕ ((List Str) × Bool))) :=
  (bif decide (s1 < (a0.length : Int)) then (idx a0 s1).bind fun v7 => (bif (v7.Address == a1) then (idx a0 s1).bind fun v10 => some (.out (.inr ((v10.To, true)))) else some (.cont (w64 (s1 + 1)))) else some (.out (.inl (()))))
noncomputable def R_targets (a0 : List TAlias) (a1 : Str) : Option ((List Str) × Bool) :=
  (iter (R_targets_l1 a0 a1) 0).bind fun o => match o with | .inl b2 => some (([], false)) | .inr b3 => some ((b3.1, b3.2))
def basic_Fault (a0 : Int) (a1 : Int) : Option TFault :=
  some ((TFault.mk a0 a1))
def basic_None  : Option TFault :=
  some ((TFault.mk 0 0))
def basic_Failed (a0 : TFault) : Option Bool :=
  some ((a0.Code != 0))
def basic_Time (a0 : Int) : Option Bool :=
  ((bif decide ((-68719476736) ≤ a0) then some (decide (a0 ≤ 68719476736)) else some false) : Option Bool).bind fun (j1 : Bool) => some j1
def basic_Letter (a0 : UInt8) : Option Bool :=
  ((bif decide (97 ≤ (a0.toNat : Int)) then (bif decide ((a0.toNat : Int) ≤ 122) then some true else (bif decide (65 ≤ (a0.toNat : Int)) then (bif decide ((a0.toNat : Int) ≤ 90) then some true else (bif decide (48 ≤ (a0.toNat : Int)) then some (decide ((a0.toNat : Int) ≤ 57)) else some false)) else (bif decide (48 ≤ (a0.toNat : Int)) then some (decide ((a0.toNat : Int) ≤ 57)) else some false))) else (bif decide (65 ≤ (a0.toNat : Int)) then (bif decide ((a0.toNat : Int) ≤ 90) then some true else (bif decide (48 ≤ (a0.toNat : Int)) then some (decide ((a0.toNat : Int) ≤ 57)) else some false)) else (bif decide (48 ≤ (a0.toNat : Int)) then some (decide ((a0.toNat : Int) ≤ 57)) else some false))) : Option Bool).bind fun (j1 : Bool) => some j1
def R_Strings_l1 (a0 : List Str) (a1 : List Str) (s2 : Int) : Option (Step Int (Unit ⊕ Bool)) :=
  (bif decide (s2 < (a0.length : Int)) then (idx a0 s2).bind fun v8 => (idx a1 s2).bind fun v10 => (bif (v8 != v10) then some (.out (.inr false)) else some (.cont (w64 (s2 + 1)))) else some (.out (.inl (()))))
noncomputable def R_Strings (a0 : List Str) (a1 : List Str) : Option Bool :=
  (bif ((a0.length : Int) != (a1.length : Int)) then some false else (iter (R_Strings_l1 a0 a1) 0).bind (Sum.elim (fun b3 => some true) (fun b4 => some b4)))
def R_Lines_l1 (a0 : List UInt8) (s1 : Int × Int × (List Str)) : Option (Step (Int × Int × (List Str)) (Int × (List Str))) :=
  (bif decide (s1.2.1 < (a0.length : Int)) then (((idx a0 s1.2.1).bind fun v7 => (bif ((v7.toNat : Int) == 10) then (idx a0 ((w64 (s1.2.1 - 1)))).bind fun v10 => (bif ((v10.toNat : Int) == 13) then some (decide (s1.1 < s1.2.1)) else some false) else some false) : Option Bool).bind fun (j6 : Bool) => (bif j6 then (cut a0 s1.1 ((w64 (s1.2.1 - 1)))).bind fun v14 => (app 8796093022208 s1.2.2 (([v14] : List Str))).bind fun v16 => some (((w64 (s1.2.1 + 1)), v16)) else some ((s1.1, s1.2.2))) : Option (Int × (List Str))).bind fun (j5 : Int × (List Str)) => some (.cont (j5.1, (w64 (s1.2.1 + 1)), j5.2)) else some (.out ((s1.1, s1.2.2))))
noncomputable def R_Lines (a0 : List UInt8) : Option ((List Str) × (List UInt8)) :=
  (iter (R_Lines_l1 a0) ((0, 1, ([] : List Str)))).bind fun b2 => (cut a0 b2.1 ((a0.length : Int))).bind fun v18 => some ((b2.2, v18))
def R_undotted (a0 : Str) : Option Str :=
  ((bif decide (0 < (a0.length : Int)) then (idx a0 0).bind fun v3 => some (((v3.toNat : Int) == 46)) else some false) : Option Bool).bind fun (j1 : Bool) => (bif j1 then (cut a0 1 ((a0.length : Int))).bind fun v6 => some v6 else some a0)
def R_Received_l1 (v1 : (List Str) × (List UInt8)) (s3 : Int × Int × (List UInt8)) : Option (Step (Int × Int × (List UInt8)) ((List UInt8) ⊕ ((List UInt8) × Int × Bool))) :=
  (bif decide (s3.2.1 < (v1.1.length : Int)) then (idx v1.1 s3.2.1).bind fun v9 => (idx v1.1 s3.2.1).bind fun v11 => (bif (v11 == ([46] : Str)) then some (.out (.inr ((s3.2.2, (w64 ((w64 (s3.1 + (v9.length : Int))) + 2)), decide (12000 < (s3.2.2.length : Int)))))) else (idx v1.1 s3.2.1).bind fun v14 => (R_undotted v14).bind fun v16 => (app 140737488355328 s3.2.2 v16).bind fun v18 => (app 140737488355328 v18 (([(13 : UInt8), (10 : UInt8)] : List UInt8))).bind fun v20 => some (.cont ((w64 ((w64 (s3.1 + (v9.length : Int))) + 2)), (w64 (s3.2.1 + 1)), v20))) else some (.out (.inl s3.2.2)))
noncomputable def R_Received (a0 : List UInt8) : Option ((List UInt8) × Int × Bool) :=
  (R_Lines a0).bind fun v1 => (iter (R_Received_l1 v1) ((0, 0, ([] : List UInt8)))).bind fun o => match o with | .inl b4 => (R_undotted v1.2).bind fun v22 => (((bif (v1.2 == ([46] : Str)) then some true else some ((v1.2 == ([46, 13] : Str)))) : Option Bool).bind fun (j25 : Bool) => (bif j25 then some (([] : Str)) else some v22) : Option Str).bind fun (j24 : Str) => some (([], 0, decide (12000 < (w64 ((b4.length : Int) + (j24.length : Int)))))) | .inr b5 => some ((b5.1, b5.2.1, b5.2.2))
noncomputable def R_Reached_l1 (a1 : List Str) (s1 : Int × (List Str)) : Option (Step (Int × (List Str)) (List Str)) :=
  (bif decide (s1.1 < (a1.length : Int)) then ((idx a1 s1.1).bind fun v6 => (R_Has s1.2 v6).bind fun v8 => (bif (!v8) then (idx a1 s1.1).bind fun v11 => (app 8796093022208 s1.2 (([v11] : List Str))).bind fun v13 => some v13 else some s1.2) : Option (List Str)).bind fun (j5 : List Str) => some (.cont ((w64 (s1.1 + 1)), j5)) else some (.out s1.2))
noncomputable def R_Reached_l3 (v21 : (List Str) × Bool) (s23 : Int × (List Str)) : Option (Step (Int × (List Str)) (List Str)) :=
  (bif decide (s23.1 < (v21.1.length : Int)) then ((idx v21.1 s23.1).bind fun v28 => (R_Has s23.2 v28).bind fun v30 => (bif (!v30) then (idx v21.1 s23.1).bind fun v33 => (app 8796093022208 s23.2 (([v33] : List Str))).bind fun v35 => some v35 else some s23.2) : Option (List Str)).bind fun (j27 : List Str) => some (.cont ((w64 (s23.1 + 1)), j27)) else some (.out s23.2))
noncomputable def R_Reached_l2 (a0 : List TAlias) (s15 : Int × (List Str)) : Option (Step (Int × (List Str)) (List Str)) :=
  (bif decide (s15.1 < (s15.2.length : Int)) then (idx s15.2 s15.1).bind fun v19 => (R_targets a0 v19).bind fun v21 => (iter (R_Reached_l3 v21) ((0, s15.2))).bind fun b24 => some (.cont ((w64 (s15.1 + 1)), b24)) else some (.out s15.2))
noncomputable def R_Reached (a0 : List TAlias) (a1 : List Str) : Option (List Str) :=
  (iter (R_Reached_l1 a1) ((0, ([] : List Str)))).bind fun b2 => (iter (R_Reached_l2 a0) ((0, b2))).bind fun b16 => some b16
def R_AliasesFault_l2 (a0 : List TAlias) (s4 : Int) (s31 : Int) : Option (Step Int (Unit ⊕ TFault)) :=
  (bif decide (s31 < s4) then (idx a0 s31).bind fun v37 => (idx a0 s4).bind fun v39 => (bif (v37.Address == v39.Address) then (R_At 7 s4).bind fun v42 => some (.out (.inr v42)) else some (.cont (w64 (s31 + 1)))) else some (.out (.inl (()))))
noncomputable def R_AliasesFault_l1 (a0 : List TAlias) (s4 : Int) : Option (Step Int (Unit ⊕ TFault)) :=
  (bif decide (s4 < (a0.length : Int)) then (idx a0 s4).bind fun v10 => (R_AddressOk v10.Address).bind fun v12 => (bif (!v12) then (R_At 10 s4).bind fun v15 => some (.out (.inr v15)) else (idx a0 s4).bind fun v17 => (R_In ((v17.To.length : Int)) 1 60).bind fun v19 => (bif (!v19) then (R_At 2 s4).bind fun v22 => some (.out (.inr v22)) else (idx a0 s4).bind fun v24 => (R_AddressesOk v24.To).bind fun v26 => (bif (!v26) then (R_At 10 s4).bind fun v29 => some (.out (.inr v29)) else (iter (R_AliasesFault_l2 a0 s4) 0).bind fun o => match o with | .inl b32 => some (.cont (w64 (s4 + 1))) | .inr b33 => some (.out (.inr b33))))) else some (.out (.inl (()))))
noncomputable def R_AliasesFault (a0 : List TAlias) : Option TFault :=
  (bif decide (40 < (a0.length : Int)) then (R_At 2 ((-1))).bind fun v2 => some v2 else (iter (R_AliasesFault_l1 a0) 0).bind fun o => match o with | .inl b5 => some ((TFault.mk 0 0)) | .inr b6 => some b6)
noncomputable def R_Expanded_l1 (a0 : List TAlias) (v12 : List Str) (s14 : Int × (List Str)) : Option (Step (Int × (List Str)) (List Str)) :=
  (bif decide (s14.1 < (v12.length : Int)) then ((idx v12 s14.1).bind fun v19 => (R_targets a0 v19).bind fun v21 => (bif (!v21.2) then (idx v12 s14.1).bind fun v24 => (app 8796093022208 s14.2 (([v24] : List Str))).bind fun v26 => some v26 else some s14.2) : Option (List Str)).bind fun (j18 : List Str) => some (.cont ((w64 (s14.1 + 1)), j18)) else some (.out s14.2))
noncomputable def R_Expanded (a0 : List TAlias) (a1 : Str) : Option ((List Str) × TFault) :=
  (R_AliasesFault a0).bind fun v1 => (((bif (v1.Code == 0) then (R_AddressOk a1).bind fun v6 => some ((!v6)) else some false) : Option Bool).bind fun (j4 : Bool) => (bif j4 then (R_At 10 ((-2))).bind fun v9 => some ((v9.Code, v9.Index)) else some ((v1.Code, v1.Index))) : Option (Int × Int)).bind fun (j3 : Int × Int) => (bif (j3.1 != 0) then some (([], (TFault.mk j3.1 j3.2))) else (R_Reached a0 (([a1] : List Str))).bind fun v12 => (iter (R_Expanded_l1 a0 v12) ((0, ([] : List Str)))).bind fun b15 => some ((b15, (TFault.mk j3.1 j3.2))))
def retry_times_l1 (a0 : List Int) (s1 : Int) : Option (Step Int (Unit ⊕ Bool)) :=
  (bif decide (s1 < (a0.length : Int)) then (idx a0 s1).bind fun v7 => (basic_Time v7).bind fun v9 => (bif (!v9) then some (.out (.inr false)) else some (.cont (w64 (s1 + 1)))) else some (.out (.inl (()))))
noncomputable def retry_times (a0 : List Int) : Option Bool :=
  (iter (retry_times_l1 a0) 0).bind fun o => match o with | .inl b2 => some true | .inr b3 => some b3
noncomputable def retry_Late (a0 : Int) (a1 : Int) (a2 : Int) : Option (Bool × TFault) :=
  (retry_times (([a0, a1, a2] : List Int))).bind fun v1 => (bif (!v1) then (basic_Fault 3 ((-2))).bind fun v4 => some ((false, v4)) else ((bif decide (a1 < a0) then some true else some (decide (a2 < a1))) : Option Bool).bind fun (j6 : Bool) => (bif j6 then (basic_Fault 19 ((-4))).bind fun v9 => some ((false, v9)) else ((bif decide (a1 < (w64 (a0 + 14400))) then (basic_None).bind fun v13 => some ((decide ((w64 (a0 + 14400)) ≤ a2), v13.Code, v13.Index)) else (basic_None).bind fun v15 => some ((false, v15.Code, v15.Index))) : Option (Bool × Int × Int)).bind fun (j11 : Bool × Int × Int) => some ((j11.1, (TFault.mk j11.2.1 j11.2.2)))))
def bytes_Equal (a0 : List UInt8) (a1 : List UInt8) : Option Bool :=
  some ((a0 == a1))
def bytes_HasPrefix (a0 : List UInt8) (a1 : List UInt8) : Option Bool :=
  ((bif decide ((a1.length : Int) ≤ (a0.length : Int)) then (cut a0 0 ((a1.length : Int))).bind fun v3 => (bytes_Equal v3 a1).bind fun v5 => some v5 else some false) : Option Bool).bind fun (j1 : Bool) => some j1
def bytes_HasSuffix (a0 : List UInt8) (a1 : List UInt8) : Option Bool :=
  ((bif decide ((a1.length : Int) ≤ (a0.length : Int)) then (cut a0 ((w64 ((a0.length : Int) - (a1.length : Int)))) ((a0.length : Int))).bind fun v3 => (bytes_Equal v3 a1).bind fun v5 => some v5 else some false) : Option Bool).bind fun (j1 : Bool) => some j1
def bytes_TrimPrefix (a0 : List UInt8) (a1 : List UInt8) : Option (List UInt8) :=
  (bytes_HasPrefix a0 a1).bind fun v1 => (bif v1 then (cut a0 ((a1.length : Int)) ((a0.length : Int))).bind fun v4 => some v4 else some a0)
end Go.Proofs.Ytfhfjckjmacekaa

/- Library functions as Lean functions. -/
namespace Go.Proofs.Ytfhfjckjmacekaa
open Go.RowKit
def bytes_Index (a b : List UInt8) : Option Int := if a.length < 4294967281 ∧ b.length = 2 then some (Lib.index a b) else none
def strings_IndexByte (s : Str) (c : UInt8) : Option Int := some (Lib.indexByte s c)
def strings_Contains (s t : Str) : Option Bool := if s.length < 4294967281 then some (Lib.contains s t) else none
def strings_Cut (s t : Str) : Option (Str × Str × Bool) := if s.length < 4294967281 then some (Lib.cut s t) else none
end Go.Proofs.Ytfhfjckjmacekaa

/- Functions of the program as Lean functions: what they compute. Written by program. -/
namespace Go.Proofs.Ytfhfjckjmacekaa
open Go.RowKit
set_option maxRecDepth 100000
set_option maxHeartbeats 40000000
set_option linter.unusedVariables false
def lines_Split_l1 (a0 : List UInt8) (s4 : Int × Int × (List Str)) : Option (Step (Int × Int × (List Str)) ((Int × (List Str)) ⊕ (Int × (List Str) × Int × Int))) :=
  (cut a0 s4.1 ((a0.length : Int))).bind fun v9 => (bytes_Index v9 (([(13 : UInt8), (10 : UInt8)] : List UInt8))).bind fun v11 => (bif decide (v11 < 0) then some (.out (.inl ((s4.2.1, s4.2.2)))) else (cut a0 s4.1 ((w64 (s4.1 + v11)))).bind fun v14 => (bif decide (4000 < (v14.length : Int)) then (basic_Fault 1 ((s4.2.2.length : Int))).bind fun v17 => some (.out (.inr ((s4.2.1, s4.2.2, v17.Code, v17.Index)))) else (app 8796093022208 s4.2.2 (([v14] : List Str))).bind fun v19 => some (.cont ((w64 (s4.1 + (w64 (v11 + 2)))), (w64 ((w64 (s4.1 + v11)) + 2)), v19))))
noncomputable def lines_Split (a0 : List UInt8) : Option ((List Str) × (List UInt8) × TFault) :=
  (bif decide (40000 < (a0.length : Int)) then (basic_Fault 1 ((-1))).bind fun v2 => some (([], [], v2)) else (iter (lines_Split_l1 a0) ((0, 0, ([] : List Str)))).bind fun o => match o with | .inl b5 => (cut a0 b5.1 ((a0.length : Int))).bind fun v21 => (app 140737488355328 ([] : List UInt8) v21).bind fun v23 => (basic_None).bind fun v25 => some ((b5.2, v23, v25)) | .inr b6 => some (([], [], (TFault.mk b6.2.2.1 b6.2.2.2))))
def lines_Stuff_l1 (a0 : List UInt8) (s11 : Int × (List UInt8)) : Option (Step (Int × (List UInt8)) (List UInt8)) :=
  (cut a0 s11.1 ((a0.length : Int))).bind fun v14 => (bytes_Index v14 (([(13 : UInt8), (10 : UInt8)] : List UInt8))).bind fun v16 => ((bif decide (v16 < 0) then some ((true, s11.2)) else (cut a0 s11.1 ((w64 (s11.1 + v16)))).bind fun v20 => ((bytes_HasPrefix v20 (([(46 : UInt8)] : List UInt8))).bind fun v23 => (bif v23 then (app 140737488355328 s11.2 (([(46 : UInt8)] : List UInt8))).bind fun v26 => some v26 else some s11.2) : Option (List UInt8)).bind fun (j22 : List UInt8) => (app 140737488355328 j22 v20).bind fun v28 => (app 140737488355328 v28 (([13, 10] : Str))).bind fun v30 => some ((false, v30))) : Option (Bool × (List UInt8))).bind fun (j18 : Bool × (List UInt8)) => (bif j18.1 then some (.out j18.2) else some (.cont ((w64 (s11.1 + (w64 (v16 + 2)))), j18.2)))
noncomputable def lines_Stuff (a0 : List UInt8) : Option ((List UInt8) × TFault) :=
  (bif decide (12000 < (a0.length : Int)) then (basic_Fault 1 ((-1))).bind fun v2 => some ((([] : List UInt8), v2)) else ((bif decide (0 < (a0.length : Int)) then (bytes_HasSuffix a0 (([(13 : UInt8), (10 : UInt8)] : List UInt8))).bind fun v6 => some ((!v6)) else some false) : Option Bool).bind fun (j4 : Bool) => (bif j4 then (basic_Fault 5 ((-2))).bind fun v9 => some ((([] : List UInt8), v9)) else (iter (lines_Stuff_l1 a0) ((0, ([] : List UInt8)))).bind fun b12 => (app 140737488355328 b12 (([46, 13, 10] : Str))).bind fun v33 => (basic_None).bind fun v35 => some ((v33, v35))))
end Go.Proofs.Ytfhfjckjmacekaa

/- Functions of the program as Lean functions: what they compute. Written by program. -/
namespace Go.Proofs.Ytfhfjckjmacekaa
open Go.RowKit
set_option maxRecDepth 100000
set_option maxHeartbeats 40000000
set_option linter.unusedVariables false
def lines_Unstuff_l1 (a0 : List UInt8) (s4 : Int × Int × (List UInt8)) : Option (Step (Int × Int × (List UInt8)) ((Int × (List UInt8)) ⊕ (Int × (List UInt8) × Int × Int × Bool × Int × (List UInt8)))) :=
  (cut a0 s4.1 ((a0.length : Int))).bind fun v9 => (bytes_Index v9 (([(13 : UInt8), (10 : UInt8)] : List UInt8))).bind fun v11 => (bif decide (v11 < 0) then some (.out (.inl ((s4.2.1, s4.2.2)))) else (cut a0 s4.1 ((w64 (s4.1 + v11)))).bind fun v14 => (bif (v14 == ([46] : Str)) then (bif decide (12000 < (s4.2.2.length : Int)) then (basic_Fault 1 ((-2))).bind fun v18 => some (.out (.inr (((w64 ((w64 (s4.1 + v11)) + 2)), s4.2.2, v18.Code, v18.Index, false, 0, [])))) else (basic_None).bind fun v20 => some (.out (.inr (((w64 ((w64 (s4.1 + v11)) + 2)), s4.2.2, v20.Code, v20.Index, true, (w64 ((w64 (s4.1 + v11)) + 2)), s4.2.2))))) else (bytes_TrimPrefix v14 (([(46 : UInt8)] : List UInt8))).bind fun v22 => (app 140737488355328 s4.2.2 v22).bind fun v24 => (app 140737488355328 v24 (([13, 10] : Str))).bind fun v26 => some (.cont ((w64 (s4.1 + (w64 (v11 + 2)))), (w64 ((w64 (s4.1 + v11)) + 2)), v26))))
noncomputable def lines_Unstuff (a0 : List UInt8) : Option ((List UInt8) × Int × Bool × TFault) :=
  (bif decide (40000 < (a0.length : Int)) then (basic_Fault 1 ((-1))).bind fun v2 => some (([], 0, false, v2)) else (iter (lines_Unstuff_l1 a0) ((0, 0, ([] : List UInt8)))).bind fun o => match o with | .inl b5 => ((cut a0 b5.1 ((a0.length : Int))).bind fun v29 => ((bif (v29 != ([46] : Str)) then some ((v29 != ([46, 13] : Str))) else some false) : Option Bool).bind fun (j31 : Bool) => (bif j31 then (cut a0 b5.1 ((a0.length : Int))).bind fun v34 => (bytes_TrimPrefix v34 (([(46 : UInt8)] : List UInt8))).bind fun v36 => some ((w64 ((b5.2.length : Int) + (v36.length : Int)))) else some ((b5.2.length : Int))) : Option Int).bind fun (j28 : Int) => (bif decide (12000 < j28) then (basic_Fault 1 ((-2))).bind fun v39 => some (([], 0, false, v39)) else (basic_None).bind fun v41 => some (([], 0, false, v41))) | .inr b6 => some ((b6.2.2.2.2.2.2, b6.2.2.2.2.2.1, b6.2.2.2.2.1, (TFault.mk b6.2.2.1 b6.2.2.2.1))))
end Go.Proofs.Ytfhfjckjmacekaa

/- Functions of the program as Lean functions: what they compute. Written by program. -/
namespace Go.Proofs.Ytfhfjckjmacekaa
open Go.RowKit
set_option maxRecDepth 100000
set_option maxHeartbeats 40000000
set_option linter.unusedVariables false
noncomputable def L_splits  : Option Bool :=
  (lines_Split (([(97 : UInt8), (13 : UInt8), (10 : UInt8), (98 : UInt8)] : List UInt8))).bind fun v1 => (lines_Stuff ([])).bind fun v3 => (lines_Unstuff (([(46 : UInt8), (46 : UInt8), (13 : UInt8), (10 : UInt8), (46 : UInt8), (13 : UInt8), (10 : UInt8), (120 : UInt8)] : List UInt8))).bind fun v5 => (lines_Stuff (([(97 : UInt8)] : List UInt8))).bind fun v7 => ((bif (v1.2.2.Code == 0) then (bif (v3.2.Code == 0) then (bif (v5.2.2.2.Code == 0) then (R_At 5 ((-2))).bind fun v13 => (bif (allEq [(v7.2.Code == v13.Code), (v7.2.Index == v13.Index)]) then (R_Strings v1.1 (([([97] : Str)] : List Str))).bind fun v16 => (bif v16 then (bif (v1.2.1 == ([98] : Str)) then (bif (v3.1 == ([46, 13, 10] : Str)) then (bif (v5.1 == ([46, 13, 10] : Str)) then (bif (v5.2.1 == 7) then some v5.2.2.1 else some false) else some false) else some false) else some false) else some false) else some false) else some false) else some false) else some false) : Option Bool).bind fun (j9 : Bool) => some j9
def L_LinesMatchSpec_l1 (v1 : (List Str) × (List UInt8) × TFault) (v12 : (List Str) × (List UInt8)) (s14 : Int) : Option (Step Int (Unit ⊕ Bool)) :=
  (bif decide (s14 < (v12.1.length : Int)) then (idx v12.1 s14).bind fun v20 => (bif decide (4000 < (v20.length : Int)) then ((R_At 1 s14).bind fun v24 => (bif (allEq [(v1.2.2.Code == v24.Code), (v1.2.2.Index == v24.Index)]) then (bif ((v1.1.length : Int) == 0) then some (((v1.2.1.length : Int) == 0)) else some false) else some false) : Option Bool).bind fun (j23 : Bool) => some (.out (.inr j23)) else some (.cont (w64 (s14 + 1)))) else some (.out (.inl (()))))
noncomputable def L_LinesMatchSpec (a0 : List UInt8) : Option Bool :=
  (lines_Split a0).bind fun v1 => (L_splits).bind fun v3 => (bif (!v3) then some false else (bif decide (40000 < (a0.length : Int)) then ((R_At 1 ((-1))).bind fun v8 => (bif (allEq [(v1.2.2.Code == v8.Code), (v1.2.2.Index == v8.Index)]) then (bif ((v1.1.length : Int) == 0) then some (((v1.2.1.length : Int) == 0)) else some false) else some false) : Option Bool).bind fun (j7 : Bool) => some j7 else (R_Lines a0).bind fun v12 => (iter (L_LinesMatchSpec_l1 v1 v12) 0).bind fun o => match o with | .inl b15 => ((bif (v1.2.2.Code == 0) then (R_Strings v1.1 v12.1).bind fun v30 => (bif v30 then some ((v1.2.1 == v12.2)) else some false) else some false) : Option Bool).bind fun (j28 : Bool) => some j28 | .inr b16 => some b16))
def L_LinesJoin_l1 (v1 : (List Str) × (List UInt8) × TFault) (s17 : Int × (List UInt8)) : Option (Step (Int × (List UInt8)) (List UInt8)) :=
  (bif decide (s17.1 < (v1.1.length : Int)) then (idx v1.1 s17.1).bind fun v21 => (app 140737488355328 s17.2 v21).bind fun v23 => (app 140737488355328 v23 (([(13 : UInt8), (10 : UInt8)] : List UInt8))).bind fun v25 => some (.cont ((w64 (s17.1 + 1)), v25)) else some (.out s17.2))
noncomputable def L_LinesJoin (a0 : List UInt8) (a1 : List UInt8) : Option Bool :=
  (lines_Split a0).bind fun v1 => (lines_Split a1).bind fun v3 => ((L_splits).bind fun v6 => (bif (!v6) then some true else (bif (v1.2.2.Code != 0) then some true else (bif (v3.2.2.Code != 0) then some true else some (decide (40000 < (w64 ((a0.length : Int) + (a1.length : Int)))))))) : Option Bool).bind fun (j5 : Bool) => (bif j5 then ((L_splits).bind fun v13 => (bif v13 then (bif (v1.2.2.Code == 0) then some true else some (((v1.1.length : Int) == 0))) else some false) : Option Bool).bind fun (j12 : Bool) => some j12 else (iter (L_LinesJoin_l1 v1) ((0, ([] : List UInt8)))).bind fun b18 => (cat b18 v1.2.1).bind fun v27 => (bif (v27 != a0) then some false else (bif decide (0 < (v1.2.1.length : Int)) then some true else (app 140737488355328 b18 a1).bind fun v31 => (lines_Split v31).bind fun v33 => (app 8796093022208 (([] : List Str)) v1.1).bind fun v35 => (app 8796093022208 v35 v3.1).bind fun v37 => ((bif (v33.2.2.Code == 0) then (R_Strings v33.1 v37).bind fun v41 => (bif v41 then some ((v33.2.1 == v3.2.1)) else some false) else some false) : Option Bool).bind fun (j39 : Bool) => some j39)))
def R_Sent_l1 (a0 : List UInt8) (s1 : Int × Int × (List Str)) : Option (Step (Int × Int × (List Str)) (Int × (List Str))) :=
  (bif decide (s1.2.1 < (a0.length : Int)) then (((idx a0 s1.2.1).bind fun v7 => (bif ((v7.toNat : Int) == 10) then (idx a0 ((w64 (s1.2.1 - 1)))).bind fun v10 => (bif ((v10.toNat : Int) == 13) then some (decide (s1.1 < s1.2.1)) else some false) else some false) : Option Bool).bind fun (j6 : Bool) => (bif j6 then (cut a0 s1.1 ((w64 (s1.2.1 - 1)))).bind fun v14 => (app 8796093022208 s1.2.2 (([v14] : List Str))).bind fun v16 => some (((w64 (s1.2.1 + 1)), v16)) else some ((s1.1, s1.2.2))) : Option (Int × (List Str))).bind fun (j5 : Int × (List Str)) => some (.cont (j5.1, (w64 (s1.2.1 + 1)), j5.2)) else some (.out ((s1.1, s1.2.2))))
def R_Sent_l2 (v20 : List Str) (s22 : Int × (List UInt8)) : Option (Step (Int × (List UInt8)) (List UInt8)) :=
  (bif decide (s22.1 < (v20.length : Int)) then ((((idx v20 s22.1).bind fun v29 => (bif decide (0 < (v29.length : Int)) then (idx v20 s22.1).bind fun v32 => (idx v32 0).bind fun v34 => some (((v34.toNat : Int) == 46)) else some false) : Option Bool).bind fun (j28 : Bool) => (bif j28 then (app 140737488355328 s22.2 (([(46 : UInt8)] : List UInt8))).bind fun v37 => some v37 else some s22.2) : Option (List UInt8)).bind fun (j27 : List UInt8) => (idx v20 s22.1).bind fun v39 => (app 140737488355328 j27 v39).bind fun v41 => (bif decide ((w64 (s22.1 + 1)) < (v20.length : Int)) then (app 140737488355328 v41 (([(13 : UInt8), (10 : UInt8)] : List UInt8))).bind fun v44 => some v44 else some v41) : Option (List UInt8)).bind fun (j26 : List UInt8) => some (.cont ((w64 (s22.1 + 1)), j26)) else some (.out s22.2))
noncomputable def R_Sent (a0 : List UInt8) : Option (List UInt8) :=
  (iter (R_Sent_l1 a0) ((0, 1, ([] : List Str)))).bind fun b2 => (cut a0 b2.1 ((a0.length : Int))).bind fun v18 => (app 8796093022208 b2.2 (([v18] : List Str))).bind fun v20 => (iter (R_Sent_l2 v20) ((0, ([] : List UInt8)))).bind fun b23 => (app 140737488355328 b23 (([(46 : UInt8), (13 : UInt8), (10 : UInt8)] : List UInt8))).bind fun v46 => some v46
noncomputable def L_LinesDataMatchSpec (a0 : List UInt8) : Option Bool :=
  (lines_Stuff a0).bind fun v1 => (lines_Unstuff a0).bind fun v3 => (L_splits).bind fun v5 => (bif (!v5) then some false else (R_Lines a0).bind fun v8 => ((bif decide (12000 < (a0.length : Int)) then (R_At 1 ((-1))).bind fun v12 => some ((v12.Code, v12.Index)) else (bif decide (0 < (v8.2.length : Int)) then (R_At 5 ((-2))).bind fun v15 => some ((v15.Code, v15.Index)) else some ((0, 0)))) : Option (Int × Int)).bind fun (j10 : Int × Int) => ((bif (!(allEq [(v1.2.Code == j10.1), (v1.2.Index == j10.2)])) then some true else (bif (j10.1 != 0) then (bif decide (0 < (v1.1.length : Int)) then some true else (bif (j10.1 == 0) then (R_Sent a0).bind fun v22 => some ((v1.1 != v22)) else some false)) else (bif (j10.1 == 0) then (R_Sent a0).bind fun v25 => some ((v1.1 != v25)) else some false))) : Option Bool).bind fun (j17 : Bool) => (bif j17 then some false else (bif decide (40000 < (a0.length : Int)) then ((R_At 1 ((-1))).bind fun v30 => (bif (allEq [(v3.2.2.2.Code == v30.Code), (v3.2.2.2.Index == v30.Index)]) then (bif ((v3.1.length : Int) == 0) then (bif (v3.2.1 == 0) then some ((!v3.2.2.1)) else some false) else some false) else some false) : Option Bool).bind fun (j29 : Bool) => some j29 else (R_Received a0).bind fun v35 => (bif v35.2.2 then ((R_At 1 ((-2))).bind fun v39 => (bif (allEq [(v3.2.2.2.Code == v39.Code), (v3.2.2.2.Index == v39.Index)]) then (bif ((v3.1.length : Int) == 0) then (bif (v3.2.1 == 0) then some ((!v3.2.2.1)) else some false) else some false) else some false) : Option Bool).bind fun (j38 : Bool) => some j38 else ((bif (v3.2.2.2.Code == 0) then (bif (v3.2.2.1 == decide (0 < v35.2.1)) then (bif (v3.2.1 == v35.2.1) then some ((v3.1 == v35.1)) else some false) else some false) else some false) : Option Bool).bind fun (j44 : Bool) => some j44))))
noncomputable def L_LinesArriveAsSent (a0 : List UInt8) (a1 : List UInt8) (a2 : Int) : Option Bool :=
  (lines_Stuff a0).bind fun v1 => ((L_splits).bind fun v4 => (bif (!v4) then some true else (bif (v1.2.Code != 0) then some true else some (decide (10000 < (a1.length : Int))))) : Option Bool).bind fun (j3 : Bool) => (bif j3 then ((L_splits).bind fun v10 => (bif v10 then (bif (v1.2.Code == 0) then some true else some (((v1.1.length : Int) == 0))) else some false) : Option Bool).bind fun (j9 : Bool) => some j9 else (app 140737488355328 (([] : List UInt8)) v1.1).bind fun v14 => (app 140737488355328 v14 a1).bind fun v16 => (lines_Unstuff v16).bind fun v18 => ((bif (v18.2.2.2.Code != 0) then some true else (bif (!v18.2.2.1) then some true else (bif (v18.2.1 != (v1.1.length : Int)) then some true else some ((v18.1 != a0))))) : Option Bool).bind fun (j20 : Bool) => (bif j20 then some false else (R_In a2 0 ((w64 ((v1.1.length : Int) - 1)))).bind fun v25 => (bif (!v25) then some true else (cut v1.1 0 a2).bind fun v28 => (lines_Unstuff v28).bind fun v30 => ((bif (v30.2.2.2.Code == 0) then some ((!v30.2.2.1)) else some false) : Option Bool).bind fun (j32 : Bool) => some j32)))
end Go.Proofs.Ytfhfjckjmacekaa

/- Functions of the program as Lean functions: what they compute. Written by program. -/
namespace Go.Proofs.Ytfhfjckjmacekaa
open Go.RowKit
set_option maxRecDepth 100000
set_option maxHeartbeats 40000000
set_option linter.unusedVariables false
def internal_stringslite_HasPrefix (a0 : Str) (a1 : Str) : Option Bool :=
  ((bif decide ((a1.length : Int) ≤ (a0.length : Int)) then (cut a0 0 ((a1.length : Int))).bind fun v3 => some ((v3 == a1)) else some false) : Option Bool).bind fun (j1 : Bool) => some j1
def strings_HasPrefix (a0 : Str) (a1 : Str) : Option Bool :=
  (internal_stringslite_HasPrefix a0 a1).bind fun v1 => some v1
def internal_stringslite_HasSuffix (a0 : Str) (a1 : Str) : Option Bool :=
  ((bif decide ((a1.length : Int) ≤ (a0.length : Int)) then (cut a0 ((w64 ((a0.length : Int) - (a1.length : Int)))) ((a0.length : Int))).bind fun v3 => some ((v3 == a1)) else some false) : Option Bool).bind fun (j1 : Bool) => some j1
def strings_HasSuffix (a0 : Str) (a1 : Str) : Option Bool :=
  (internal_stringslite_HasSuffix a0 a1).bind fun v1 => some v1
def envelope_Domain_l1 (a0 : Str) (s5 : Int) : Option (Step Int (Unit ⊕ Unit)) :=
  (bif decide (s5 < (a0.length : Int)) then (idx a0 s5).bind fun v11 => ((bif decide (97 ≤ (v11.toNat : Int)) then (bif decide ((v11.toNat : Int) ≤ 122) then some true else (bif decide (48 ≤ (v11.toNat : Int)) then (bif decide ((v11.toNat : Int) ≤ 57) then some true else (bif ((v11.toNat : Int) == 45) then some true else some (((v11.toNat : Int) == 46)))) else (bif ((v11.toNat : Int) == 45) then some true else some (((v11.toNat : Int) == 46))))) else (bif decide (48 ≤ (v11.toNat : Int)) then (bif decide ((v11.toNat : Int) ≤ 57) then some true else (bif ((v11.toNat : Int) == 45) then some true else some (((v11.toNat : Int) == 46)))) else (bif ((v11.toNat : Int) == 45) then some true else some (((v11.toNat : Int) == 46))))) : Option Bool).bind fun (j13 : Bool) => (bif (!j13) then some (.out (.inr (()))) else some (.cont (w64 (s5 + 1)))) else some (.out (.inl (()))))
noncomputable def envelope_Domain (a0 : Str) : Option Bool :=
  ((bif (a0 != ([] : Str)) then (bif decide ((a0.length : Int) ≤ 60) then ((iter (envelope_Domain_l1 a0) 0).bind (Sum.elim (fun b6 => some true) (fun b7 => some false)) : Option Bool).bind fun (j4 : Bool) => (bif j4 then (strings_HasPrefix a0 (([46] : Str))).bind fun v26 => (bif (!v26) then (strings_HasSuffix a0 (([46] : Str))).bind fun v29 => (bif (!v29) then (strings_Contains a0 (([46, 46] : Str))).bind fun v32 => some ((!v32)) else some false) else some false) else some false) else some false) else some false) : Option Bool).bind fun (j1 : Bool) => some j1
def envelope_Split_l1 (v1 : Str × Str × Bool) (s8 : Int) : Option (Step Int (Unit ⊕ Unit)) :=
  (bif decide (s8 < (v1.1.length : Int)) then (idx v1.1 s8).bind fun v14 => ((basic_Letter v14).bind fun v17 => (bif v17 then some true else (strings_IndexByte (([45, 95, 46, 43, 61] : Str)) v14).bind fun v20 => some (decide (0 ≤ v20))) : Option Bool).bind fun (j16 : Bool) => (bif (!j16) then some (.out (.inr (()))) else some (.cont (w64 (s8 + 1)))) else some (.out (.inl (()))))
noncomputable def envelope_Split (a0 : Str) : Option (Str × Str × Bool) :=
  (strings_Cut a0 (([64] : Str))).bind fun v1 => ((bif v1.2.2 then (bif (v1.1 != ([] : Str)) then (bif decide ((v1.1.length : Int) ≤ 60) then ((iter (envelope_Split_l1 v1) 0).bind (Sum.elim (fun b9 => some true) (fun b10 => some false)) : Option Bool).bind fun (j7 : Bool) => (bif j7 then (envelope_Domain v1.2.1).bind fun v24 => some v24 else some false) else some false) else some false) else some false) : Option Bool).bind fun (j3 : Bool) => some ((v1.1, v1.2.1, j3))
noncomputable def envelope_Address (a0 : Str) : Option Bool :=
  (envelope_Split a0).bind fun v1 => some v1.2.2
noncomputable def alias_Validate_l2 (v10 : TAlias) (s23 : Int) : Option (Step Int (Unit ⊕ Int)) :=
  (bif decide (s23 < (v10.To.length : Int)) then (idx v10.To s23).bind fun v29 => (envelope_Address v29).bind fun v31 => (bif (!v31) then some (.out (.inr s23)) else some (.cont (w64 (s23 + 1)))) else some (.out (.inl (()))))
def alias_Validate_l3 (v10 : TAlias) (v37 : List TAlias) (s40 : Int) : Option (Step Int (Unit ⊕ Int)) :=
  (bif decide (s40 < (v37.length : Int)) then (idx v37 s40).bind fun v46 => (bif (v46.Address == v10.Address) then some (.out (.inr s40)) else some (.cont (w64 (s40 + 1)))) else some (.out (.inl (()))))
noncomputable def alias_Validate_l1 (a0 : List TAlias) (s4 : Int) : Option (Step Int (Unit ⊕ TFault)) :=
  (bif decide (s4 < (a0.length : Int)) then (idx a0 s4).bind fun v10 => (envelope_Address v10.Address).bind fun v12 => (bif (!v12) then (basic_Fault 10 s4).bind fun v15 => some (.out (.inr v15)) else ((bif decide ((v10.To.length : Int) < 1) then some true else some (decide (60 < (v10.To.length : Int)))) : Option Bool).bind fun (j17 : Bool) => (bif j17 then (basic_Fault 2 s4).bind fun v20 => some (.out (.inr v20)) else ((iter (alias_Validate_l2 v10) 0).bind (Sum.elim (fun b24 => some ((-1))) (fun b25 => some b25)) : Option Int).bind fun (j22 : Int) => (bif decide (0 ≤ j22) then (basic_Fault 10 s4).bind fun v35 => some (.out (.inr v35)) else (cut a0 0 s4).bind fun v37 => ((iter (alias_Validate_l3 v10 v37) 0).bind (Sum.elim (fun b41 => some ((-1))) (fun b42 => some b42)) : Option Int).bind fun (j39 : Int) => (bif decide (0 ≤ j39) then (basic_Fault 7 s4).bind fun v50 => some (.out (.inr v50)) else some (.cont (w64 (s4 + 1))))))) else some (.out (.inl (()))))
noncomputable def alias_Validate (a0 : List TAlias) : Option TFault :=
  (bif decide (40 < (a0.length : Int)) then (basic_Fault 2 ((-1))).bind fun v2 => some v2 else (iter (alias_Validate_l1 a0) 0).bind (Sum.elim (fun b5 => (basic_None).bind fun v52 => some v52) (fun b6 => some b6)))
end Go.Proofs.Ytfhfjckjmacekaa

/- Functions of the program as Lean functions: what they compute. Written by program. -/
namespace Go.Proofs.Ytfhfjckjmacekaa
open Go.RowKit
set_option maxRecDepth 100000
set_option maxHeartbeats 40000000
set_option linter.unusedVariables false
def alias_Expand_l1 (a0 : List TAlias) (s11 : Int × (List (Str × (List Str)))) : Option (Step (Int × (List (Str × (List Str)))) (List (Str × (List Str)))) :=
  (bif decide (s11.1 < (a0.length : Int)) then (idx a0 s11.1).bind fun v15 => some (.cont ((w64 (s11.1 + 1)), (mput s11.2 v15.Address v15.To))) else some (.out s11.2))
def alias_Expand_l2 (a0 : List TAlias) (s17 : Int × (List (Str × (List Str)))) : Option (Step (Int × (List (Str × (List Str)))) (List (Str × (List Str)))) :=
  (bif decide (s17.1 < (a0.length : Int)) then (idx a0 s17.1).bind fun v21 => some (.cont ((w64 (s17.1 + 1)), (mput s17.2 v21.Address v21.To))) else some (.out s17.2))
def alias_Expand_l3 (a1 : Str) (s23 : Int × (List Str) × (List (Str × Bool))) : Option (Step (Int × (List Str) × (List (Str × Bool))) ((List Str) × (List (Str × Bool)))) :=
  (bif decide (s23.1 < ((([a1] : List Str)).length : Int)) then ((idx (([a1] : List Str)) s23.1).bind fun v28 => (bif (!(((mget s23.2.2 v28).getD false))) then (app 8796093022208 s23.2.1 (([v28] : List Str))).bind fun v31 => some ((v31, (mput s23.2.2 v28 true))) else some ((s23.2.1, s23.2.2))) : Option ((List Str) × (List (Str × Bool)))).bind fun (j27 : (List Str) × (List (Str × Bool))) => some (.cont ((w64 (s23.1 + 1)), j27.1, j27.2)) else some (.out ((s23.2.1, s23.2.2))))
def alias_Expand_l5 (b18 : List (Str × (List Str))) (v37 : Str) (s45 : Int × (List Str) × (List (Str × Bool))) : Option (Step (Int × (List Str) × (List (Str × Bool))) ((List Str) × (List (Str × Bool)))) :=
  (bif decide (s45.1 < ((((mget b18 v37).getD (([] : List Str)))).length : Int)) then ((idx (((mget b18 v37).getD (([] : List Str)))) s45.1).bind fun v50 => (bif (!(((mget s45.2.2 v50).getD false))) then (app 8796093022208 s45.2.1 (([v50] : List Str))).bind fun v53 => some ((v53, (mput s45.2.2 v50 true))) else some ((s45.2.1, s45.2.2))) : Option ((List Str) × (List (Str × Bool)))).bind fun (j49 : (List Str) × (List (Str × Bool))) => some (.cont ((w64 (s45.1 + 1)), j49.1, j49.2)) else some (.out ((s45.2.1, s45.2.2))))
def alias_Expand_l6 (b18 : List (Str × (List Str))) (v37 : Str) (s57 : Int × (List Str) × (List (Str × Bool))) : Option (Step (Int × (List Str) × (List (Str × Bool))) ((List Str) × (List (Str × Bool)))) :=
  (bif decide (s57.1 < ((((mget b18 v37).getD (([] : List Str)))).length : Int)) then ((idx (((mget b18 v37).getD (([] : List Str)))) s57.1).bind fun v62 => (bif (!(((mget s57.2.2 v62).getD false))) then (app 8796093022208 s57.2.1 (([v62] : List Str))).bind fun v65 => some ((v65, (mput s57.2.2 v62 true))) else some ((s57.2.1, s57.2.2))) : Option ((List Str) × (List (Str × Bool)))).bind fun (j61 : (List Str) × (List (Str × Bool))) => some (.cont ((w64 (s57.1 + 1)), j61.1, j61.2)) else some (.out ((s57.2.1, s57.2.2))))
noncomputable def alias_Expand_l4 (b12 : List (Str × (List Str))) (b18 : List (Str × (List Str))) (s33 : (List Str) × (List (Str × Bool)) × (List Str)) : Option (Step ((List Str) × (List (Str × Bool)) × (List Str)) (List Str)) :=
  (bif decide (0 < (s33.1.length : Int)) then (idx s33.1 0).bind fun v37 => (cut s33.1 1 ((s33.1.length : Int))).bind fun v39 => (optElim (mget b12 v37) (fun v41 => (notNil v41).bind fun v43 => (iter (alias_Expand_l5 b18 v37) ((0, v39, s33.2.1))).bind fun b46 => some (.cont (b46.1, b46.2, s33.2.2))) ((app 8796093022208 s33.2.2 (([v37] : List Str))).bind fun v55 => (iter (alias_Expand_l6 b18 v37) ((0, v39, s33.2.1))).bind fun b58 => some (.cont (b58.1, b58.2, v55)))) else some (.out s33.2.2))
noncomputable def alias_Expand (a0 : List TAlias) (a1 : Str) : Option ((List Str) × TFault) :=
  (alias_Validate a0).bind fun v1 => (basic_Failed v1).bind fun v3 => (bif v3 then some (([], v1)) else (envelope_Address a1).bind fun v6 => (bif (!v6) then (basic_Fault 10 ((-2))).bind fun v9 => some (([], v9)) else (iter (alias_Expand_l1 a0) ((0, ([] : List (Str × (List Str)))))).bind fun b12 => (iter (alias_Expand_l2 a0) ((0, ([] : List (Str × (List Str)))))).bind fun b18 => (iter (alias_Expand_l3 a1) ((0, ([] : List Str), ([] : List (Str × Bool))))).bind fun b24 => (iter (alias_Expand_l4 b12 b18) ((b24.1, b24.2, ([] : List Str)))).bind fun b34 => (basic_None).bind fun v67 => some ((b34, v67))))
def alias_Loops_l2 (a0 : List TAlias) (s13 : Int × (List (Str × (List Str)))) : Option (Step (Int × (List (Str × (List Str)))) (List (Str × (List Str)))) :=
  (bif decide (s13.1 < (a0.length : Int)) then (idx a0 s13.1).bind fun v17 => some (.cont ((w64 (s13.1 + 1)), (mput s13.2 v17.Address v17.To))) else some (.out s13.2))
def alias_Loops_l3 (v11 : TAlias) (s19 : Int × (List Str) × (List (Str × Bool))) : Option (Step (Int × (List Str) × (List (Str × Bool))) ((List Str) × (List (Str × Bool)))) :=
  (bif decide (s19.1 < (v11.To.length : Int)) then ((idx v11.To s19.1).bind fun v24 => (bif (!(((mget s19.2.2 v24).getD false))) then (app 8796093022208 s19.2.1 (([v24] : List Str))).bind fun v27 => some ((v27, (mput s19.2.2 v24 true))) else some ((s19.2.1, s19.2.2))) : Option ((List Str) × (List (Str × Bool)))).bind fun (j23 : (List Str) × (List (Str × Bool))) => some (.cont ((w64 (s19.1 + 1)), j23.1, j23.2)) else some (.out ((s19.2.1, s19.2.2))))
def alias_Loops_l5 (b14 : List (Str × (List Str))) (v35 : Str) (s42 : Int × (List Str) × (List (Str × Bool))) : Option (Step (Int × (List Str) × (List (Str × Bool))) ((List Str) × (List (Str × Bool)))) :=
  (bif decide (s42.1 < ((((mget b14 v35).getD (([] : List Str)))).length : Int)) then ((idx (((mget b14 v35).getD (([] : List Str)))) s42.1).bind fun v47 => (bif (!(((mget s42.2.2 v47).getD false))) then (app 8796093022208 s42.2.1 (([v47] : List Str))).bind fun v50 => some ((v50, (mput s42.2.2 v47 true))) else some ((s42.2.1, s42.2.2))) : Option ((List Str) × (List (Str × Bool)))).bind fun (j46 : (List Str) × (List (Str × Bool))) => some (.cont ((w64 (s42.1 + 1)), j46.1, j46.2)) else some (.out ((s42.2.1, s42.2.2))))
noncomputable def alias_Loops_l4 (s6 : Int × (List Str)) (v11 : TAlias) (b14 : List (Str × (List Str))) (s29 : (List Str) × (List (Str × Bool))) : Option (Step ((List Str) × (List (Str × Bool))) (Unit ⊕ (List Str))) :=
  (bif decide (0 < (s29.1.length : Int)) then (idx s29.1 0).bind fun v35 => (cut s29.1 1 ((s29.1.length : Int))).bind fun v37 => (bif (v35 == v11.Address) then (app 8796093022208 s6.2 (([v35] : List Str))).bind fun v40 => some (.out (.inr v40)) else (iter (alias_Loops_l5 b14 v35) ((0, v37, s29.2))).bind fun b43 => some (.cont (b43.1, b43.2))) else some (.out (.inl (()))))
noncomputable def alias_Loops_l1 (a0 : List TAlias) (s6 : Int × (List Str)) : Option (Step (Int × (List Str)) (List Str)) :=
  (bif decide (s6.1 < (a0.length : Int)) then ((idx a0 s6.1).bind fun v11 => (iter (alias_Loops_l2 a0) ((0, ([] : List (Str × (List Str)))))).bind fun b14 => (iter (alias_Loops_l3 v11) ((0, ([] : List Str), ([] : List (Str × Bool))))).bind fun b20 => (iter (alias_Loops_l4 s6 v11 b14) ((b20.1, b20.2))).bind (Sum.elim (fun b30 => some s6.2) (fun b31 => some b31)) : Option (List Str)).bind fun (j10 : List Str) => some (.cont ((w64 (s6.1 + 1)), j10)) else some (.out s6.2))
noncomputable def alias_Loops (a0 : List TAlias) : Option ((List Str) × TFault) :=
  (alias_Validate a0).bind fun v1 => (basic_Failed v1).bind fun v3 => (bif v3 then some (([], v1)) else (iter (alias_Loops_l1 a0) ((0, ([] : List Str)))).bind fun b7 => (basic_None).bind fun v52 => some ((b7, v52)))
noncomputable def L_expands  : Option Bool :=
  (alias_Expand (([(TAlias.mk (([97, 64, 120] : Str)) (([([98, 64, 120] : Str), ([99, 64, 120] : Str)] : List Str))), (TAlias.mk (([98, 64, 120] : Str)) (([([97, 64, 120] : Str), ([100, 64, 120] : Str)] : List Str)))] : List TAlias)) (([97, 64, 120] : Str))).bind fun v1 => (alias_Loops (([(TAlias.mk (([97, 64, 120] : Str)) (([([98, 64, 120] : Str), ([99, 64, 120] : Str)] : List Str))), (TAlias.mk (([98, 64, 120] : Str)) (([([97, 64, 120] : Str), ([100, 64, 120] : Str)] : List Str)))] : List TAlias))).bind fun v3 => (alias_Expand (([(TAlias.mk (([97, 64, 120] : Str)) (([([98, 64, 120] : Str), ([99, 64, 120] : Str)] : List Str))), (TAlias.mk (([98, 64, 120] : Str)) (([([97, 64, 120] : Str), ([100, 64, 120] : Str)] : List Str)))] : List TAlias)) (([97] : Str))).bind fun v5 => ((bif (v1.2.Code == 0) then (bif (v3.2.Code == 0) then (R_At 10 ((-2))).bind fun v10 => (bif (allEq [(v5.2.Code == v10.Code), (v5.2.Index == v10.Index)]) then (R_Strings v1.1 (([([99, 64, 120] : Str), ([100, 64, 120] : Str)] : List Str))).bind fun v13 => (bif v13 then (R_Strings v3.1 (([([97, 64, 120] : Str), ([98, 64, 120] : Str)] : List Str))).bind fun v16 => some v16 else some false) else some false) else some false) else some false) : Option Bool).bind fun (j7 : Bool) => some j7
noncomputable def L_AliasMatchesSpec (a0 : List TAlias) (a1 : Str) : Option Bool :=
  (alias_Expand a0 a1).bind fun v1 => (R_Expanded a0 a1).bind fun v3 => ((L_expands).bind fun v6 => (bif v6 then (alias_Validate a0).bind fun v9 => (R_AliasesFault a0).bind fun v11 => (bif (allEq [(v9.Code == v11.Code), (v9.Index == v11.Index)]) then (bif (allEq [(v1.2.Code == v3.2.Code), (v1.2.Index == v3.2.Index)]) then (R_Strings v1.1 v3.1).bind fun v15 => some v15 else some false) else some false) else some false) : Option Bool).bind fun (j5 : Bool) => some j5
noncomputable def L_AliasLoopsMatchSpec_l1 (a0 : List TAlias) (v1 : TFault) (s5 : Int × (List Str)) : Option (Step (Int × (List Str)) (List Str)) :=
  ((bif decide (s5.1 < (a0.length : Int)) then some ((v1.Code == 0)) else some false) : Option Bool).bind fun (j8 : Bool) => (bif j8 then ((idx a0 s5.1).bind fun v12 => (R_Reached a0 v12.To).bind fun v14 => (idx a0 s5.1).bind fun v16 => (R_Has v14 v16.Address).bind fun v18 => (bif v18 then (idx a0 s5.1).bind fun v21 => (app 8796093022208 s5.2 (([v21.Address] : List Str))).bind fun v23 => some v23 else some s5.2) : Option (List Str)).bind fun (j11 : List Str) => some (.cont ((w64 (s5.1 + 1)), j11)) else some (.out s5.2))
noncomputable def L_AliasLoopsMatchSpec (a0 : List TAlias) : Option Bool :=
  (R_AliasesFault a0).bind fun v1 => (alias_Loops a0).bind fun v3 => (iter (L_AliasLoopsMatchSpec_l1 a0 v1) ((0, ([] : List Str)))).bind fun b6 => ((L_expands).bind fun v26 => (bif v26 then (bif (allEq [(v3.2.Code == v1.Code), (v3.2.Index == v1.Index)]) then (R_Strings v3.1 b6).bind fun v30 => some v30 else some false) else some false) : Option Bool).bind fun (j25 : Bool) => some j25
noncomputable def L_AliasIsAFixedPoint_l1 (a0 : List TAlias) (v1 : (List Str) × TFault) (s12 : Int) : Option (Step Int (Unit ⊕ Bool)) :=
  (bif decide (s12 < (v1.1.length : Int)) then (idx v1.1 s12).bind fun v18 => (alias_Expand a0 v18).bind fun v20 => ((bif (v20.2.Code != 0) then some true else (idx v1.1 s12).bind fun v24 => (R_Strings v20.1 (([v24] : List Str))).bind fun v26 => (bif (!v26) then some true else (cut v1.1 0 s12).bind fun v29 => (idx v1.1 s12).bind fun v31 => (R_Has v29 v31).bind fun v33 => some v33)) : Option Bool).bind fun (j22 : Bool) => (bif j22 then some (.out (.inr false)) else some (.cont (w64 (s12 + 1)))) else some (.out (.inl (()))))
noncomputable def L_AliasIsAFixedPoint_l5 (v1 : (List Str) × TFault) (v58 : (List Str) × TFault) (s61 : Int) : Option (Step Int (Unit ⊕ Bool)) :=
  (bif decide (s61 < (v58.1.length : Int)) then (idx v58.1 s61).bind fun v67 => (R_Has v1.1 v67).bind fun v69 => (bif (!v69) then some (.out (.inr false)) else some (.cont (w64 (s61 + 1)))) else some (.out (.inl (()))))
noncomputable def L_AliasIsAFixedPoint_l4 (a0 : List TAlias) (v1 : (List Str) × TFault) (s36 : Int) (s46 : Int) : Option (Step Int (Unit ⊕ Bool)) :=
  (idx a0 s36).bind fun v51 => (bif decide (s46 < (v51.To.length : Int)) then (idx a0 s36).bind fun v54 => (idx v54.To s46).bind fun v56 => (alias_Expand a0 v56).bind fun v58 => (bif (v58.2.Code != 0) then some (.out (.inr false)) else (iter (L_AliasIsAFixedPoint_l5 v1 v58) 0).bind (Sum.elim (fun b62 => some (.cont (w64 (s46 + 1)))) (fun b63 => some (.out (.inr b63))))) else some (.out (.inl (()))))
def L_AliasIsAFixedPoint_k3 (s36 : Int) (j42 : Unit) : Option (Step Int (Unit ⊕ Bool)) :=
  some (.cont (w64 (s36 + 1)))
noncomputable def L_AliasIsAFixedPoint_l2 (a0 : List TAlias) (a1 : Str) (v1 : (List Str) × TFault) (s36 : Int) : Option (Step Int (Unit ⊕ Bool)) :=
  (bif decide (s36 < (a0.length : Int)) then (idx a0 s36).bind fun v43 => (bif (v43.Address != a1) then (L_AliasIsAFixedPoint_k3 s36 ()) else (iter (L_AliasIsAFixedPoint_l4 a0 v1 s36) 0).bind (Sum.elim (fun b47 => (L_AliasIsAFixedPoint_k3 s36 ())) (fun b48 => some (.out (.inr b48))))) else some (.out (.inl (()))))
noncomputable def L_AliasIsAFixedPoint (a0 : List TAlias) (a1 : Str) : Option Bool :=
  (alias_Expand a0 a1).bind fun v1 => ((L_expands).bind fun v4 => (bif (!v4) then some true else some ((v1.2.Code != 0))) : Option Bool).bind fun (j3 : Bool) => (bif j3 then ((L_expands).bind fun v9 => (bif v9 then some (((v1.1.length : Int) == 0)) else some false) : Option Bool).bind fun (j8 : Bool) => some j8 else (iter (L_AliasIsAFixedPoint_l1 a0 v1) 0).bind (Sum.elim (fun b13 => (iter (L_AliasIsAFixedPoint_l2 a0 a1 v1) 0).bind (Sum.elim (fun b37 => some true) (fun b38 => some b38))) (fun b14 => some b14)))
noncomputable def L_AliasMoreIsMore_l1 (a0 : List TAlias) (a2 : TAlias) (s12 : Int) : Option (Step Int (Unit ⊕ Bool)) :=
  (bif decide (s12 < (a0.length : Int)) then (idx a0 s12).bind fun v18 => (R_Has v18.To a2.Address).bind fun v20 => (bif v20 then some (.out (.inr true)) else some (.cont (w64 (s12 + 1)))) else some (.out (.inl (()))))
noncomputable def L_AliasMoreIsMore (a0 : List TAlias) (a1 : Str) (a2 : TAlias) : Option Bool :=
  (alias_Expand a0 a1).bind fun v1 => ((L_expands).bind fun v4 => (bif (!v4) then some true else some ((v1.2.Code != 0))) : Option Bool).bind fun (j3 : Bool) => (bif j3 then ((L_expands).bind fun v9 => (bif v9 then some (((v1.1.length : Int) == 0)) else some false) : Option Bool).bind fun (j8 : Bool) => some j8 else (iter (L_AliasMoreIsMore_l1 a0 a2) 0).bind (Sum.elim (fun b13 => (app 3518437208883 (([] : List TAlias)) a0).bind fun v23 => (app 3518437208883 v23 (([a2] : List TAlias))).bind fun v25 => (alias_Expand v25 a1).bind fun v27 => ((bif (v27.2.Code != 0) then some true else (bif (a2.Address == a1) then some true else (R_Strings v1.1 v27.1).bind fun v32 => some v32)) : Option Bool).bind fun (j29 : Bool) => some j29) (fun b14 => some b14)))
end Go.Proofs.Ytfhfjckjmacekaa

/- Part 3 of the proof of the law AliasMoreIsMore: what it needs. -/
import Derived.Test.YtlpmbmilnoncdaaKAliasMoreIsMore2
import Derived.MapKept
import Derived.Laws.Cover3
import Derived.Test.YtlpmbmilnoncdaaProg
import Derived.Test.YtlpmbmilnoncdaaRows
import Derived.ProofKit
import Derived.Deep.Slices
import Derived.Lib.IndexMore
/- The abstract calculus: maps, nil slices: rules. No program is named. -/
namespace Go.Proofs.Ytlpmbmilnoncdaa
open Go.RowKit Go.Lib

/-! ### maps as lists of pairs, in the order in which keys came up -/
section
variable {K V : Type} [BEq K]
def mget : List (K × V) → K → Option V
  | [], _ => none
  | (k, v) :: r, x => if k == x then some v else mget r x
def mput : List (K × V) → K → V → List (K × V)
  | [], x, y => [(x, y)]
  | (k, v) :: r, x, y => if k == x then (x, y) :: r else (k, v) :: mput r x y
def mdel : List (K × V) → K → List (K × V)
  | [], _ => []
  | (k, v) :: r, x => if k == x then r else (k, v) :: mdel r x
def mpos : List (K × V) → K → Option Nat
  | [], _ => none
  | (k, _) :: r, x => if k == x then some 0 else (mpos r x).map (· + 1)
theorem mget_pos (l : List (K × V)) (x : K) : mget l x = (mpos l x).bind fun i => (l[i]?).map (·.2) := by
  induction l with
  | nil => rfl
  | cons p r ih =>
    obtain ⟨k, v⟩ := p
    unfold mget mpos
    split
    · simp
    · rw [ih]; cases mpos r x <;> simp
theorem mput_pos (l : List (K × V)) (x : K) (y : V) : mput l x y = match mpos l x with | some i => l.set i (x, y) | none => l ++ [(x, y)] := by
  induction l with
  | nil => rfl
  | cons p r ih =>
    obtain ⟨k, v⟩ := p
    unfold mput mpos
    split
    · simp
    · rw [ih]; cases mpos r x <;> simp
theorem mpos_lt {l : List (K × V)} {x : K} {i : Nat} (h : mpos l x = some i) : ∃ p, l[i]? = some p ∧ (p.1 == x) = true := by
  induction l generalizing i with
  | nil => cases h
  | cons p r ih =>
    obtain ⟨k, v⟩ := p
    unfold mpos at h
    split at h
    · rename_i hk; cases h; exact ⟨(k, v), rfl, hk⟩
    · obtain ⟨j, hj, rfl⟩ := Option.map_eq_some_iff.1 h
      obtain ⟨p, hp, hx⟩ := ih hj
      exact ⟨p, by simpa using hp, hx⟩
end

/-- kinds of keys -/
structure KeyK (K : Type) [BEq K] [LawfulBEq K] where
  kd : TypeDesc
  kf : K → Value
  same : ∀ a b : K, Instr.sameNow kd (kf a) (kf b) = some (a == b)
  isk : ∀ a, MapKept.IsKey kd (kf a)
def keyS : KeyK Str where
  kd := .string
  kf s := .string (strB s)
  same a b := by
    simp only [Instr.sameNow, Option.some.injEq]
    rw [Bool.eq_iff_iff, MapKept.bytes_beq]
    simp only [beq_iff_eq]
    constructor
    · intro h
      have := congrArg ByteArray.toList h
      rwa [strB_list, strB_list] at this
    · rintro rfl; rfl
  isk a := trivial
def keyI : KeyK Int where
  kd := .int .i64
  kf n := .int .i64 n
  same a b := by simp [Instr.sameNow]
  isk a := rfl

/-- a value of a map -/
def mvA : Bool → List PV → AV
  | true, cs => .agg (cs.map .pv)
  | false, p :: _ => .pv p
  | false, [] => .any
theorem rel_mvA {g : G} {ag : Bool} {cs : List PV} {v : Value} (h : RelMV g.w g.u ag cs v) : Rel g (mvA ag cs) v := by
  cases ag with
  | true =>
    obtain ⟨vs, rfl, h1, h2⟩ := h
    refine .agg (by simpa using h1) (fun i hi => ?_) (fun i c hi => ?_)
    · have : i < cs.length := by omega
      exact (h2 i _ (List.getElem?_eq_getElem this)).cellV
    · simp only [List.getElem?_map, Option.map_eq_some_iff] at hi
      obtain ⟨c', hc, rfl⟩ := hi
      exact .pv (h2 i c' hc)
  | false =>
    obtain ⟨p, rfl, h1⟩ := h
    exact .pv h1
theorem relMV_of {g : G} {ag : Bool} {cs : List PV} {v : Value} (hne : ag = false → cs.length = 1) (h : Rel g (mvA ag cs) v) : RelMV g.w g.u ag cs v := by
  cases ag with
  | true =>
    cases h with
    | agg h1 h2 h3 =>
      refine ⟨_, rfl, by simpa using h1, fun i c hi => ?_⟩
      have := h3 i (.pv c) (by simp [hi])
      cases this with
      | pv h => exact h
  | false =>
    match cs, hne rfl with
    | [p], _ =>
      cases h with
      | pv h => exact ⟨p, rfl, h⟩
def constPV : Value → PV
  | .slice none 0 0 => .sl none []
  | v => .b v
def zeroMV : Bool → Value → Option (List PV)
  | true, .agg vs => if vs.toList.all (fun v => cellV v) then some (vs.toList.map constPV) else none
  | false, v => if cellV v then some [constPV v] else none
  | _, _ => none
theorem relP_constPV (w : World) (u : Nat → Nat) (v : Value) (h : cellV v = true) : RelP w u (constPV v) v := by
  unfold constPV
  split
  · exact relP_weak (relP_nil w u)
  · exact .b h
theorem relMV_zero {w : World} {u : Nat → Nat} {ag : Bool} {z : Value} {cs : List PV} (h : zeroMV ag z = some cs) : RelMV w u ag cs z := by
  unfold zeroMV at h
  split at h
  · rename_i vs
    split at h
    · rename_i ha
      cases h
      rw [List.all_eq_true] at ha
      refine ⟨_, rfl, by simp, fun i c hi => ?_⟩
      simp only [List.getElem?_map, Option.map_eq_some_iff] at hi
      obtain ⟨v, hv, rfl⟩ := hi
      have : vs.getD i undef = v := by
        rw [Array.getD_eq_getD_getElem?]; simp at hv; simp [hv]
      rw [this]
      exact relP_constPV w u v (ha v (List.mem_of_getElem? hv))
    · cases h
  · split at h
    · rename_i hv
      cases h
      exact ⟨_, rfl, relP_constPV w u _ hv⟩
    · cases h
  · cases h

section
variable {K V : Type} [BEq K] [LawfulBEq K] {KK : KeyK K} {F : V → List PV} {ag : Bool}
abbrev menc (KK : KeyK K) (F : V → List PV) (es : List (K × V)) : List (Value × List PV) := es.map fun p => (KK.kf p.1, F p.2)
theorem findNow_pos {es : List (K × V)} {k : K} : ∀ {ents : List MapEntry} (i : Nat), ents.length = es.length → (∀ (j : Nat) p x, es[j]? = some p → ents[j]? = some x → x.key = KK.kf p.1) →
    Instr.findNow KK.kd (KK.kf k) ents i = some ((mpos es k).bind fun j => (ents[j]?).map fun x => (i + j, x.val)) := by
  induction es with
  | nil => intro ents i hl _; have : ents = [] := List.eq_nil_of_length_eq_zero hl; subst this; rfl
  | cons p r ih =>
    intro ents i hl hk
    obtain ⟨k', v⟩ := p
    match ents, hl with
    | x :: xs, hl =>
      have h0 := hk 0 (k', v) x rfl rfl
      unfold Instr.findNow mpos
      rw [h0, KK.same]
      by_cases hkk : k' = k
      · subst hkk
        simp
      · have e1 : (k == k') = false := by simpa using fun h : k = k' => hkk h.symm
        have e2 : (k' == k) = false := by simpa using hkk
        rw [e1, e2]
        simp only [Bool.false_eq_true, if_false]
        rw [ih (i + 1) (by simpa using hl) (fun j p x hp hx => hk (j + 1) p x (by simpa using hp) (by simpa using hx))]
        cases mpos r k <;> simp [Nat.add_assoc, Nat.add_comm 1]
theorem run_findKey {P : Program} {kt : TypeId} {w : World} {es : List (K × V)} {k : K} {ents : Array MapEntry} (hkt : P.underlying kt = some KK.kd) (hl : ents.size = es.length) (hk : ∀ (j : Nat) p x, es[j]? = some p → ents[j]? = some x → x.key = KK.kf p.1) :
    (Instr.findKey kt (KK.kf k) ents.toList).run P w = .ok ((mpos es k).bind fun j => (ents[j]?).map fun x => (j, x.val)) w := by
  have h := findNow_pos (KK := KK) (es := es) (k := k) (ents := ents.toList) 0 (by simpa using hl) (fun j p x hp hx => hk j p x hp (by simpa using hx))
  refine (MapKept.run_findKey hkt h).trans ?_
  cases mpos es k <;> simp

variable {E : Env} {fr : Fr} {σ : Sto} {P : Program} {ρ : Operand → AV} {t kt e : TypeId} {m x y : Operand} {o size bytes ss sb k' : Nat} {zero sz : Value} {d : TypeDesc} {es : List (K × V)} {k : K} {z v : V}
variable {dst : Option Tmp} {ty : TypeId} {pos : String} {af : Array Edge} {gu : Option (Nat × Bool)}
theorem RelO.map_inv {g : G} (h : RelO g o (.mapo ag (menc KK F es))) : ∃ b clock ents, g.loc o = .map b ∧ g.w.heap[b]? = some (.map ents clock) ∧ g.u b = 0 ∧ ents.size = es.length ∧ (∀ (j : Nat) p x, es[j]? = some p → ents[j]? = some x → x.key = KK.kf p.1) ∧ ∀ (j : Nat) p x, es[j]? = some p → ents[j]? = some x → RelMV g.w g.u ag (F p.2) x.val := by
  generalize hes : menc KK F es = ms at h
  cases h with
  | @mapo _ _ b clock ents h1 h2 h3 h4 h5 =>
    subst hes
    have key : ∀ (j : Nat) p x, es[j]? = some p → ents[j]? = some x → x.key = KK.kf p.1 ∧ RelMV g.w g.u ag (F p.2) x.val := by
      intro j p x hp hx
      obtain ⟨x', e1, e2, e3⟩ := h5 j (KK.kf p.1) (F p.2) (by simp [menc, hp])
      rw [hx] at e1; cases e1
      exact ⟨e2, e3⟩
    exact ⟨b, clock, ents, h1, h2, h3, by simpa [menc] using h4, fun j p x hp hx => (key j p x hp hx).1, fun j p x hp hx => (key j p x hp hx).2⟩
/-- looking a key up -/
theorem run_lookup {g : G} (ok : Bool) (h : RelO g o (.mapo ag (menc KK F es))) {vm : Value} (hm : Rel g (.mp o) vm) (ht : P.underlying t = some (.map kt e)) (hkt : P.underlying kt = some KK.kd) (he : TyOk P e size bytes zero d) (hz : zeroMV ag zero = some (F z)) :
    ∃ v, (Instr.lookup t vm (KK.kf k) ok).run P g.w = .ok (if ok then .tuple #[v, .bool (mget es k).isSome] else v) g.w ∧ RelMV g.w g.u ag (F ((mget es k).getD z)) v := by
  obtain ⟨b, clock, ents, h1, h2, h3, h4, h5, h6⟩ := h.map_inv
  cases hm with
  | mp hl =>
    rw [h1] at hl; cases hl
    have hf := run_findKey (P := P) (w := g.w) (k := k) hkt h4 h5
    have hc := MapKept.run_checkKey (P := P) (w := g.w) hkt (KK.isk k) ents.isEmpty 9999
    rw [mget_pos]
    cases hp : mpos es k with
    | none =>
      rw [hp] at hf
      refine ⟨zero, ?_, relMV_zero (by simpa using hz)⟩
      simp only [Option.bind_none] at hf
      simp [Instr.lookup, run_underlying ht, MapKept.run_getObj_map h2, hc, hf, he.zeroValue, Result.andThen]
    | some i =>
      obtain ⟨p, hp1, hp2⟩ := mpos_lt hp
      have hi : i < ents.size := by rw [h4]; exact (List.getElem?_eq_some_iff.1 hp1).1
      rw [hp] at hf
      refine ⟨ents[i].val, ?_, ?_⟩
      · simp only [Option.bind_some, Array.getElem?_eq_getElem hi, Option.map_some] at hf
        simp [Instr.lookup, run_underlying ht, MapKept.run_getObj_map h2, hc, hf, hp1, Result.andThen]
      · simp only [Option.bind_some, hp1, Option.map_some, Option.getD_some]
        exact h6 i p _ hp1 (Array.getElem?_eq_getElem hi)
theorem ev_lookup (hm : ρ m = .mp o) (ho : σ.get o = some (.mapo ag (menc KK F es))) (hx : ρ x = .pv (.b (KK.kf k))) (ht : P.underlying t = some (.map kt e)) (hkt : P.underlying kt = some KK.kd) (he : TyOk P e size bytes zero d) (hz : zeroMV ag zero = some (F z)) :
    EvQ P ⟨dst, .lookup t m x false, ty, pos, af, gu⟩ ρ σ (mvA ag (F ((mget es k).getD z))) :=
  ⟨fun c => by simp, fun g ρv h hs => by
    obtain ⟨h1, h2⟩ := ops2 (o := ⟨dst, .lookup t m x false, ty, pos, af, gu⟩) (x := m) (y := x) rfl h
    rw [hm] at h1
    rw [hx] at h2
    have e2 := rel_b h2
    obtain ⟨v, hr, hv⟩ := run_lookup (k := k) (z := z) false (hs o _ ho) h1 ht hkt he hz
    refine ⟨v, ?_, rel_mvA hv⟩
    show Sem.run P (do let v ← Instr.lookup t (ρv m) (ρv x) false; pure (Next.value v)) g.w = _
    rw [e2, Sem.run_bind, hr]; rfl⟩
theorem ev_lookupOk (hm : ρ m = .mp o) (ho : σ.get o = some (.mapo ag (menc KK F es))) (hx : ρ x = .pv (.b (KK.kf k))) (ht : P.underlying t = some (.map kt e)) (hkt : P.underlying kt = some KK.kd) (he : TyOk P e size bytes zero d) (hz : zeroMV ag zero = some (F z)) :
    EvQ P ⟨dst, .lookup t m x true, ty, pos, af, gu⟩ ρ σ (.tup [mvA ag (F ((mget es k).getD z)), .bo (mget es k).isSome]) :=
  ⟨fun c => by simp, fun g ρv h hs => by
    obtain ⟨h1, h2⟩ := ops2 (o := ⟨dst, .lookup t m x true, ty, pos, af, gu⟩) (x := m) (y := x) rfl h
    rw [hm] at h1
    rw [hx] at h2
    have e2 := rel_b h2
    obtain ⟨v, hr, hv⟩ := run_lookup (k := k) (z := z) true (hs o _ ho) h1 ht hkt he hz
    refine ⟨.tuple #[v, .bool (mget es k).isSome], ?_, .tup rfl fun i c hi => ?_⟩
    · show Sem.run P (do let v ← Instr.lookup t (ρv m) (ρv x) true; pure (Next.value v)) g.w = _
      rw [e2, Sem.run_bind, hr]; rfl
    · match i, hi with
      | 0, rfl => exact rel_mvA hv
      | 1, rfl => exact .pv (.b rfl)⟩
/-- a new map -/
theorem opTo_makeMap {k0 : Nat} (id : Nat) (ag : Bool) (hN : Nat.ble (k0 + 1) E.N = true) (hf : fr.has id = false) (hs : σ.has id = false) :
    OpTo E ⟨some k0, .makeMap t none, ty, pos, af, gu⟩ fr σ ((k0, .mp id) :: fr) ((id, .mapo ag []) :: σ) :=
  ⟨fun g a K Q hst hK => by
    refine ⟨fun _ _ => trivial, ?_⟩
    rw [Oper.semAt_plain _ _ _ (fun c => by simp)]
    have hr : (execOp a.eval ⟨some k0, .makeMap t none, ty, pos, af, gu⟩).run E.P g.w = .ok (.value (.map (some g.w.heap.size))) (g.w.alloc (.map #[] 0)) := rfl
    rw [hr, Oper.uponIn_value]
    have hx : Ext g.w g.u (g.w.alloc (.map #[] 0)) g.u := ⟨by simp, fun _ _ => Nat.le_refl _, fun k i hk _ => by
      simp only [World.cell?]
      rw [(MapKept.heap_alloc g.w _).2 k hk], fun r' hr' => ((MapKept.heap_alloc g.w _).2 r' (blk_lt hr')).trans hr'⟩
    have hu0 : g.u g.w.heap.size = 0 := hst.so.wf _ (Nat.le_refl _)
    have hst' := hst.addObj (g' := ⟨g.w.alloc (.map #[] 0), g.u, fun q => if q = id then .map g.w.heap.size else g.loc q⟩) id (ob := .mapo ag []) hf hs
      ⟨rfl, rfl, rfl, hx, fun k hk _ => ⟨(MapKept.heap_alloc g.w _).2 k hk, rfl⟩⟩ (wf_same hst.so.wf hx.size _) (fun q hq => if_neg hq)
      (.mapo (if_pos rfl) (MapKept.heap_alloc g.w _).1 hu0 rfl (fun i k c hi => by simp at hi)) (fun b hb => by
        simp only [AO.blk, if_true, Loc.block] at hb
        cases hb; exact Nat.le_refl _)
    exact hK _ _ (hst'.put (Nat.le_of_ble_eq_true hN) (.mp (if_pos rfl)))⟩
/-- an entry is written -/
theorem opTo_mapUpdate (hm : fr.ev m = .mp o) (ho : σ.get o = some (.mapo ag (menc KK F es))) (hx : fr.ev x = .pv (.b (KK.kf k))) (hy : (fr.ev y).weak = mvA ag (F v)) (hne : ag || Nat.beq (F v).length 1) (ht : E.P.underlying t = some (.map kt e)) (hkt : E.P.underlying kt = some KK.kd) :
    OpTo E ⟨none, .mapUpdate t m x y, ty, pos, af, gu⟩ fr σ fr (σ.upd o (.mapo ag (menc KK F (mput es k v)))) :=
  ⟨fun g a K Q hst hK => by
    refine ⟨fun _ _ => trivial, ?_⟩
    rw [Oper.semAt_plain _ _ _ (fun c => by simp)]
    have h1 := hst.ev m
    have h2 := hst.ev x
    have h3 := rel_weak (hst.ev y)
    rw [hm] at h1
    rw [hx] at h2
    rw [hy] at h3
    have e2 := rel_b h2
    have h3 := relMV_of (fun hag => by rw [hag] at hne; exact Nat.eq_of_beq_eq_true hne) h3
    obtain ⟨b, clock, ents, i1, i2, i3, i4, i5, i6⟩ := (hst.so.obj o _ ho).map_inv
    generalize hvm : a.eval m = vm at h1
    cases h1 with
    | mp hl =>
      rw [i1] at hl; cases hl
      have hf := run_findKey (P := E.P) (w := g.w) (k := k) hkt i4 i5
      have hc := MapKept.run_checkKey (P := E.P) (w := g.w) hkt (KK.isk k) false 9999
      have hgo : ∀ ents' clock', ents'.size = (mput es k v).length → (∀ (j : Nat) p x, (mput es k v)[j]? = some p → ents'[j]? = some x → x.key = KK.kf p.1 ∧ RelMV g.w g.u ag (F p.2) x.val) →
          (execOp a.eval ⟨none, .mapUpdate t m x y, ty, pos, af, gu⟩).run E.P g.w = .ok .skip { g.w with heap := g.w.heap.setIfInBounds b (.map ents' clock') } → 
          Oper.uponIn (fen E.rd) 0 E.P ⟨none, .mapUpdate t m x y, ty, pos, af, gu⟩ a K Q ((execOp a.eval ⟨none, .mapUpdate t m x y, ty, pos, af, gu⟩).run E.P g.w) := by
        intro ents' clock' hsz hrel hrun
        rw [hrun, Oper.uponIn_skip]
        have hset := MapKept.heap_set (o' := .map ents' clock') i2
        have hsize : (g.w.heap.setIfInBounds b (.map ents' clock')).size = g.w.heap.size := by simp
        have hxx : Ext g.w g.u { g.w with heap := g.w.heap.setIfInBounds b (.map ents' clock') } g.u := ⟨Nat.le_of_eq hsize.symm, fun _ _ => Nat.le_refl _, fun q i hq hi => by
          by_cases hqb : q = b
          · subst hqb; omega
          · simp only [World.cell?]; rw [hset.2 q hqb], fun r' hr' => (hset.2 r' (by rintro rfl; rw [i2] at hr'; cases hr')).trans hr'⟩
        refine hK ⟨{ g.w with heap := g.w.heap.setIfInBounds b (.map ents' clock') }, g.u, g.loc⟩ _ (St.put_none (hst.objset ho hxx rfl rfl rfl rfl (fun q hq hn => ⟨hset.2 q (by rintro rfl; exact hn (by simp [AO.blk, i1, Loc.block])), rfl⟩) (wf_same hst.so.wf (Nat.le_of_eq hsize.symm) _) ?_ (fun _ => rfl)))
        refine .mapo i1 hset.1 i3 (by simpa [menc] using hsz) (fun j k' c hj => ?_)
        simp only [menc, List.getElem?_map, Option.map_eq_some_iff, Prod.mk.injEq] at hj
        obtain ⟨p, hp, rfl, rfl⟩ := hj
        have hlt : j < ents'.size := by rw [hsz]; exact (List.getElem?_eq_some_iff.1 hp).1
        obtain ⟨r1, r2⟩ := hrel j p _ hp (Array.getElem?_eq_getElem hlt)
        exact ⟨_, Array.getElem?_eq_getElem hlt, r1, r2.mono hxx⟩
      have hshow : (execOp a.eval ⟨none, .mapUpdate t m x y, ty, pos, af, gu⟩).run E.P g.w = Sem.run E.P (do Instr.mapUpdate t (.map (some b)) (KK.kf k) (a.eval y); pure Next.skip) g.w := by
        show Sem.run E.P (do Instr.mapUpdate t (a.eval m) (a.eval x) (a.eval y); pure Next.skip) g.w = _
        rw [hvm, e2]
      cases hp : mpos es k with
      | none =>
        rw [hp] at hf
        simp only [Option.bind_none] at hf
        have hmp : mput es k v = es ++ [(k, v)] := by rw [mput_pos, hp]
        refine hgo (ents.push ⟨KK.kf k, a.eval y, clock⟩) (clock + 1) (by rw [hmp]; simp [i4]) (fun j p x hj hx' => ?_) ?_
        · rw [hmp] at hj
          rcases Nat.lt_or_ge j es.length with h4 | h4
          · rw [List.getElem?_append_left h4] at hj
            rw [Array.getElem?_push_lt (by omega)] at hx'
            have hx2 : ents[j]? = some x := by rw [Array.getElem?_eq_getElem (by omega)]; exact hx'
            exact ⟨i5 j p x hj hx2, i6 j p x hj hx2⟩
          · have hj2 : j = es.length := by
              have := (List.getElem?_eq_some_iff.1 hj).1
              simp at this; omega
            subst hj2
            simp at hj
            subst hj
            rw [← i4] at hx'
            simp at hx'
            subst hx'
            exact ⟨rfl, h3⟩
        · rw [hshow]
          simp [Instr.mapUpdate, run_underlying ht, MapKept.run_getObj_map i2, hc, hf, MapKept.run_setObj_map _ i2, Result.andThen]
      | some i =>
        obtain ⟨p0, hp1, hp2⟩ := mpos_lt hp
        have hi : i < ents.size := by rw [i4]; exact (List.getElem?_eq_some_iff.1 hp1).1
        rw [hp] at hf
        simp only [Option.bind_some, Array.getElem?_eq_getElem hi, Option.map_some] at hf
        have hmp : mput es k v = es.set i (k, v) := by rw [mput_pos, hp]
        have hkk : ents[i].key = KK.kf k := by
          rw [i5 i p0 _ hp1 (Array.getElem?_eq_getElem hi)]
          rw [show p0.1 = k by simpa using hp2]
        refine hgo (ents.modify i fun e => { e with key := KK.kf k, val := a.eval y }) clock (by rw [hmp]; simp [i4]) (fun j p x hj hx' => ?_) ?_
        · rw [hmp] at hj
          rw [Array.getElem?_modify] at hx'
          by_cases hij : i = j
          · subst hij
            rw [List.getElem?_set_self (by rw [← i4]; exact hi)] at hj
            cases hj
            rw [if_pos rfl, Array.getElem?_eq_getElem hi] at hx'
            cases hx'
            exact ⟨rfl, h3⟩
          · rw [List.getElem?_set_ne hij] at hj
            rw [if_neg hij] at hx'
            exact ⟨i5 j p x hj hx', i6 j p x hj hx'⟩
        · rw [hshow]
          simp [Instr.mapUpdate, run_underlying ht, MapKept.run_getObj_map i2, hc, hf, hi, hkk, MapKept.run_keyThatStays (KK.isk k), MapKept.run_setObj_map _ i2, Result.andThen]⟩
theorem ev_mlen (hm : ρ m = .mp o) (ho : σ.get o = some (.mapo ag (menc KK F es))) (ht : P.underlying t = some (.map kt e)) : EvQ P ⟨dst, .call ⟨.builtin .len, #[m], #[t]⟩, ty, pos, af, gu⟩ ρ σ (.i es.length) :=
  ⟨fun c => by simp, fun g ρv h hs => by
    have h1 := h m (by simp [Op.operands, Call.operands])
    rw [hm] at h1
    obtain ⟨b, clock, ents, i1, i2, i3, i4, i5, i6⟩ := (hs o _ ho).map_inv
    generalize hvm : ρv m = vm at h1
    cases h1 with
    | mp hl =>
      rw [i1] at hl; cases hl
      refine ⟨.int .i64 es.length, ?_, .pv (.b rfl)⟩
      simp [execOp, resolve, invoke, builtin, Builtin.len_, hvm, run_underlying ht, goInt, MapKept.run_getObj_map i2, i4, Result.andThen]⟩
end

/-! ### is a slice nil? -/
section
variable {P : Program} {ρ : Operand → AV} {σ : Sto} {t t' e : TypeId} {x : Operand} {α : Type} {F : α → List PV} {l : List α} {dst : Option Tmp} {ty : TypeId} {pos : String} {af : Array Edge} {gu : Option (Nat × Bool)} {ss sb : Nat} {sz : Value}
/-- a slice that is not empty is not nil -/
def notNil {α : Type} (l : List α) : Option Bool := if l.isEmpty then none else some true
theorem notNil_spec {α : Type} {l : List α} {b : Bool} (h : notNil l = some b) : l ≠ [] ∧ b = true := by
  unfold notNil at h
  split at h
  · cases h
  · rename_i hl; cases h; exact ⟨by simpa using hl, rfl⟩
theorem val_notNil {g : G} {v : Value} (h : Rel g (.l F l) v) (hl : l ≠ []) : ∃ a n c, v = .slice (some a) n c := by
  cases h with
  | pv h =>
    obtain ⟨a', cap', size', b, off, val, hv, _, hc, _, ha, _⟩ := relP_sl_inv h
    have := ha (by simpa using hl)
    subst this
    exact ⟨_, _, _, hv⟩
theorem run_nilcmp {ρv : Operand → Value} {w : World} {a : Option Addr} {n c : Nat} (ne : Bool) (hx : ρv x = .slice a n c) (hy : ρv (.const (.slice none 0 0)) = .slice none 0 0) (ht : TyOk P t ss sb sz (.slice e)) :
    (execOp ρv ⟨dst, .binOp (if ne then .neq else .eql) t x (.const (.slice none 0 0)) t', ty, pos, af, gu⟩).run P w = .ok (.value (.bool (if ne then !a.isNone else a.isNone))) w := by
  cases ne <;> simp [execOp, hx, hy, go_sem, eqGuard, binOp, run_equal_slice_nil w t e a n c ht.u]
theorem ev_nilcmp (ne : Bool) {c : AV} {q : Bool} (hx : ρ x = c) (hc : ∀ g v, Rel g c v → ∃ a n k, v = .slice a n k ∧ a.isNone = q) (hy : ρ (.const (.slice none 0 0)) = .pv (.sl (some true) [])) (ht : TyOk P t ss sb sz (.slice e)) :
    EvQ P ⟨dst, .binOp (if ne then .neq else .eql) t x (.const (.slice none 0 0)) t', ty, pos, af, gu⟩ ρ σ (.bo (if ne then !q else q)) :=
  ⟨fun c => by simp, fun g ρv h hs => by
    obtain ⟨h1, h2⟩ := ops2 (o := ⟨dst, .binOp (if ne then .neq else .eql) t x (.const (.slice none 0 0)) t', ty, pos, af, gu⟩) (x := x) (y := .const (.slice none 0 0)) rfl h
    rw [hx] at h1
    rw [hy] at h2
    have e2 := rel_nil h2
    obtain ⟨a, n, k, e1, rfl⟩ := hc g _ h1
    exact ⟨_, run_nilcmp ne e1 e2 ht, .pv (.b rfl)⟩⟩
theorem ev_isnil (hx : ρ x = .pv (.sl (some true) [])) (hy : ρ (.const (.slice none 0 0)) = .pv (.sl (some true) [])) (ht : TyOk P t ss sb sz (.slice e)) : EvQ P ⟨dst, .binOp .eql t x (.const (.slice none 0 0)) t', ty, pos, af, gu⟩ ρ σ (.bo true) :=
  ev_nilcmp false hx (fun g v h => ⟨none, 0, 0, rel_nil h, rfl⟩) hy ht
theorem ev_nenil (hx : ρ x = .pv (.sl (some true) [])) (hy : ρ (.const (.slice none 0 0)) = .pv (.sl (some true) [])) (ht : TyOk P t ss sb sz (.slice e)) : EvQ P ⟨dst, .binOp .neq t x (.const (.slice none 0 0)) t', ty, pos, af, gu⟩ ρ σ (.bo false) :=
  ev_nilcmp true hx (fun g v h => ⟨none, 0, 0, rel_nil h, rfl⟩) hy ht
theorem ev_isnil_no {b : Bool} (hx : ρ x = .l F l) (hy : ρ (.const (.slice none 0 0)) = .pv (.sl (some true) [])) (ht : TyOk P t ss sb sz (.slice e)) (hl : notNil l = some b) : EvQ P ⟨dst, .binOp .eql t x (.const (.slice none 0 0)) t', ty, pos, af, gu⟩ ρ σ (.bo false) :=
  ev_nilcmp false hx (fun g v h => by obtain ⟨a, n, c, e⟩ := val_notNil h (notNil_spec hl).1; exact ⟨some a, n, c, e, rfl⟩) hy ht
theorem ev_nenil_no {b : Bool} (hx : ρ x = .l F l) (hy : ρ (.const (.slice none 0 0)) = .pv (.sl (some true) [])) (ht : TyOk P t ss sb sz (.slice e)) (hl : notNil l = some b) : EvQ P ⟨dst, .binOp .neq t x (.const (.slice none 0 0)) t', ty, pos, af, gu⟩ ρ σ (.bo true) :=
  ev_nilcmp true hx (fun g v h => by obtain ⟨a, n, c, e⟩ := val_notNil h (notNil_spec hl).1; exact ⟨some a, n, c, e, rfl⟩) hy ht
end

/-- a case distinction on what a map holds -/
def optElim {α β : Type} (o : Option α) (f : α → β) (b : β) : β := match o with | some v => f v | none => b
theorem opt_some {α β : Type} {o : Option α} {v : α} {f : α → β} {b x : β} (h : o = some v) (hr : optElim o f b = x) : f v = x := by subst h; exact hr
theorem opt_none {α β : Type} {o : Option α} {f : α → β} {b x : β} (h : o = none) (hr : optElim o f b = x) : b = x := by subst h; exact hr
theorem opt_split {α : Type} {G : Prop} (o : Option α) (h1 : ∀ v, o = some v → G) (h2 : o = none → G) : G := by
  cases h : o with
  | none => exact h2 h
  | some v => exact h1 v h
section
variable {K V : Type} [BEq K] [LawfulBEq K] {KK : KeyK K} {F : V → List PV} {ag : Bool} {P : Program} {ρ : Operand → AV} {σ : Sto} {t kt e : TypeId} {m x : Operand} {o size bytes : Nat} {zero : Value} {d : TypeDesc} {es : List (K × V)} {k : K} {z v : V}
variable {dst : Option Tmp} {ty : TypeId} {pos : String} {af : Array Edge} {gu : Option (Nat × Bool)}
theorem ev_lookup_some (hm : ρ m = .mp o) (ho : σ.get o = some (.mapo ag (menc KK F es))) (hx : ρ x = .pv (.b (KK.kf k))) (ht : P.underlying t = some (.map kt e)) (hkt : P.underlying kt = some KK.kd) (he : TyOk P e size bytes zero d) (hz : zeroMV ag zero = some (F z)) (hg : mget es k = some v) :
    EvQ P ⟨dst, .lookup t m x false, ty, pos, af, gu⟩ ρ σ (mvA ag (F v)) := by
  have := ev_lookup (dst := dst) (ty := ty) (pos := pos) (af := af) (gu := gu) hm ho hx ht hkt he hz
  rw [hg] at this; exact this
theorem ev_lookup_none (hm : ρ m = .mp o) (ho : σ.get o = some (.mapo ag (menc KK F es))) (hx : ρ x = .pv (.b (KK.kf k))) (ht : P.underlying t = some (.map kt e)) (hkt : P.underlying kt = some KK.kd) (he : TyOk P e size bytes zero d) (hg : mget es k = none) :
    EvQ P ⟨dst, .lookup t m x false, ty, pos, af, gu⟩ ρ σ (constAV zero) :=
  ⟨fun c => by simp, fun g ρv h hs => by
    obtain ⟨h1, h2⟩ := ops2 (o := ⟨dst, .lookup t m x false, ty, pos, af, gu⟩) (x := m) (y := x) rfl h
    rw [hm] at h1
    rw [hx] at h2
    have e2 := rel_b h2
    obtain ⟨b, clock, ents, i1, i2, i3, i4, i5, i6⟩ := (hs o _ ho).map_inv
    generalize hvm : ρv m = vm at h1
    cases h1 with
    | mp hl =>
      rw [i1] at hl; cases hl
      have hf := run_findKey (P := P) (w := g.w) (k := k) hkt i4 i5
      have hc := MapKept.run_checkKey (P := P) (w := g.w) hkt (KK.isk k) ents.isEmpty 9999
      have hp : mpos es k = none := by
        rw [mget_pos] at hg
        cases hp : mpos es k with
        | none => rfl
        | some i =>
          obtain ⟨p, hp1, _⟩ := mpos_lt hp
          rw [hp] at hg; simp [hp1] at hg
      rw [hp] at hf
      simp only [Option.bind_none] at hf
      refine ⟨zero, ?_, rel_const g zero⟩
      show Sem.run P (do let v ← Instr.lookup t (ρv m) (ρv x) false; pure (Next.value v)) g.w = _
      rw [hvm, e2]
      simp [Instr.lookup, run_underlying ht, MapKept.run_getObj_map i2, hc, hf, he.zeroValue, Result.andThen]⟩
end
end Go.Proofs.Ytlpmbmilnoncdaa

/- The whole of the calculus. -/
namespace Go.Proofs.Ytlpmbmilnoncdaa
theorem bool_split {C : Prop} (b : Bool) (h1 : b = true → C) (h2 : b = false → C) : C := by
  cases b
  · exact h2 rfl
  · exact h1 rfl
/-- less is known, among operations -/
theorem awpl_le {E : Env} {fr fr' : Fr} {σ σ' : Sto} {K : Post} {ops : Array Oper} {ol : List Oper} (hf : FrLe fr fr') (hs : StoLe σ σ') (h : AWPL E ops ol fr' σ' K) : AWPL E ops ol fr σ K := ⟨fun g a hst => h.go g a (hst.le hf hs)⟩
theorem elim_l {α β γ : Type} {f : α → γ} {g : β → γ} {a : α} {x : γ} (h : Sum.elim f g (.inl a) = x) : f a = x := h
theorem elim_r {α β γ : Type} {f : α → γ} {g : β → γ} {a : β} {x : γ} (h : Sum.elim f g (.inr a) = x) : g a = x := h
/-- several ways lead to the rest -/
theorem awpl_cut {E : Env} {fr : Fr} {σ : Sto} {K : Post} {ops : Array Oper} {o : Oper} {rest : List Oper} {J : Type} (frs : J → Fr) (stos : J → Sto) (Q : J → Prop)
    (h1 : (∀ j fr' σ', Q j → FrLe fr' (frs j) → StoLe σ' (stos j) → AWPL E ops rest fr' σ' K) → AWPL E ops (o :: rest) fr σ K) (h2 : ∀ j, Q j → AWPL E ops rest (frs j) (stos j) K) : AWPL E ops (o :: rest) fr σ K :=
  h1 fun j _ _ hq hf hs => awpl_le hf hs (h2 j hq)
end Go.Proofs.Ytlpmbmilnoncdaa

/- Go's structures as Lean's, and their cells. Written by program. -/
namespace Go.Proofs.Ytlpmbmilnoncdaa
open Go.RowKit
structure TFault where
  Code : Int
  Index : Int
def TFault.pc (x : TFault) : List PV := [pI x.Code, pI x.Index]
structure TAlias where
  Address : Str
  To : List Str
def TAlias.pc (x : TAlias) : List PV := [pS x.Address, pL cS x.To]
end Go.Proofs.Ytlpmbmilnoncdaa

/- Rows of the table of types. Written by program. -/
namespace Go.Proofs.Ytlpmbmilnoncdaa
open Go.RowKit
set_option maxRecDepth 100000
set_option maxHeartbeats 40000000
set_option linter.unusedVariables false
theorem mixed : Try.prog.follows .mixedOrders = true := by kernel_rfl
theorem cmp_api_Fault : CmpOk Try.prog 23 := ⟨by kernel_rfl, by kernel_rfl⟩
theorem pl_api_Alias (w : World) : Sem.run Try.prog (Array.mapM (fun (f : Field) => do pure (f.offset, ← sizeOf f.type)) #[⟨"Address", 9, 0, false, "", "", 0⟩, ⟨"To", 36, 1, false, "", "", 16⟩]) w = .ok #[(0, 1), (1, 1)] w := by kernel_rfl
theorem pl_api_Fault (w : World) : Sem.run Try.prog (Array.mapM (fun (f : Field) => do pure (f.offset, ← sizeOf f.type)) #[⟨"Code", 3, 0, false, "", "", 0⟩, ⟨"Index", 3, 1, false, "", "", 8⟩]) w = .ok #[(0, 1), (1, 1)] w := by kernel_rfl
theorem ty_api_Alias : TyOk Try.prog 61 2 40 (.agg #[.string ⟨#[]⟩, .slice none 0 0]) (.struct #[⟨"Address", 9, 0, false, "", "", 0⟩, ⟨"To", 36, 1, false, "", "", 16⟩]) := ⟨by kernel_rfl, by kernel_rfl⟩
theorem ty_api_Fault : TyOk Try.prog 23 2 16 (.agg #[.int .i64 0, .int .i64 0]) (.struct #[⟨"Code", 3, 0, false, "", "", 0⟩, ⟨"Index", 3, 1, false, "", "", 8⟩]) := ⟨by kernel_rfl, by kernel_rfl⟩
theorem ty_bool : TyOk Try.prog 4 1 1 (.bool false) .bool := ⟨by kernel_rfl, by kernel_rfl⟩
theorem ty_int : TyOk Try.prog 3 1 8 (.int .i64 0) (.int .i64) := ⟨by kernel_rfl, by kernel_rfl⟩
theorem ty_map_string_bool : TyOk Try.prog 91 1 8 (.map none) (.map 9 4) := ⟨by kernel_rfl, by kernel_rfl⟩
theorem ty_map_string_s_string : TyOk Try.prog 74 1 8 (.map none) (.map 9 36) := ⟨by kernel_rfl, by kernel_rfl⟩
theorem ty_s_api_Alias : TyOk Try.prog 52 1 24 (.slice none 0 0) (.slice 61) := ⟨by kernel_rfl, by kernel_rfl⟩
theorem ty_s_int : TyOk Try.prog 33 1 24 (.slice none 0 0) (.slice 3) := ⟨by kernel_rfl, by kernel_rfl⟩
theorem ty_s_string : TyOk Try.prog 36 1 24 (.slice none 0 0) (.slice 9) := ⟨by kernel_rfl, by kernel_rfl⟩
theorem ty_s_uint8 : TyOk Try.prog 35 1 24 (.slice none 0 0) (.slice 5) := ⟨by kernel_rfl, by kernel_rfl⟩
theorem ty_string : TyOk Try.prog 9 1 16 (.string ⟨#[]⟩) .string := ⟨by kernel_rfl, by kernel_rfl⟩
theorem ty_uint8 : TyOk Try.prog 5 1 1 (.int .u8 0) (.int .u8) := ⟨by kernel_rfl, by kernel_rfl⟩
end Go.Proofs.Ytlpmbmilnoncdaa

/- From a law's arguments, as they are read, to the calculus: openers; from a contract to the row's end. -/
namespace Go.Proofs.Ytlpmbmilnoncdaa
open Go.ChangeShapes Go.WideShapes Go.ChangeAt Go.RowKit

/-- every cell that is there is published -/
def uAll (W : World) (k : Nat) : Nat := match W.heap[k]? with
  | some (.cells vs _ _) => vs.size
  | _ => 0
theorem uAll_lt {W : World} {b i : Nat} {v : Value} (h : W.cell? ⟨b, i, none⟩ = some v) : i < uAll W b ∧ b < W.heap.size := by
  unfold World.cell? at h
  simp only [Option.isSome_none, Bool.false_eq_true, if_false] at h
  split at h
  · rename_i c t z hb
    refine ⟨?_, (Array.getElem?_eq_some_iff.1 hb).1⟩
    unfold uAll
    rw [hb]
    exact (Array.getElem?_eq_some_iff.1 h).1
  · cases h
def gAll (W : World) : G := ⟨W, uAll W, fun _ => .none⟩
theorem wf_all (W : World) : Wf (gAll W) := fun k hk => by
  show uAll W k = 0
  unfold uAll
  have : W.heap[k]? = none := Array.getElem?_eq_none hk
  rw [this]

/-- cells and what they hold -/
structure RelC (W : World) (ps : List PV) (cs : List Value) : Prop where
  len : cs.length = ps.length
  rel : ∀ (i : Nat) (c : PV), ps[i]? = some c → RelP W (uAll W) c (cs.getD i undef)
theorem relC_one {W : World} {p : PV} {v : Value} (h : RelP W (uAll W) p v) : RelC W [p] [v] := ⟨rfl, fun i c hi => by
  cases i with
  | zero => simp at hi; subst hi; exact h
  | succ i => simp at hi⟩
theorem relC_append {W : World} {p1 p2 : List PV} {cs : List Value} {n : Nat} (hn : n = p1.length) (h1 : RelC W p1 (cs.take n)) (h2 : RelC W p2 (cs.drop n)) : RelC W (p1 ++ p2) cs := by
  subst hn
  have l1 := h1.len
  have l2 := h2.len
  simp at l1 l2
  refine ⟨by simp; omega, fun i c hi => ?_⟩
  rcases Nat.lt_or_ge i p1.length with hlt | hge
  · rw [List.getElem?_append_left hlt] at hi
    have := h1.rel i c hi
    simpa [List.getD_eq_getElem?_getD, List.getElem?_take, hlt] using this
  · rw [List.getElem?_append_right hge] at hi
    have := h2.rel _ c hi
    simp only [List.getD_eq_getElem?_getD, List.getElem?_drop] at this ⊢
    rwa [show p1.length + (i - p1.length) = i by omega] at this

/-- **how a type's values are read**: as T's; ok: what is known of them; bk: they are no bulkier than what was read -/
structure Opens (P : Program) (t : TypeId) {T : Type} (n : Nat) (pc : T → List PV) (ok : T → Prop) (bk : T → Nat) : Prop where
  cells : P.cellsOf t = n
  len : ∀ x, (pc x).length = n
  op : ∀ {H : Type} {enc : TypeId × Value → H} {W : World} {fuel : Nat} {cs : List Value} {d : DataW H × List MemPlace}, DataW.trod enc P W 0 (fun _ => true) true fuel t cs = some d →
    ∃ x : T, RelC W (pc x) cs ∧ ok x ∧ bk x ≤ Rows.uptoBulk d.1

def ok64 (n : Int) : Prop := -9223372036854775808 ≤ n ∧ n ≤ 9223372036854775807
def okStr (s : Str) : Prop := s.length ≤ maxLen
def okL {T : Type} (ok : T → Prop) (l : List T) : Prop := l.length ≤ maxLen ∧ ∀ x ∈ l, ok x
def bkL {T : Type} (bk : T → Nat) : List T → Nat
  | [] => 1
  | x :: r => bk x + bkL bk r

variable {P : Program} {t e : TypeId}
theorem opens_I (ht : P.underlying t = some (.int .i64)) (hc : P.cellsOf t = 1) : Opens P t 1 cI ok64 (fun _ => 1) := ⟨hc, fun _ => rfl, fun h => by
  obtain ⟨n, rfl, rfl, hw⟩ := DataW.trod_int ht h
  refine ⟨n, relC_one (.b rfl), ?_, by simp [Rows.uptoBulk]⟩
  unfold ok64
  simpa [Lit.wf, IntKind.min, IntKind.max, IntKind.signed, IntKind.bits] using hw⟩
theorem opens_U (ht : P.underlying t = some (.int .u8)) (hc : P.cellsOf t = 1) : Opens P t 1 cU (fun _ => True) (fun _ => 1) := ⟨hc, fun _ => rfl, fun {H enc W fuel cs d} h => by
  obtain ⟨n, rfl, rfl, hw⟩ := DataW.trod_int ht h
  have hw : 0 ≤ n ∧ n ≤ 255 := by simpa [Lit.wf, IntKind.min, IntKind.max, IntKind.signed, IntKind.bits] using hw
  refine ⟨UInt8.ofNat n.toNat, relC_one ?_, trivial, by simp [Rows.uptoBulk]⟩
  have : ((UInt8.ofNat n.toNat).toNat : Int) = n := by
    rw [UInt8.toNat_ofNat']
    omega
  show RelP W (uAll W) (.b (.int .u8 _)) _
  rw [this]
  exact .b rfl⟩
theorem opens_B (ht : P.underlying t = some .bool) (hc : P.cellsOf t = 1) : Opens P t 1 cB (fun _ => True) (fun _ => 1) := ⟨hc, fun _ => rfl, fun h => by
  obtain ⟨n, rfl, rfl⟩ := DataW.trod_bool ht h
  exact ⟨n, relC_one (.b rfl), trivial, by simp [Rows.uptoBulk]⟩⟩
theorem opens_S (ht : P.underlying t = some .string) (hc : P.cellsOf t = 1) : Opens P t 1 cS okStr (fun s => s.length + 1) := ⟨hc, fun _ => rfl, fun {H enc W fuel cs d} h => by
  obtain ⟨s, rfl, rfl, hw⟩ := DataW.trod_string ht h
  refine ⟨s.data.toList, relC_one ?_, ?_, ?_⟩
  · have : strB s.data.toList = s := by cases s; simp [strB]
    show RelP W (uAll W) (.b (.string (strB s.data.toList))) _
    rw [this]; exact .b rfl
  · show s.data.toList.length ≤ maxLen
    have : s.data.toList.length = s.size := by cases s; rfl
    omega
  · simp [Rows.uptoBulk]⟩
theorem bulkAll_append {H : Type} (a b : List (DataW H)) : Rows.uptoBulkAll (a ++ b) = Rows.uptoBulkAll a + Rows.uptoBulkAll b := by
  induction a with
  | nil => simp [Rows.uptoBulkAll]
  | cons x a ih => simp only [List.cons_append, Rows.uptoBulkAll, ih]; omega
theorem bkL_map {T : Type} {H : Type} {bk : T → Nat} (n : Nat) (X : Nat → T) (D : Nat → DataW H) (h : ∀ i, i < n → bk (X i) ≤ Rows.uptoBulk (D i)) : bkL bk ((List.range n).map X) ≤ Rows.uptoBulkAll ((List.range n).map D) + 1 := by
  suffices h' : ∀ l : List Nat, (∀ i ∈ l, i < n) → bkL bk (l.map X) ≤ Rows.uptoBulkAll (l.map D) + 1 from h' _ (fun i hi => List.mem_range.1 hi)
  intro l
  induction l with
  | nil => intro _; simp [bkL]
  | cons i l ih =>
    intro hl
    have h1 := h i (hl i (List.mem_cons_self ..))
    have h2 := ih fun j hj => hl j (List.mem_cons_of_mem _ hj)
    simp only [List.map_cons, bkL, Rows.uptoBulkAll]
    omega
theorem opens_L {T : Type} [Inhabited T] {n : Nat} {pc : T → List PV} {ok : T → Prop} {bk : T → Nat} (h : Opens P e n pc ok bk) (hn : Nat.blt 0 n = true) (ht : P.underlying t = some (.slice e)) (hc : P.cellsOf t = 1) : Opens P t 1 (cL pc) (okL ok) (bkL bk) := ⟨hc, fun _ => rfl, fun {H enc W fuel cs d} hd => by
  have hn : 0 < n := Nat.le_of_ble_eq_true hn
  rcases Go.Deep.open_slice ht hd with ⟨rfl, rfl⟩ | ⟨a, len, cap, m, n', D, Pl, rfl, hb, hl, hm, hmm, rfl, hx⟩
  · refine ⟨[], relC_one (RelP.sl (a := none) (cap := 0) 1 0 0 (fun _ => undef) (fun x hx => by cases hx) (fun _ => ⟨rfl, rfl⟩) (by simp) (by simp) (by simp) (by simp) (fun i hi => by simp at hi) (fun i j e c hi => by simp at hi)), ⟨Nat.zero_le _, by simp⟩, by simp [bkL, Rows.uptoBulk]⟩
  · simp only [if_true] at hmm
    subst hmm
    obtain ⟨X, hX⟩ := Go.Deep.choose_lt (n := len) (p := fun i (x : T) => ∃ cs', W.cells? 0 (a.add (i * P.cellsOf e)) (P.cellsOf e) = some cs' ∧ RelC W (pc x) cs' ∧ ok x ∧ bk x ≤ Rows.uptoBulk (D i)) (fun i hi => by
      obtain ⟨cs', h1, h2⟩ := hx i (by omega)
      obtain ⟨x, h3, h4, h5⟩ := h.op h2
      exact ⟨x, cs', h1, h3, h4, h5⟩)
    rw [h.cells] at hX
    have hcell : ∀ i j, i < len → j < n → ∃ v, W.cell? (a.add (i * n + j)) = some v ∧ ∀ c, (pc (X i))[j]? = some c → RelP W (uAll W) c v := by
      intro i j hi hj
      obtain ⟨cs', h1, h2, _⟩ := hX i hi
      obtain ⟨_, hlen, hget⟩ := World.cells?_some h1
      have hj' := hget j hj
      have hadd : (a.add (i * n)).add j = a.add (i * n + j) := by
        unfold Addr.add
        by_cases h0 : j = 0
        · simp [h0]
        · by_cases h00 : i * n = 0
          · simp [h0, h00]
          · rw [if_neg h0, if_neg h00, if_neg (by omega)]
            simp [Nat.add_assoc]
      rw [hadd] at hj'
      have hlt : j < cs'.length := by omega
      refine ⟨cs'[j], by rw [hj']; exact List.getElem?_eq_getElem hlt, fun c hc' => ?_⟩
      have := h2.rel j c hc'
      simpa [List.getD_eq_getElem?_getD, List.getElem?_eq_getElem hlt] using this
    by_cases h0 : len = 0
    · subst h0
      refine ⟨[], relC_one (RelP.sl (elems := []) (a := some a) (cap := m) 1 0 0 (fun _ => undef) (fun x hx => by cases hx) (fun hx => by cases hx) (by simp) (by simp) (by simp) (by simp) (fun i hi => by simp at hi) (fun i j e c hi => by simp at hi)), ⟨Nat.zero_le _, by simp⟩, by simp [bkL, Rows.uptoBulk]⟩
    obtain ⟨b, off, spot⟩ := a
    have hspot : spot = none := by
      obtain ⟨v, hv, _⟩ := hcell 0 0 (by omega) hn
      simpa [Addr.add] using World.cell?_spot hv
    subst hspot
    have hadd : ∀ i, (⟨b, off, none⟩ : Addr).add i = ⟨b, off + i, none⟩ := by
      intro i
      unfold Addr.add
      by_cases h0 : i = 0
      · simp [h0]
      · simp [h0]
    simp only [hadd] at hcell
    have hdm : ∀ i j, j < n → (i * n + j) / n = i ∧ (i * n + j) % n = j := by
      intro i j hj
      rw [Nat.mul_comm, Nat.mul_add_div hn, Nat.mul_add_mod]
      exact ⟨by rw [Nat.div_eq_of_lt hj]; rfl, Nat.mod_eq_of_lt hj⟩
    have hcv : ∀ k, k < len * n → ∃ v, W.cell? ⟨b, off + k, none⟩ = some v ∧ ∀ c, (pc (X (k / n)))[k % n]? = some c → RelP W (uAll W) c v := by
      intro k hk
      have h1 : k / n < len := Nat.div_lt_of_lt_mul (by rw [Nat.mul_comm]; exact hk)
      have h2 : k % n < n := Nat.mod_lt _ hn
      have := hcell (k / n) (k % n) h1 h2
      rwa [show k / n * n + k % n = k by rw [Nat.mul_comm]; exact Nat.div_add_mod k n] at this
    obtain ⟨V, hV⟩ := Go.Deep.choose_lt (α := Value) hcv
    refine ⟨(List.range len).map X, ?_, ⟨by simp; omega, ?_⟩, ?_⟩
    · have key : RelP W (uAll W) (.sl none (((List.range len).map X).map pc)) (.slice (some ⟨b, off, none⟩) (((List.range len).map X).map pc).length m) := by
        refine .sl n b off V (fun x hx => by cases hx) (fun hx => by cases hx) (by simpa using hl) (fun e he => ?_) (fun _ => rfl) (fun _ => ?_) (fun i hi => ?_) (fun i j e' c hi hj => ?_)
        · simp only [List.map_map, List.mem_map] at he
          obtain ⟨i, _, rfl⟩ := he
          exact h.len _
        · simp only [List.length_map, List.length_range]
          have hpos : 0 < len * n := Nat.mul_pos (by omega) hn
          obtain ⟨hv, _⟩ := hV (len * n - 1) (by omega)
          obtain ⟨h1, h2⟩ := uAll_lt hv
          exact ⟨by omega, h2⟩
        · exact (hV i (by simpa using hi)).1
        · simp only [List.getElem?_map, List.map_map] at hi
          rw [Option.map_eq_some_iff] at hi
          obtain ⟨i', hi', rfl⟩ := hi
          obtain ⟨hlt, rfl⟩ := List.getElem?_eq_some_iff.1 hi'
          simp only [List.length_range] at hlt
          simp only [List.getElem_range, Function.comp] at hj
          have hjn : j < n := by have := (List.getElem?_eq_some_iff.1 hj).1; rw [h.len] at this; exact this
          have hk : i * n + j < len * n := by
            have := Nat.mul_le_mul_right n (show i + 1 ≤ len from hlt)
            rw [Nat.add_mul] at this
            omega
          have := (hV _ hk).2 c
          rw [(hdm i j hjn).1, (hdm i j hjn).2] at this
          exact this hj
      have hl' : (((List.range len).map X).map pc).length = len := by simp
      rw [hl'] at key
      exact relC_one key
    · intro x hx
      simp only [List.mem_map, List.mem_range] at hx
      obtain ⟨i, hi, rfl⟩ := hx
      obtain ⟨_, _, _, h4, _⟩ := hX i hi
      exact h4
    · have := bkL_map len X D (fun i hi => by obtain ⟨_, _, _, _, h5⟩ := hX i hi; exact h5)
      simp only [Rows.uptoBulk]
      omega⟩

/-- an argument of one cell -/
theorem arg_one {T : Type} {pc : T → List PV} {ok : T → Prop} {bk : T → Nat} (h : Opens P t 1 pc ok bk) {H : Type} {enc : TypeId × Value → H} {W : World} {v : Value} {d : DataW H} {ps : List MemPlace} (hv : cellV v = true) (hd : DataW.Trod enc P W 0 (fun _ => true) true t v d ps) :
    ∃ x, (∀ p, pc x = [p] → Rel (gAll W) (.pv p) v) ∧ ok x ∧ bk x ≤ Rows.uptoBulk d := by
  obtain ⟨fuel, hf⟩ := hd
  obtain ⟨x, h1, h2, h3⟩ := h.op hf
  refine ⟨x, fun p hp => .pv ?_, h2, h3⟩
  have hcs : v.cells.toList = [v] := by cases v <;> first | rfl | cases hv
  rw [hcs, hp] at h1
  have := h1.rel 0 p rfl
  exact this
/-- an argument that is a structure -/
theorem arg_agg {T : Type} {n : Nat} {pc : T → List PV} {ok : T → Prop} {bk : T → Nat} (h : Opens P t n pc ok bk) {H : Type} {enc : TypeId × Value → H} {W : World} {v : Value} {d : DataW H} {ps : List MemPlace} (hv : ∃ cs, v = .agg cs) (hd : DataW.Trod enc P W 0 (fun _ => true) true t v d ps) :
    ∃ x, Rel (gAll W) (.agg ((pc x).map .pv)) v ∧ ok x ∧ bk x ≤ Rows.uptoBulk d := by
  obtain ⟨cs, rfl⟩ := hv
  obtain ⟨fuel, hf⟩ := hd
  obtain ⟨x, h1, h2, h3⟩ := h.op hf
  refine ⟨x, ?_, h2, h3⟩
  have hl := h1.len
  simp only [Value.cells, Array.length_toList] at hl
  have hr : ∀ (i : Nat) (c : PV), (pc x)[i]? = some c → RelP W (uAll W) c (cs.getD i undef) := fun i c hi => by
    have := h1.rel i c hi
    simpa [Value.cells, List.getD_eq_getElem?_getD, Array.getD_eq_getD_getElem?] using this
  refine .agg (by simpa using hl) (fun i hi => ?_) (fun i c hi => ?_)
  · have hlt : i < (pc x).length := by omega
    exact (hr i _ (List.getElem?_eq_getElem hlt)).cellV
  · simp only [List.getElem?_map, Option.map_eq_some_iff] at hi
    obtain ⟨c', hc, rfl⟩ := hi
    exact .pv (hr i c' hc)

/-- **a contract is a law's walk** -/
theorem calls_of_run {f : FuncId} {args : List AV} (h : Run P f args (.pv (pB true))) {W : World} {vs : Array Value} (hgl : Gl (gAll W)) (ha : RelArgs (gAll W) args vs) : Calls P f vs W fun e W' => e = .returned (.bool true) ∧ Below W.heap.size W W' := by
  refine callsIn_wide.1 ((h.run (gAll W) vs (wf_all W) hgl ha).mono ?_)
  rintro e w' ⟨g', v, rfl, hl, ho, hw, rfl, hv⟩
  refine ⟨by rw [rel_bool hv], ⟨ho.os, ho.tape, ho.output, ho.ext.size, fun k hk => (ho.block k hk (by simp)).1⟩⟩

theorem relC_seg {W : World} {p1 p2 : List PV} {cs : List Value} {off n : Nat} (hn : n = p1.length) (h1 : RelC W p1 ((cs.drop off).take n)) (h2 : RelC W p2 (cs.drop (off + n))) : RelC W (p1 ++ p2) (cs.drop off) := relC_append hn h1 (by rw [List.drop_drop]; exact h2)
theorem relC_end {W : World} {cs : List Value} {k : Nat} (h : cs.length = k) : RelC W [] (cs.drop k) := ⟨by simp [h], fun i c hi => by simp at hi⟩
inductive RelL (g : G) : List AV → List Value → Prop
  | nil : RelL g [] []
  | cons {c : AV} {v : Value} {cs : List AV} {vs : List Value} (h : Rel g c v) (r : RelL g cs vs) : RelL g (c :: cs) (v :: vs)
theorem relArgs_of {g : G} {cs : List AV} {vs : List Value} (h : RelL g cs vs) : RelArgs g cs vs.toArray := by
  have key : vs.length = cs.length ∧ ∀ (i : Nat) (c : AV), cs[i]? = some c → Rel g c (vs.getD i undef) := by
    induction h with
    | nil => exact ⟨rfl, fun i c hi => by simp at hi⟩
    | cons h _ ih =>
      refine ⟨by simp [ih.1], fun i c hi => ?_⟩
      cases i with
      | zero => simp at hi; subst hi; exact h
      | succ i => exact ih.2 i c (by simpa using hi)
  exact ⟨by simpa using key.1, fun i c hi => by have := key.2 i c hi; simpa [List.getD_eq_getElem?_getD] using this⟩

end Go.Proofs.Ytlpmbmilnoncdaa

/- How the laws' arguments are read. Written by program. -/
namespace Go.Proofs.Ytlpmbmilnoncdaa
open Go.RowKit
set_option maxRecDepth 100000
set_option linter.unusedVariables false
theorem op_string : Opens Try.prog 9 1 cS okStr (fun s => s.length + 1) := opens_S ty_string.u (by kernel_rfl)
theorem op_s_string : Opens Try.prog 36 1 (cL cS) (okL okStr) (bkL (fun s => s.length + 1)) := opens_L op_string rfl ty_s_string.u (by kernel_rfl)
def TAlias.ok (x : TAlias) : Prop := okStr x.Address ∧ (okL okStr) x.To
def TAlias.bk (x : TAlias) : Nat := (fun s => s.length + 1) x.Address + (bkL (fun s => s.length + 1)) x.To + 1
instance : Inhabited TAlias := ⟨⟨default, default⟩⟩
theorem op_api_Alias : Opens Try.prog 61 2 TAlias.pc TAlias.ok TAlias.bk := ⟨by kernel_rfl, fun _ => rfl, fun {H enc W fuel cs d} h => by
  obtain ⟨xs, n, _, rfl, hl, hlen, hf⟩ := DataW.trod_struct ty_api_Alias.u h
  have hl2 : cs.length = 2 := hl.trans (by kernel_rfl)
  match xs, hlen with
  | [y0, y1], _ =>
    obtain ⟨x0, r0, o0, b0⟩ := op_string.op (show _ = some y0 from hf 0 _ rfl)
    replace r0 : RelC W _ (List.take (Try.prog.cellsOf 9) (List.drop 0 cs)) := r0
    rw [op_string.cells] at r0
    obtain ⟨x1, r1, o1, b1⟩ := op_s_string.op (show _ = some y1 from hf 1 _ rfl)
    replace r1 : RelC W _ (List.take (Try.prog.cellsOf 36) (List.drop 1 cs)) := r1
    rw [op_s_string.cells] at r1
    exact ⟨⟨x0, x1⟩, (relC_seg (off := 0) rfl r0 (relC_seg (off := 1) rfl r1 (relC_end hl2))), ⟨o0, o1⟩, by simp only [List.map, Rows.uptoBulk, Rows.uptoBulkAll, TAlias.bk]; omega⟩⟩
theorem op_s_api_Alias : Opens Try.prog 52 1 (cL TAlias.pc) (okL TAlias.ok) (bkL TAlias.bk) := opens_L op_api_Alias rfl ty_s_api_Alias.u (by kernel_rfl)
end Go.Proofs.Ytlpmbmilnoncdaa

/- Functions of the program as Lean functions: what they compute. Written by program. -/
namespace Go.Proofs.Ytlpmbmilnoncdaa
open Go.RowKit
set_option maxRecDepth 100000
set_option maxHeartbeats 40000000
set_option linter.unusedVariables false
def R_In (a0 : Int) (a1 : Int) (a2 : Int) : Option Bool :=
  ((bif decide (a1 ≤ a0) then some (decide (a0 ≤ a2)) else some false) : Option Bool).bind fun (j1 : Bool) => some j1
def R_At (a0 : Int) (a1 : Int) : Option TFault :=
  some ((TFault.mk a0 a1))
def R_Has_l1 (a0 : List Str) (a1 : Str) (s1 : Int) : Option (Step Int (Unit ⊕ Bool)) :=
  (bif decide (s1 < (a0.length : Int)) then (idx a0 s1).bind fun v7 => (bif (v7 == a1) then some (.out (.inr true)) else some (.cont (w64 (s1 + 1)))) else some (.out (.inl (()))))
noncomputable def R_Has (a0 : List Str) (a1 : Str) : Option Bool :=
  (iter (R_Has_l1 a0 a1) 0).bind fun o => match o with | .inl b2 => some false | .inr b3 => some b3
def R_letterOrDigit (a0 : UInt8) : Option Bool :=
  ((R_In ((a0.toNat : Int)) 97 122).bind fun v2 => (bif v2 then some true else (R_In ((a0.toNat : Int)) 65 90).bind fun v5 => (bif v5 then some true else (R_In ((a0.toNat : Int)) 48 57).bind fun v8 => some v8)) : Option Bool).bind fun (j1 : Bool) => some j1
def R_sign_l1 (a0 : Str) (s1 : Int) : Option (Step Int (Unit ⊕ Int)) :=
  (bif decide (s1 < (a0.length : Int)) then (idx a0 s1).bind fun v7 => (bif ((v7.toNat : Int) == 64) then some (.out (.inr s1)) else some (.cont (w64 (s1 + 1)))) else some (.out (.inl (()))))
noncomputable def R_sign (a0 : Str) : Option Int :=
  (iter (R_sign_l1 a0) 0).bind fun o => match o with | .inl b2 => some ((a0.length : Int)) | .inr b3 => some b3
def R_DomainOk_l1 (a0 : Str) (s1 : Int) : Option (Step Int (Unit ⊕ Bool)) :=
  (bif decide (s1 < (a0.length : Int)) then (idx a0 s1).bind fun v7 => ((idx a0 s1).bind fun v10 => (bif ((v10.toNat : Int) == 46) then (bif (s1 == 0) then some true else (bif (s1 == (w64 ((a0.length : Int) - 1))) then some true else (idx a0 ((w64 (s1 - 1)))).bind fun v15 => some (((v15.toNat : Int) == 46)))) else some false) : Option Bool).bind fun (j9 : Bool) => (bif j9 then some (.out (.inr false)) else ((R_In ((v7.toNat : Int)) 97 122).bind fun v19 => (bif (!v19) then (R_In ((v7.toNat : Int)) 48 57).bind fun v22 => (bif (!v22) then (idx a0 s1).bind fun v25 => (bif ((v25.toNat : Int) != 45) then (idx a0 s1).bind fun v28 => some (((v28.toNat : Int) != 46)) else some false) else some false) else some false) : Option Bool).bind fun (j18 : Bool) => (bif j18 then some (.out (.inr false)) else some (.cont (w64 (s1 + 1))))) else some (.out (.inl (()))))
noncomputable def R_DomainOk (a0 : Str) : Option Bool :=
  (iter (R_DomainOk_l1 a0) 0).bind fun o => match o with | .inl b2 => (R_In ((a0.length : Int)) 1 60).bind fun v31 => some v31 | .inr b3 => some b3
def R_AddressOk_l1 (a0 : Str) (v1 : Int) (s3 : Int) : Option (Step Int (Unit ⊕ Bool)) :=
  (bif decide (s3 < v1) then (idx a0 s3).bind fun v9 => ((R_letterOrDigit v9).bind fun v12 => (bif (!v12) then (bif ((v9.toNat : Int) != 45) then (bif ((v9.toNat : Int) != 95) then (bif ((v9.toNat : Int) != 46) then (bif ((v9.toNat : Int) != 43) then some (((v9.toNat : Int) != 61)) else some false) else some false) else some false) else some false) else some false) : Option Bool).bind fun (j11 : Bool) => (bif j11 then some (.out (.inr false)) else some (.cont (w64 (s3 + 1)))) else some (.out (.inl (()))))
noncomputable def R_AddressOk (a0 : Str) : Option Bool :=
  (R_sign a0).bind fun v1 => (iter (R_AddressOk_l1 a0 v1) 0).bind fun o => match o with | .inl b4 => ((R_In v1 1 60).bind fun v21 => (bif v21 then (bif decide (v1 < (a0.length : Int)) then (cut a0 ((w64 (v1 + 1))) ((a0.length : Int))).bind fun v25 => (R_DomainOk v25).bind fun v27 => some v27 else some false) else some false) : Option Bool).bind fun (j20 : Bool) => some j20 | .inr b5 => some b5
noncomputable def R_AddressesOk_l1 (a0 : List Str) (s1 : Int) : Option (Step Int (Unit ⊕ Bool)) :=
  (bif decide (s1 < (a0.length : Int)) then (idx a0 s1).bind fun v7 => (R_AddressOk v7).bind fun v9 => (bif (!v9) then some (.out (.inr false)) else some (.cont (w64 (s1 + 1)))) else some (.out (.inl (()))))
noncomputable def R_AddressesOk (a0 : List Str) : Option Bool :=
  (iter (R_AddressesOk_l1 a0) 0).bind fun o => match o with | .inl b2 => some true | .inr b3 => some b3
def R_targets_l1 (a0 : List TAlias) (a1 : Str) (s1 : Int) : Option (Step Int (Unit ⊕ ((List Str) × Bool))) :=
  (bif decide (s1 < (a0.length : Int)) then (idx a0 s1).bind fun v7 => (bif (v7.Address == a1) then (idx a0 s1).bind fun v10 => some (.out (.inr ((v10.To, true)))) else some (.cont (w64 (s1 + 1)))) else some (.out (.inl (()))))
noncomputable def R_targets (a0 : List TAlias) (a1 : Str) : Option ((List Str) × Bool) :=
  (iter (R_targets_l1 a0 a1) 0).bind fun o => match o with | .inl b2 => some (([], false)) | .inr b3 => some ((b3.1, b3.2))
def basic_Fault (a0 : Int) (a1 : Int) : Option TFault :=
  some ((TFault.mk a0 a1))
def basic_None  : Option TFault :=
  some ((TFault.mk 0 0))
def basic_Failed (a0 : TFault) : Option Bool :=
  some ((a0.Code != 0))
def basic_Time (a0 : Int) : Option Bool :=
  ((bif decide ((-68719476736) ≤ a0) then some (decide (a0 ≤ 68719476736)) else some false) : Option Bool).bind fun (j1 : Bool) => some j1
def basic_Letter (a0 : UInt8) : Option Bool :=
  ((bif decide (97 ≤ (a0.toNat : Int)) then (bif decide ((a0.toNat : Int) ≤ 122) then some true else (bif decide (65 ≤ (a0.toNat : Int)) then (bif decide ((a0.toNat : Int) ≤ 90) then some true else (bif decide (48 ≤ (a0.toNat : Int)) then some (decide ((a0.toNat : Int) ≤ 57)) else some false)) else (bif decide (48 ≤ (a0.toNat : Int)) then some (decide ((a0.toNat : Int) ≤ 57)) else some false))) else (bif decide (65 ≤ (a0.toNat : Int)) then (bif decide ((a0.toNat : Int) ≤ 90) then some true else (bif decide (48 ≤ (a0.toNat : Int)) then some (decide ((a0.toNat : Int) ≤ 57)) else some false)) else (bif decide (48 ≤ (a0.toNat : Int)) then some (decide ((a0.toNat : Int) ≤ 57)) else some false))) : Option Bool).bind fun (j1 : Bool) => some j1
def R_Strings_l1 (a0 : List Str) (a1 : List Str) (s2 : Int) : Option (Step Int (Unit ⊕ Bool)) :=
  (bif decide (s2 < (a0.length : Int)) then (idx a0 s2).bind fun v8 => (idx a1 s2).bind fun v10 => (bif (v8 != v10) then some (.out (.inr false)) else some (.cont (w64 (s2 + 1)))) else some (.out (.inl (()))))
noncomputable def R_Strings (a0 : List Str) (a1 : List Str) : Option Bool :=
  (bif ((a0.length : Int) != (a1.length : Int)) then some false else (iter (R_Strings_l1 a0 a1) 0).bind fun o => match o with | .inl b3 => some true | .inr b4 => some b4)
def R_Lines_l1 (a0 : List UInt8) (s1 : Int × Int × (List Str)) : Option (Step (Int × Int × (List Str)) (Int × (List Str))) :=
  (bif decide (s1.2.1 < (a0.length : Int)) then (((idx a0 s1.2.1).bind fun v7 => (bif ((v7.toNat : Int) == 10) then (idx a0 ((w64 (s1.2.1 - 1)))).bind fun v10 => (bif ((v10.toNat : Int) == 13) then some (decide (s1.1 < s1.2.1)) else some false) else some false) : Option Bool).bind fun (j6 : Bool) => (bif j6 then (cut a0 s1.1 ((w64 (s1.2.1 - 1)))).bind fun v14 => (app 8796093022208 s1.2.2 (([v14] : List Str))).bind fun v16 => some (((w64 (s1.2.1 + 1)), v16)) else some ((s1.1, s1.2.2))) : Option (Int × (List Str))).bind fun (j5 : Int × (List Str)) => some (.cont (j5.1, (w64 (s1.2.1 + 1)), j5.2)) else some (.out ((s1.1, s1.2.2))))
noncomputable def R_Lines (a0 : List UInt8) : Option ((List Str) × (List UInt8)) :=
  (iter (R_Lines_l1 a0) ((0, 1, ([] : List Str)))).bind fun b2 => (cut a0 b2.1 ((a0.length : Int))).bind fun v18 => some ((b2.2, v18))
def R_undotted (a0 : Str) : Option Str :=
  ((bif decide (0 < (a0.length : Int)) then (idx a0 0).bind fun v3 => some (((v3.toNat : Int) == 46)) else some false) : Option Bool).bind fun (j1 : Bool) => (bif j1 then (cut a0 1 ((a0.length : Int))).bind fun v6 => some v6 else some a0)
def R_Received_l1 (v1 : (List Str) × (List UInt8)) (s3 : Int × Int × (List UInt8)) : Option (Step (Int × Int × (List UInt8)) ((List UInt8) ⊕ ((List UInt8) × Int × Bool))) :=
  (bif decide (s3.2.1 < (v1.1.length : Int)) then (idx v1.1 s3.2.1).bind fun v9 => (idx v1.1 s3.2.1).bind fun v11 => (bif (v11 == ([46] : Str)) then some (.out (.inr ((s3.2.2, (w64 ((w64 (s3.1 + (v9.length : Int))) + 2)), decide (12000 < (s3.2.2.length : Int)))))) else (idx v1.1 s3.2.1).bind fun v14 => (R_undotted v14).bind fun v16 => (app 140737488355328 s3.2.2 v16).bind fun v18 => (app 140737488355328 v18 (([(13 : UInt8), (10 : UInt8)] : List UInt8))).bind fun v20 => some (.cont ((w64 ((w64 (s3.1 + (v9.length : Int))) + 2)), (w64 (s3.2.1 + 1)), v20))) else some (.out (.inl s3.2.2)))
noncomputable def R_Received (a0 : List UInt8) : Option ((List UInt8) × Int × Bool) :=
  (R_Lines a0).bind fun v1 => (iter (R_Received_l1 v1) ((0, 0, ([] : List UInt8)))).bind fun o => match o with | .inl b4 => (R_undotted v1.2).bind fun v22 => (((bif (v1.2 == ([46] : Str)) then some true else some ((v1.2 == ([46, 13] : Str)))) : Option Bool).bind fun (j25 : Bool) => (bif j25 then some (([] : Str)) else some v22) : Option Str).bind fun (j24 : Str) => some (([], 0, decide (12000 < (w64 ((b4.length : Int) + (j24.length : Int)))))) | .inr b5 => some ((b5.1, b5.2.1, b5.2.2))
noncomputable def R_Reached_l1 (a1 : List Str) (s1 : Int × (List Str)) : Option (Step (Int × (List Str)) (List Str)) :=
  (bif decide (s1.1 < (a1.length : Int)) then ((idx a1 s1.1).bind fun v6 => (R_Has s1.2 v6).bind fun v8 => (bif (!v8) then (idx a1 s1.1).bind fun v11 => (app 8796093022208 s1.2 (([v11] : List Str))).bind fun v13 => some v13 else some s1.2) : Option (List Str)).bind fun (j5 : List Str) => some (.cont ((w64 (s1.1 + 1)), j5)) else some (.out s1.2))
noncomputable def R_Reached_l3 (v21 : (List Str) × Bool) (s23 : Int × (List Str)) : Option (Step (Int × (List Str)) (List Str)) :=
  (bif decide (s23.1 < (v21.1.length : Int)) then ((idx v21.1 s23.1).bind fun v28 => (R_Has s23.2 v28).bind fun v30 => (bif (!v30) then (idx v21.1 s23.1).bind fun v33 => (app 8796093022208 s23.2 (([v33] : List Str))).bind fun v35 => some v35 else some s23.2) : Option (List Str)).bind fun (j27 : List Str) => some (.cont ((w64 (s23.1 + 1)), j27)) else some (.out s23.2))
noncomputable def R_Reached_l2 (a0 : List TAlias) (s15 : Int × (List Str)) : Option (Step (Int × (List Str)) (List Str)) :=
  (bif decide (s15.1 < (s15.2.length : Int)) then (idx s15.2 s15.1).bind fun v19 => (R_targets a0 v19).bind fun v21 => (iter (R_Reached_l3 v21) ((0, s15.2))).bind fun b24 => some (.cont ((w64 (s15.1 + 1)), b24)) else some (.out s15.2))
noncomputable def R_Reached (a0 : List TAlias) (a1 : List Str) : Option (List Str) :=
  (iter (R_Reached_l1 a1) ((0, ([] : List Str)))).bind fun b2 => (iter (R_Reached_l2 a0) ((0, b2))).bind fun b16 => some b16
def R_AliasesFault_l2 (a0 : List TAlias) (s4 : Int) (s31 : Int) : Option (Step Int (Unit ⊕ TFault)) :=
  (bif decide (s31 < s4) then (idx a0 s31).bind fun v37 => (idx a0 s4).bind fun v39 => (bif (v37.Address == v39.Address) then (R_At 7 s4).bind fun v42 => some (.out (.inr v42)) else some (.cont (w64 (s31 + 1)))) else some (.out (.inl (()))))
noncomputable def R_AliasesFault_l1 (a0 : List TAlias) (s4 : Int) : Option (Step Int (Unit ⊕ TFault)) :=
  (bif decide (s4 < (a0.length : Int)) then (idx a0 s4).bind fun v10 => (R_AddressOk v10.Address).bind fun v12 => (bif (!v12) then (R_At 10 s4).bind fun v15 => some (.out (.inr v15)) else (idx a0 s4).bind fun v17 => (R_In ((v17.To.length : Int)) 1 60).bind fun v19 => (bif (!v19) then (R_At 2 s4).bind fun v22 => some (.out (.inr v22)) else (idx a0 s4).bind fun v24 => (R_AddressesOk v24.To).bind fun v26 => (bif (!v26) then (R_At 10 s4).bind fun v29 => some (.out (.inr v29)) else (iter (R_AliasesFault_l2 a0 s4) 0).bind fun o => match o with | .inl b32 => some (.cont (w64 (s4 + 1))) | .inr b33 => some (.out (.inr b33))))) else some (.out (.inl (()))))
noncomputable def R_AliasesFault (a0 : List TAlias) : Option TFault :=
  (bif decide (40 < (a0.length : Int)) then (R_At 2 ((-1))).bind fun v2 => some v2 else (iter (R_AliasesFault_l1 a0) 0).bind fun o => match o with | .inl b5 => some ((TFault.mk 0 0)) | .inr b6 => some b6)
noncomputable def R_Expanded_l1 (a0 : List TAlias) (v12 : List Str) (s14 : Int × (List Str)) : Option (Step (Int × (List Str)) (List Str)) :=
  (bif decide (s14.1 < (v12.length : Int)) then ((idx v12 s14.1).bind fun v19 => (R_targets a0 v19).bind fun v21 => (bif (!v21.2) then (idx v12 s14.1).bind fun v24 => (app 8796093022208 s14.2 (([v24] : List Str))).bind fun v26 => some v26 else some s14.2) : Option (List Str)).bind fun (j18 : List Str) => some (.cont ((w64 (s14.1 + 1)), j18)) else some (.out s14.2))
noncomputable def R_Expanded (a0 : List TAlias) (a1 : Str) : Option ((List Str) × TFault) :=
  (R_AliasesFault a0).bind fun v1 => (((bif (v1.Code == 0) then (R_AddressOk a1).bind fun v6 => some ((!v6)) else some false) : Option Bool).bind fun (j4 : Bool) => (bif j4 then (R_At 10 ((-2))).bind fun v9 => some ((v9.Code, v9.Index)) else some ((v1.Code, v1.Index))) : Option (Int × Int)).bind fun (j3 : Int × Int) => (bif (j3.1 != 0) then some (([], (TFault.mk j3.1 j3.2))) else (R_Reached a0 (([a1] : List Str))).bind fun v12 => (iter (R_Expanded_l1 a0 v12) ((0, ([] : List Str)))).bind fun b15 => some ((b15, (TFault.mk j3.1 j3.2))))
def retry_times_l1 (a0 : List Int) (s1 : Int) : Option (Step Int (Unit ⊕ Bool)) :=
  (bif decide (s1 < (a0.length : Int)) then (idx a0 s1).bind fun v7 => (basic_Time v7).bind fun v9 => (bif (!v9) then some (.out (.inr false)) else some (.cont (w64 (s1 + 1)))) else some (.out (.inl (()))))
noncomputable def retry_times (a0 : List Int) : Option Bool :=
  (iter (retry_times_l1 a0) 0).bind fun o => match o with | .inl b2 => some true | .inr b3 => some b3
noncomputable def retry_Late (a0 : Int) (a1 : Int) (a2 : Int) : Option (Bool × TFault) :=
  (retry_times (([a0, a1, a2] : List Int))).bind fun v1 => (bif (!v1) then (basic_Fault 3 ((-2))).bind fun v4 => some ((false, v4)) else ((bif decide (a1 < a0) then some true else some (decide (a2 < a1))) : Option Bool).bind fun (j6 : Bool) => (bif j6 then (basic_Fault 19 ((-4))).bind fun v9 => some ((false, v9)) else ((bif decide (a1 < (w64 (a0 + 14400))) then (basic_None).bind fun v13 => some ((decide ((w64 (a0 + 14400)) ≤ a2), v13.Code, v13.Index)) else (basic_None).bind fun v15 => some ((false, v15.Code, v15.Index))) : Option (Bool × Int × Int)).bind fun (j11 : Bool × Int × Int) => some ((j11.1, (TFault.mk j11.2.1 j11.2.2)))))
def bytes_Equal (a0 : List UInt8) (a1 : List UInt8) : Option Bool :=
  some ((a0 == a1))
def bytes_HasPrefix (a0 : List UInt8) (a1 : List UInt8) : Option Bool :=
  ((bif decide ((a1.length : Int) ≤ (a0.length : Int)) then (cut a0 0 ((a1.length : Int))).bind fun v3 => (bytes_Equal v3 a1).bind fun v5 => some v5 else some false) : Option Bool).bind fun (j1 : Bool) => some j1
def bytes_HasSuffix (a0 : List UInt8) (a1 : List UInt8) : Option Bool :=
  ((bif decide ((a1.length : Int) ≤ (a0.length : Int)) then (cut a0 ((w64 ((a0.length : Int) - (a1.length : Int)))) ((a0.length : Int))).bind fun v3 => (bytes_Equal v3 a1).bind fun v5 => some v5 else some false) : Option Bool).bind fun (j1 : Bool) => some j1
def bytes_TrimPrefix (a0 : List UInt8) (a1 : List UInt8) : Option (List UInt8) :=
  (bytes_HasPrefix a0 a1).bind fun v1 => (bif v1 then (cut a0 ((a1.length : Int)) ((a0.length : Int))).bind fun v4 => some v4 else some a0)
end Go.Proofs.Ytlpmbmilnoncdaa

/- Library functions as Lean functions. -/
namespace Go.Proofs.Ytlpmbmilnoncdaa
open Go.RowKit
def bytes_Index (a b : List UInt8) : Option Int := if a.length < 4294967281 ∧ b.length = 2 then some (Lib.index a b) else none
def strings_IndexByte (s : Str) (c : UInt8) : Option Int := some (Lib.indexByte s c)
def strings_Contains (s t : Str) : Option Bool := if s.length < 4294967281 then some (Lib.contains s t) else none
def strings_Cut (s t : Str) : Option (Str × Str × Bool) := if s.length < 4294967281 then some (Lib.cut s t) else none
end Go.Proofs.Ytlpmbmilnoncdaa

/- Functions of the program as Lean functions: what they compute. Written by program. -/
namespace Go.Proofs.Ytlpmbmilnoncdaa
open Go.RowKit
set_option maxRecDepth 100000
set_option maxHeartbeats 40000000
set_option linter.unusedVariables false
def lines_Split_l1 (a0 : List UInt8) (s4 : Int × Int × (List Str)) : Option (Step (Int × Int × (List Str)) ((Int × (List Str)) ⊕ (Int × (List Str) × Int × Int))) :=
  (cut a0 s4.1 ((a0.length : Int))).bind fun v9 => (bytes_Index v9 (([(13 : UInt8), (10 : UInt8)] : List UInt8))).bind fun v11 => (bif decide (v11 < 0) then some (.out (.inl ((s4.2.1, s4.2.2)))) else (cut a0 s4.1 ((w64 (s4.1 + v11)))).bind fun v14 => (bif decide (4000 < (v14.length : Int)) then (basic_Fault 1 ((s4.2.2.length : Int))).bind fun v17 => some (.out (.inr ((s4.2.1, s4.2.2, v17.Code, v17.Index)))) else (app 8796093022208 s4.2.2 (([v14] : List Str))).bind fun v19 => some (.cont ((w64 (s4.1 + (w64 (v11 + 2)))), (w64 ((w64 (s4.1 + v11)) + 2)), v19))))
noncomputable def lines_Split (a0 : List UInt8) : Option ((List Str) × (List UInt8) × TFault) :=
  (bif decide (40000 < (a0.length : Int)) then (basic_Fault 1 ((-1))).bind fun v2 => some (([], [], v2)) else (iter (lines_Split_l1 a0) ((0, 0, ([] : List Str)))).bind fun o => match o with | .inl b5 => (cut a0 b5.1 ((a0.length : Int))).bind fun v21 => (app 140737488355328 ([] : List UInt8) v21).bind fun v23 => (basic_None).bind fun v25 => some ((b5.2, v23, v25)) | .inr b6 => some (([], [], (TFault.mk b6.2.2.1 b6.2.2.2))))
def lines_Stuff_l1 (a0 : List UInt8) (s11 : Int × (List UInt8)) : Option (Step (Int × (List UInt8)) (List UInt8)) :=
  (cut a0 s11.1 ((a0.length : Int))).bind fun v14 => (bytes_Index v14 (([(13 : UInt8), (10 : UInt8)] : List UInt8))).bind fun v16 => ((bif decide (v16 < 0) then some ((true, s11.2)) else (cut a0 s11.1 ((w64 (s11.1 + v16)))).bind fun v20 => ((bytes_HasPrefix v20 (([(46 : UInt8)] : List UInt8))).bind fun v23 => (bif v23 then (app 140737488355328 s11.2 (([(46 : UInt8)] : List UInt8))).bind fun v26 => some v26 else some s11.2) : Option (List UInt8)).bind fun (j22 : List UInt8) => (app 140737488355328 j22 v20).bind fun v28 => (app 140737488355328 v28 (([13, 10] : Str))).bind fun v30 => some ((false, v30))) : Option (Bool × (List UInt8))).bind fun (j18 : Bool × (List UInt8)) => (bif j18.1 then some (.out j18.2) else some (.cont ((w64 (s11.1 + (w64 (v16 + 2)))), j18.2)))
noncomputable def lines_Stuff (a0 : List UInt8) : Option ((List UInt8) × TFault) :=
  (bif decide (12000 < (a0.length : Int)) then (basic_Fault 1 ((-1))).bind fun v2 => some ((([] : List UInt8), v2)) else ((bif decide (0 < (a0.length : Int)) then (bytes_HasSuffix a0 (([(13 : UInt8), (10 : UInt8)] : List UInt8))).bind fun v6 => some ((!v6)) else some false) : Option Bool).bind fun (j4 : Bool) => (bif j4 then (basic_Fault 5 ((-2))).bind fun v9 => some ((([] : List UInt8), v9)) else (iter (lines_Stuff_l1 a0) ((0, ([] : List UInt8)))).bind fun b12 => (app 140737488355328 b12 (([46, 13, 10] : Str))).bind fun v33 => (basic_None).bind fun v35 => some ((v33, v35))))
end Go.Proofs.Ytlpmbmilnoncdaa

/- Functions of the program as Lean functions: what they compute. Written by program. -/
namespace Go.Proofs.Ytlpmbmilnoncdaa
open Go.RowKit
set_option maxRecDepth 100000
set_option maxHeartbeats 40000000
set_option linter.unusedVariables false
def lines_Unstuff_l1 (a0 : List UInt8) (s4 : Int × Int × (List UInt8)) : Option (Step (Int × Int × (List UInt8)) ((Int × (List UInt8)) ⊕ (Int × (List UInt8) × Int × Int × Bool × Int × (List UInt8)))) :=
  (cut a0 s4.1 ((a0.length : Int))).bind fun v9 => (bytes_Index v9 (([(13 : UInt8), (10 : UInt8)] : List UInt8))).bind fun v11 => (bif decide (v11 < 0) then some (.out (.inl ((s4.2.1, s4.2.2)))) else (cut a0 s4.1 ((w64 (s4.1 + v11)))).bind fun v14 => (bif (v14 == ([46] : Str)) then (bif decide (12000 < (s4.2.2.length : Int)) then (basic_Fault 1 ((-2))).bind fun v18 => some (.out (.inr (((w64 ((w64 (s4.1 + v11)) + 2)), s4.2.2, v18.Code, v18.Index, false, 0, [])))) else (basic_None).bind fun v20 => some (.out (.inr (((w64 ((w64 (s4.1 + v11)) + 2)), s4.2.2, v20.Code, v20.Index, true, (w64 ((w64 (s4.1 + v11)) + 2)), s4.2.2))))) else (bytes_TrimPrefix v14 (([(46 : UInt8)] : List UInt8))).bind fun v22 => (app 140737488355328 s4.2.2 v22).bind fun v24 => (app 140737488355328 v24 (([13, 10] : Str))).bind fun v26 => some (.cont ((w64 (s4.1 + (w64 (v11 + 2)))), (w64 ((w64 (s4.1 + v11)) + 2)), v26))))
noncomputable def lines_Unstuff (a0 : List UInt8) : Option ((List UInt8) × Int × Bool × TFault) :=
  (bif decide (40000 < (a0.length : Int)) then (basic_Fault 1 ((-1))).bind fun v2 => some (([], 0, false, v2)) else (iter (lines_Unstuff_l1 a0) ((0, 0, ([] : List UInt8)))).bind fun o => match o with | .inl b5 => ((cut a0 b5.1 ((a0.length : Int))).bind fun v29 => ((bif (v29 != ([46] : Str)) then some ((v29 != ([46, 13] : Str))) else some false) : Option Bool).bind fun (j31 : Bool) => (bif j31 then (cut a0 b5.1 ((a0.length : Int))).bind fun v34 => (bytes_TrimPrefix v34 (([(46 : UInt8)] : List UInt8))).bind fun v36 => some ((w64 ((b5.2.length : Int) + (v36.length : Int)))) else some ((b5.2.length : Int))) : Option Int).bind fun (j28 : Int) => (bif decide (12000 < j28) then (basic_Fault 1 ((-2))).bind fun v39 => some (([], 0, false, v39)) else (basic_None).bind fun v41 => some (([], 0, false, v41))) | .inr b6 => some ((b6.2.2.2.2.2.2, b6.2.2.2.2.2.1, b6.2.2.2.2.1, (TFault.mk b6.2.2.1 b6.2.2.2.1))))
end Go.Proofs.Ytlpmbmilnoncdaa

/- Functions of the program as Lean functions: what they compute. Written by program. -/
namespace Go.Proofs.Ytlpmbmilnoncdaa
open Go.RowKit
set_option maxRecDepth 100000
set_option maxHeartbeats 40000000
set_option linter.unusedVariables false
noncomputable def L_splits  : Option Bool :=
  (lines_Split (([(97 : UInt8), (13 : UInt8), (10 : UInt8), (98 : UInt8)] : List UInt8))).bind fun v1 => (lines_Stuff ([])).bind fun v3 => (lines_Unstuff (([(46 : UInt8), (46 : UInt8), (13 : UInt8), (10 : UInt8), (46 : UInt8), (13 : UInt8), (10 : UInt8), (120 : UInt8)] : List UInt8))).bind fun v5 => (lines_Stuff (([(97 : UInt8)] : List UInt8))).bind fun v7 => ((bif (v1.2.2.Code == 0) then (bif (v3.2.Code == 0) then (bif (v5.2.2.2.Code == 0) then (R_At 5 ((-2))).bind fun v13 => (bif (allEq [(v7.2.Code == v13.Code), (v7.2.Index == v13.Index)]) then (R_Strings v1.1 (([([97] : Str)] : List Str))).bind fun v16 => (bif v16 then (bif (v1.2.1 == ([98] : Str)) then (bif (v3.1 == ([46, 13, 10] : Str)) then (bif (v5.1 == ([46, 13, 10] : Str)) then (bif (v5.2.1 == 7) then some v5.2.2.1 else some false) else some false) else some false) else some false) else some false) else some false) else some false) else some false) else some false) : Option Bool).bind fun (j9 : Bool) => some j9
def L_LinesMatchSpec_l1 (v1 : (List Str) × (List UInt8) × TFault) (v12 : (List Str) × (List UInt8)) (s14 : Int) : Option (Step Int (Unit ⊕ Bool)) :=
  (bif decide (s14 < (v12.1.length : Int)) then (idx v12.1 s14).bind fun v20 => (bif decide (4000 < (v20.length : Int)) then ((R_At 1 s14).bind fun v24 => (bif (allEq [(v1.2.2.Code == v24.Code), (v1.2.2.Index == v24.Index)]) then (bif ((v1.1.length : Int) == 0) then some (((v1.2.1.length : Int) == 0)) else some false) else some false) : Option Bool).bind fun (j23 : Bool) => some (.out (.inr j23)) else some (.cont (w64 (s14 + 1)))) else some (.out (.inl (()))))
noncomputable def L_LinesMatchSpec (a0 : List UInt8) : Option Bool :=
  (lines_Split a0).bind fun v1 => (L_splits).bind fun v3 => (bif (!v3) then some false else (bif decide (40000 < (a0.length : Int)) then ((R_At 1 ((-1))).bind fun v8 => (bif (allEq [(v1.2.2.Code == v8.Code), (v1.2.2.Index == v8.Index)]) then (bif ((v1.1.length : Int) == 0) then some (((v1.2.1.length : Int) == 0)) else some false) else some false) : Option Bool).bind fun (j7 : Bool) => some j7 else (R_Lines a0).bind fun v12 => (iter (L_LinesMatchSpec_l1 v1 v12) 0).bind fun o => match o with | .inl b15 => ((bif (v1.2.2.Code == 0) then (R_Strings v1.1 v12.1).bind fun v30 => (bif v30 then some ((v1.2.1 == v12.2)) else some false) else some false) : Option Bool).bind fun (j28 : Bool) => some j28 | .inr b16 => some b16))
def L_LinesJoin_l1 (v1 : (List Str) × (List UInt8) × TFault) (s17 : Int × (List UInt8)) : Option (Step (Int × (List UInt8)) (List UInt8)) :=
  (bif decide (s17.1 < (v1.1.length : Int)) then (idx v1.1 s17.1).bind fun v21 => (app 140737488355328 s17.2 v21).bind fun v23 => (app 140737488355328 v23 (([(13 : UInt8), (10 : UInt8)] : List UInt8))).bind fun v25 => some (.cont ((w64 (s17.1 + 1)), v25)) else some (.out s17.2))
noncomputable def L_LinesJoin (a0 : List UInt8) (a1 : List UInt8) : Option Bool :=
  (lines_Split a0).bind fun v1 => (lines_Split a1).bind fun v3 => ((L_splits).bind fun v6 => (bif (!v6) then some true else (bif (v1.2.2.Code != 0) then some true else (bif (v3.2.2.Code != 0) then some true else some (decide (40000 < (w64 ((a0.length : Int) + (a1.length : Int)))))))) : Option Bool).bind fun (j5 : Bool) => (bif j5 then ((L_splits).bind fun v13 => (bif v13 then (bif (v1.2.2.Code == 0) then some true else some (((v1.1.length : Int) == 0))) else some false) : Option Bool).bind fun (j12 : Bool) => some j12 else (iter (L_LinesJoin_l1 v1) ((0, ([] : List UInt8)))).bind fun b18 => (cat b18 v1.2.1).bind fun v27 => (bif (v27 != a0) then some false else (bif decide (0 < (v1.2.1.length : Int)) then some true else (app 140737488355328 b18 a1).bind fun v31 => (lines_Split v31).bind fun v33 => (app 8796093022208 (([] : List Str)) v1.1).bind fun v35 => (app 8796093022208 v35 v3.1).bind fun v37 => ((bif (v33.2.2.Code == 0) then (R_Strings v33.1 v37).bind fun v41 => (bif v41 then some ((v33.2.1 == v3.2.1)) else some false) else some false) : Option Bool).bind fun (j39 : Bool) => some j39)))
def R_Sent_l1 (a0 : List UInt8) (s1 : Int × Int × (List Str)) : Option (Step (Int × Int × (List Str)) (Int × (List Str))) :=
  (bif decide (s1.2.1 < (a0.length : Int)) then (((idx a0 s1.2.1).bind fun v7 => (bif ((v7.toNat : Int) == 10) then (idx a0 ((w64 (s1.2.1 - 1)))).bind fun v10 => (bif ((v10.toNat : Int) == 13) then some (decide (s1.1 < s1.2.1)) else some false) else some false) : Option Bool).bind fun (j6 : Bool) => (bif j6 then (cut a0 s1.1 ((w64 (s1.2.1 - 1)))).bind fun v14 => (app 8796093022208 s1.2.2 (([v14] : List Str))).bind fun v16 => some (((w64 (s1.2.1 + 1)), v16)) else some ((s1.1, s1.2.2))) : Option (Int × (List Str))).bind fun (j5 : Int × (List Str)) => some (.cont (j5.1, (w64 (s1.2.1 + 1)), j5.2)) else some (.out ((s1.1, s1.2.2))))
def R_Sent_l2 (v20 : List Str) (s22 : Int × (List UInt8)) : Option (Step (Int × (List UInt8)) (List UInt8)) :=
  (bif decide (s22.1 < (v20.length : Int)) then ((((idx v20 s22.1).bind fun v29 => (bif decide (0 < (v29.length : Int)) then (idx v20 s22.1).bind fun v32 => (idx v32 0).bind fun v34 => some (((v34.toNat : Int) == 46)) else some false) : Option Bool).bind fun (j28 : Bool) => (bif j28 then (app 140737488355328 s22.2 (([(46 : UInt8)] : List UInt8))).bind fun v37 => some v37 else some s22.2) : Option (List UInt8)).bind fun (j27 : List UInt8) => (idx v20 s22.1).bind fun v39 => (app 140737488355328 j27 v39).bind fun v41 => (bif decide ((w64 (s22.1 + 1)) < (v20.length : Int)) then (app 140737488355328 v41 (([(13 : UInt8), (10 : UInt8)] : List UInt8))).bind fun v44 => some v44 else some v41) : Option (List UInt8)).bind fun (j26 : List UInt8) => some (.cont ((w64 (s22.1 + 1)), j26)) else some (.out s22.2))
noncomputable def R_Sent (a0 : List UInt8) : Option (List UInt8) :=
  (iter (R_Sent_l1 a0) ((0, 1, ([] : List Str)))).bind fun b2 => (cut a0 b2.1 ((a0.length : Int))).bind fun v18 => (app 8796093022208 b2.2 (([v18] : List Str))).bind fun v20 => (iter (R_Sent_l2 v20) ((0, ([] : List UInt8)))).bind fun b23 => (app 140737488355328 b23 (([(46 : UInt8), (13 : UInt8), (10 : UInt8)] : List UInt8))).bind fun v46 => some v46
noncomputable def L_LinesDataMatchSpec (a0 : List UInt8) : Option Bool :=
  (lines_Stuff a0).bind fun v1 => (lines_Unstuff a0).bind fun v3 => (L_splits).bind fun v5 => (bif (!v5) then some false else (R_Lines a0).bind fun v8 => ((bif decide (12000 < (a0.length : Int)) then (R_At 1 ((-1))).bind fun v12 => some ((v12.Code, v12.Index)) else (bif decide (0 < (v8.2.length : Int)) then (R_At 5 ((-2))).bind fun v15 => some ((v15.Code, v15.Index)) else some ((0, 0)))) : Option (Int × Int)).bind fun (j10 : Int × Int) => ((bif (!(allEq [(v1.2.Code == j10.1), (v1.2.Index == j10.2)])) then some true else (bif (j10.1 != 0) then (bif decide (0 < (v1.1.length : Int)) then some true else (bif (j10.1 == 0) then (R_Sent a0).bind fun v22 => some ((v1.1 != v22)) else some false)) else (bif (j10.1 == 0) then (R_Sent a0).bind fun v25 => some ((v1.1 != v25)) else some false))) : Option Bool).bind fun (j17 : Bool) => (bif j17 then some false else (bif decide (40000 < (a0.length : Int)) then ((R_At 1 ((-1))).bind fun v30 => (bif (allEq [(v3.2.2.2.Code == v30.Code), (v3.2.2.2.Index == v30.Index)]) then (bif ((v3.1.length : Int) == 0) then (bif (v3.2.1 == 0) then some ((!v3.2.2.1)) else some false) else some false) else some false) : Option Bool).bind fun (j29 : Bool) => some j29 else (R_Received a0).bind fun v35 => (bif v35.2.2 then ((R_At 1 ((-2))).bind fun v39 => (bif (allEq [(v3.2.2.2.Code == v39.Code), (v3.2.2.2.Index == v39.Index)]) then (bif ((v3.1.length : Int) == 0) then (bif (v3.2.1 == 0) then some ((!v3.2.2.1)) else some false) else some false) else some false) : Option Bool).bind fun (j38 : Bool) => some j38 else ((bif (v3.2.2.2.Code == 0) then (bif (v3.2.2.1 == decide (0 < v35.2.1)) then (bif (v3.2.1 == v35.2.1) then some ((v3.1 == v35.1)) else some false) else some false) else some false) : Option Bool).bind fun (j44 : Bool) => some j44))))
noncomputable def L_LinesArriveAsSent (a0 : List UInt8) (a1 : List UInt8) (a2 : Int) : Option Bool :=
  (lines_Stuff a0).bind fun v1 => ((L_splits).bind fun v4 => (bif (!v4) then some true else (bif (v1.2.Code != 0) then some true else some (decide (10000 < (a1.length : Int))))) : Option Bool).bind fun (j3 : Bool) => (bif j3 then ((L_splits).bind fun v10 => (bif v10 then (bif (v1.2.Code == 0) then some true else some (((v1.1.length : Int) == 0))) else some false) : Option Bool).bind fun (j9 : Bool) => some j9 else (app 140737488355328 (([] : List UInt8)) v1.1).bind fun v14 => (app 140737488355328 v14 a1).bind fun v16 => (lines_Unstuff v16).bind fun v18 => ((bif (v18.2.2.2.Code != 0) then some true else (bif (!v18.2.2.1) then some true else (bif (v18.2.1 != (v1.1.length : Int)) then some true else some ((v18.1 != a0))))) : Option Bool).bind fun (j20 : Bool) => (bif j20 then some false else (R_In a2 0 ((w64 ((v1.1.length : Int) - 1)))).bind fun v25 => (bif (!v25) then some true else (cut v1.1 0 a2).bind fun v28 => (lines_Unstuff v28).bind fun v30 => ((bif (v30.2.2.2.Code == 0) then some ((!v30.2.2.1)) else some false) : Option Bool).bind fun (j32 : Bool) => some j32)))
end Go.Proofs.Ytlpmbmilnoncdaa

/- Functions of the program as Lean functions: what they compute. Written by program. -/
namespace Go.Proofs.Ytlpmbmilnoncdaa
open Go.RowKit
set_option maxRecDepth 100000
set_option maxHeartbeats 40000000
set_option linter.unusedVariables false
def internal_stringslite_HasPrefix (a0 : Str) (a1 : Str) : Option Bool :=
  ((bif decide ((a1.length : Int) ≤ (a0.length : Int)) then (cut a0 0 ((a1.length : Int))).bind fun v3 => some ((v3 == a1)) else some false) : Option Bool).bind fun (j1 : Bool) => some j1
def strings_HasPrefix (a0 : Str) (a1 : Str) : Option Bool :=
  (internal_stringslite_HasPrefix a0 a1).bind fun v1 => some v1
def internal_stringslite_HasSuffix (a0 : Str) (a1 : Str) : Option Bool :=
  ((bif decide ((a1.length : Int) ≤ (a0.length : Int)) then (cut a0 ((w64 ((a0.length : Int) - (a1.length : Int)))) ((a0.length : Int))).bind fun v3 => some ((v3 == a1)) else some false) : Option Bool).bind fun (j1 : Bool) => some j1
def strings_HasSuffix (a0 : Str) (a1 : Str) : Option Bool :=
  (internal_stringslite_HasSuffix a0 a1).bind fun v1 => some v1
def envelope_Domain_l1 (a0 : Str) (s5 : Int) : Option (Step Int (Unit ⊕ Unit)) :=
  (bif decide (s5 < (a0.length : Int)) then (idx a0 s5).bind fun v11 => ((bif decide (97 ≤ (v11.toNat : Int)) then (bif decide ((v11.toNat : Int) ≤ 122) then some true else (bif decide (48 ≤ (v11.toNat : Int)) then (bif decide ((v11.toNat : Int) ≤ 57) then some true else (bif ((v11.toNat : Int) == 45) then some true else some (((v11.toNat : Int) == 46)))) else (bif ((v11.toNat : Int) == 45) then some true else some (((v11.toNat : Int) == 46))))) else (bif decide (48 ≤ (v11.toNat : Int)) then (bif decide ((v11.toNat : Int) ≤ 57) then some true else (bif ((v11.toNat : Int) == 45) then some true else some (((v11.toNat : Int) == 46)))) else (bif ((v11.toNat : Int) == 45) then some true else some (((v11.toNat : Int) == 46))))) : Option Bool).bind fun (j13 : Bool) => (bif (!j13) then some (.out (.inr (()))) else some (.cont (w64 (s5 + 1)))) else some (.out (.inl (()))))
noncomputable def envelope_Domain (a0 : Str) : Option Bool :=
  ((bif (a0 != ([] : Str)) then (bif decide ((a0.length : Int) ≤ 60) then ((iter (envelope_Domain_l1 a0) 0).bind (Sum.elim (fun b6 => some true) (fun b7 => some false)) : Option Bool).bind fun (j4 : Bool) => (bif decide ((a0.length : Int) ≤ 60) then (bif j4 then (strings_HasPrefix a0 (([46] : Str))).bind fun v27 => (bif (!v27) then (strings_HasSuffix a0 (([46] : Str))).bind fun v30 => (bif (!v30) then (strings_Contains a0 (([46, 46] : Str))).bind fun v33 => some ((!v33)) else some false) else some false) else some false) else some false) else some false) else some false) : Option Bool).bind fun (j1 : Bool) => some j1
def envelope_Split_l1 (v1 : Str × Str × Bool) (s8 : Int) : Option (Step Int (Unit ⊕ Unit)) :=
  (bif decide (s8 < (v1.1.length : Int)) then (idx v1.1 s8).bind fun v14 => ((basic_Letter v14).bind fun v17 => (bif v17 then some true else (strings_IndexByte (([45, 95, 46, 43, 61] : Str)) v14).bind fun v20 => some (decide (0 ≤ v20))) : Option Bool).bind fun (j16 : Bool) => (bif (!j16) then some (.out (.inr (()))) else some (.cont (w64 (s8 + 1)))) else some (.out (.inl (()))))
noncomputable def envelope_Split (a0 : Str) : Option (Str × Str × Bool) :=
  (strings_Cut a0 (([64] : Str))).bind fun v1 => ((bif v1.2.2 then (bif (v1.1 != ([] : Str)) then (bif decide ((v1.1.length : Int) ≤ 60) then ((iter (envelope_Split_l1 v1) 0).bind (Sum.elim (fun b9 => some true) (fun b10 => some false)) : Option Bool).bind fun (j7 : Bool) => (bif decide ((v1.1.length : Int) ≤ 60) then (bif j7 then (envelope_Domain v1.2.1).bind fun v25 => some v25 else some false) else some false) else some false) else some false) else some false) : Option Bool).bind fun (j3 : Bool) => some ((v1.1, v1.2.1, j3))
noncomputable def envelope_Address (a0 : Str) : Option Bool :=
  (envelope_Split a0).bind fun v1 => some v1.2.2
noncomputable def alias_Validate_l2 (v10 : TAlias) (s23 : Int) : Option (Step Int (Unit ⊕ Int)) :=
  (bif decide (s23 < (v10.To.length : Int)) then (idx v10.To s23).bind fun v29 => (envelope_Address v29).bind fun v31 => (bif (!v31) then some (.out (.inr s23)) else some (.cont (w64 (s23 + 1)))) else some (.out (.inl (()))))
def alias_Validate_l3 (v10 : TAlias) (v37 : List TAlias) (s40 : Int) : Option (Step Int (Unit ⊕ Int)) :=
  (bif decide (s40 < (v37.length : Int)) then (idx v37 s40).bind fun v46 => (bif (v46.Address == v10.Address) then some (.out (.inr s40)) else some (.cont (w64 (s40 + 1)))) else some (.out (.inl (()))))
noncomputable def alias_Validate_l1 (a0 : List TAlias) (s4 : Int) : Option (Step Int (Unit ⊕ TFault)) :=
  (bif decide (s4 < (a0.length : Int)) then (idx a0 s4).bind fun v10 => (envelope_Address v10.Address).bind fun v12 => (bif (!v12) then (basic_Fault 10 s4).bind fun v15 => some (.out (.inr v15)) else ((bif decide ((v10.To.length : Int) < 1) then some true else some (decide (60 < (v10.To.length : Int)))) : Option Bool).bind fun (j17 : Bool) => (bif j17 then (basic_Fault 2 s4).bind fun v20 => some (.out (.inr v20)) else ((iter (alias_Validate_l2 v10) 0).bind (Sum.elim (fun b24 => some ((-1))) (fun b25 => some b25)) : Option Int).bind fun (j22 : Int) => (bif decide (0 ≤ j22) then (basic_Fault 10 s4).bind fun v35 => some (.out (.inr v35)) else (cut a0 0 s4).bind fun v37 => ((iter (alias_Validate_l3 v10 v37) 0).bind (Sum.elim (fun b41 => some ((-1))) (fun b42 => some b42)) : Option Int).bind fun (j39 : Int) => (bif decide (0 ≤ j39) then (basic_Fault 7 s4).bind fun v50 => some (.out (.inr v50)) else some (.cont (w64 (s4 + 1))))))) else some (.out (.inl (()))))
noncomputable def alias_Validate (a0 : List TAlias) : Option TFault :=
  (bif decide (40 < (a0.length : Int)) then (basic_Fault 2 ((-1))).bind fun v2 => some v2 else (iter (alias_Validate_l1 a0) 0).bind (Sum.elim (fun b5 => (basic_None).bind fun v52 => some v52) (fun b6 => some b6)))
end Go.Proofs.Ytlpmbmilnoncdaa

/- Functions of the program as Lean functions: what they compute. Written by program. -/
namespace Go.Proofs.Ytlpmbmilnoncdaa
open Go.RowKit
set_option maxRecDepth 100000
set_option maxHeartbeats 40000000
set_option linter.unusedVariables false
def alias_Expand_l1 (a0 : List TAlias) (s11 : Int × (List (Str × (List Str)))) : Option (Step (Int × (List (Str × (List Str)))) (List (Str × (List Str)))) :=
  (bif decide (s11.1 < (a0.length : Int)) then (idx a0 s11.1).bind fun v15 => some (.cont ((w64 (s11.1 + 1)), (mput s11.2 v15.Address v15.To))) else some (.out s11.2))
def alias_Expand_l2 (a0 : List TAlias) (s17 : Int × (List (Str × (List Str)))) : Option (Step (Int × (List (Str × (List Str)))) (List (Str × (List Str)))) :=
  (bif decide (s17.1 < (a0.length : Int)) then (idx a0 s17.1).bind fun v21 => some (.cont ((w64 (s17.1 + 1)), (mput s17.2 v21.Address v21.To))) else some (.out s17.2))
def alias_Expand_l3 (a1 : Str) (s23 : Int × (List Str) × (List (Str × Bool))) : Option (Step (Int × (List Str) × (List (Str × Bool))) ((List Str) × (List (Str × Bool)))) :=
  (bif decide (s23.1 < ((([a1] : List Str)).length : Int)) then ((idx (([a1] : List Str)) s23.1).bind fun v28 => (bif (!(((mget s23.2.2 v28).getD false))) then (app 8796093022208 s23.2.1 (([v28] : List Str))).bind fun v31 => some ((v31, (mput s23.2.2 v28 true))) else some ((s23.2.1, s23.2.2))) : Option ((List Str) × (List (Str × Bool)))).bind fun (j27 : (List Str) × (List (Str × Bool))) => some (.cont ((w64 (s23.1 + 1)), j27.1, j27.2)) else some (.out ((s23.2.1, s23.2.2))))
def alias_Expand_l5 (b18 : List (Str × (List Str))) (v37 : Str) (s45 : Int × (List Str) × (List (Str × Bool))) : Option (Step (Int × (List Str) × (List (Str × Bool))) ((List Str) × (List (Str × Bool)))) :=
  (bif decide (s45.1 < ((((mget b18 v37).getD (([] : List Str)))).length : Int)) then ((idx (((mget b18 v37).getD (([] : List Str)))) s45.1).bind fun v50 => (bif (!(((mget s45.2.2 v50).getD false))) then (app 8796093022208 s45.2.1 (([v50] : List Str))).bind fun v53 => some ((v53, (mput s45.2.2 v50 true))) else some ((s45.2.1, s45.2.2))) : Option ((List Str) × (List (Str × Bool)))).bind fun (j49 : (List Str) × (List (Str × Bool))) => some (.cont ((w64 (s45.1 + 1)), j49.1, j49.2)) else some (.out ((s45.2.1, s45.2.2))))
def alias_Expand_l6 (b18 : List (Str × (List Str))) (v37 : Str) (s57 : Int × (List Str) × (List (Str × Bool))) : Option (Step (Int × (List Str) × (List (Str × Bool))) ((List Str) × (List (Str × Bool)))) :=
  (bif decide (s57.1 < ((((mget b18 v37).getD (([] : List Str)))).length : Int)) then ((idx (((mget b18 v37).getD (([] : List Str)))) s57.1).bind fun v62 => (bif (!(((mget s57.2.2 v62).getD false))) then (app 8796093022208 s57.2.1 (([v62] : List Str))).bind fun v65 => some ((v65, (mput s57.2.2 v62 true))) else some ((s57.2.1, s57.2.2))) : Option ((List Str) × (List (Str × Bool)))).bind fun (j61 : (List Str) × (List (Str × Bool))) => some (.cont ((w64 (s57.1 + 1)), j61.1, j61.2)) else some (.out ((s57.2.1, s57.2.2))))
noncomputable def alias_Expand_l4 (b12 : List (Str × (List Str))) (b18 : List (Str × (List Str))) (s33 : (List Str) × (List (Str × Bool)) × (List Str)) : Option (Step ((List Str) × (List (Str × Bool)) × (List Str)) (List Str)) :=
  (bif decide (0 < (s33.1.length : Int)) then (idx s33.1 0).bind fun v37 => (cut s33.1 1 ((s33.1.length : Int))).bind fun v39 => (optElim (mget b12 v37) (fun v41 => (notNil v41).bind fun v43 => (iter (alias_Expand_l5 b18 v37) ((0, v39, s33.2.1))).bind fun b46 => some (.cont (b46.1, b46.2, s33.2.2))) ((app 8796093022208 s33.2.2 (([v37] : List Str))).bind fun v55 => (iter (alias_Expand_l6 b18 v37) ((0, v39, s33.2.1))).bind fun b58 => some (.cont (b58.1, b58.2, v55)))) else some (.out s33.2.2))
noncomputable def alias_Expand (a0 : List TAlias) (a1 : Str) : Option ((List Str) × TFault) :=
  (alias_Validate a0).bind fun v1 => (basic_Failed v1).bind fun v3 => (bif v3 then some (([], v1)) else (envelope_Address a1).bind fun v6 => (bif (!v6) then (basic_Fault 10 ((-2))).bind fun v9 => some (([], v9)) else (iter (alias_Expand_l1 a0) ((0, ([] : List (Str × (List Str)))))).bind fun b12 => (iter (alias_Expand_l2 a0) ((0, ([] : List (Str × (List Str)))))).bind fun b18 => (iter (alias_Expand_l3 a1) ((0, ([] : List Str), ([] : List (Str × Bool))))).bind fun b24 => (iter (alias_Expand_l4 b12 b18) ((b24.1, b24.2, ([] : List Str)))).bind fun b34 => (basic_None).bind fun v67 => some ((b34, v67))))
def alias_Loops_l2 (a0 : List TAlias) (s13 : Int × (List (Str × (List Str)))) : Option (Step (Int × (List (Str × (List Str)))) (List (Str × (List Str)))) :=
  (bif decide (s13.1 < (a0.length : Int)) then (idx a0 s13.1).bind fun v17 => some (.cont ((w64 (s13.1 + 1)), (mput s13.2 v17.Address v17.To))) else some (.out s13.2))
def alias_Loops_l3 (v11 : TAlias) (s19 : Int × (List Str) × (List (Str × Bool))) : Option (Step (Int × (List Str) × (List (Str × Bool))) ((List Str) × (List (Str × Bool)))) :=
  (bif decide (s19.1 < (v11.To.length : Int)) then ((idx v11.To s19.1).bind fun v24 => (bif (!(((mget s19.2.2 v24).getD false))) then (app 8796093022208 s19.2.1 (([v24] : List Str))).bind fun v27 => some ((v27, (mput s19.2.2 v24 true))) else some ((s19.2.1, s19.2.2))) : Option ((List Str) × (List (Str × Bool)))).bind fun (j23 : (List Str) × (List (Str × Bool))) => some (.cont ((w64 (s19.1 + 1)), j23.1, j23.2)) else some (.out ((s19.2.1, s19.2.2))))
def alias_Loops_l5 (b14 : List (Str × (List Str))) (v35 : Str) (s42 : Int × (List Str) × (List (Str × Bool))) : Option (Step (Int × (List Str) × (List (Str × Bool))) ((List Str) × (List (Str × Bool)))) :=
  (bif decide (s42.1 < ((((mget b14 v35).getD (([] : List Str)))).length : Int)) then ((idx (((mget b14 v35).getD (([] : List Str)))) s42.1).bind fun v47 => (bif (!(((mget s42.2.2 v47).getD false))) then (app 8796093022208 s42.2.1 (([v47] : List Str))).bind fun v50 => some ((v50, (mput s42.2.2 v47 true))) else some ((s42.2.1, s42.2.2))) : Option ((List Str) × (List (Str × Bool)))).bind fun (j46 : (List Str) × (List (Str × Bool))) => some (.cont ((w64 (s42.1 + 1)), j46.1, j46.2)) else some (.out ((s42.2.1, s42.2.2))))
noncomputable def alias_Loops_l4 (s6 : Int × (List Str)) (v11 : TAlias) (b14 : List (Str × (List Str))) (s29 : (List Str) × (List (Str × Bool))) : Option (Step ((List Str) × (List (Str × Bool))) (Unit ⊕ (List Str))) :=
  (bif decide (0 < (s29.1.length : Int)) then (idx s29.1 0).bind fun v35 => (cut s29.1 1 ((s29.1.length : Int))).bind fun v37 => (bif (v35 == v11.Address) then (app 8796093022208 s6.2 (([v35] : List Str))).bind fun v40 => some (.out (.inr v40)) else (iter (alias_Loops_l5 b14 v35) ((0, v37, s29.2))).bind fun b43 => some (.cont (b43.1, b43.2))) else some (.out (.inl (()))))
noncomputable def alias_Loops_l1 (a0 : List TAlias) (s6 : Int × (List Str)) : Option (Step (Int × (List Str)) (List Str)) :=
  (bif decide (s6.1 < (a0.length : Int)) then ((idx a0 s6.1).bind fun v11 => (iter (alias_Loops_l2 a0) ((0, ([] : List (Str × (List Str)))))).bind fun b14 => (iter (alias_Loops_l3 v11) ((0, ([] : List Str), ([] : List (Str × Bool))))).bind fun b20 => (iter (alias_Loops_l4 s6 v11 b14) ((b20.1, b20.2))).bind (Sum.elim (fun b30 => some s6.2) (fun b31 => some b31)) : Option (List Str)).bind fun (j10 : List Str) => some (.cont ((w64 (s6.1 + 1)), j10)) else some (.out s6.2))
noncomputable def alias_Loops (a0 : List TAlias) : Option ((List Str) × TFault) :=
  (alias_Validate a0).bind fun v1 => (basic_Failed v1).bind fun v3 => (bif v3 then some (([], v1)) else (iter (alias_Loops_l1 a0) ((0, ([] : List Str)))).bind fun b7 => (basic_None).bind fun v52 => some ((b7, v52)))
noncomputable def L_expands  : Option Bool :=
  (alias_Expand (([(TAlias.mk (([97, 64, 120] : Str)) (([([98, 64, 120] : Str), ([99, 64, 120] : Str)] : List Str))), (TAlias.mk (([98, 64, 120] : Str)) (([([97, 64, 120] : Str), ([100, 64, 120] : Str)] : List Str)))] : List TAlias)) (([97, 64, 120] : Str))).bind fun v1 => (alias_Loops (([(TAlias.mk (([97, 64, 120] : Str)) (([([98, 64, 120] : Str), ([99, 64, 120] : Str)] : List Str))), (TAlias.mk (([98, 64, 120] : Str)) (([([97, 64, 120] : Str), ([100, 64, 120] : Str)] : List Str)))] : List TAlias))).bind fun v3 => (alias_Expand (([(TAlias.mk (([97, 64, 120] : Str)) (([([98, 64, 120] : Str), ([99, 64, 120] : Str)] : List Str))), (TAlias.mk (([98, 64, 120] : Str)) (([([97, 64, 120] : Str), ([100, 64, 120] : Str)] : List Str)))] : List TAlias)) (([97] : Str))).bind fun v5 => ((bif (v1.2.Code == 0) then (bif (v3.2.Code == 0) then (R_At 10 ((-2))).bind fun v10 => (bif (allEq [(v5.2.Code == v10.Code), (v5.2.Index == v10.Index)]) then (R_Strings v1.1 (([([99, 64, 120] : Str), ([100, 64, 120] : Str)] : List Str))).bind fun v13 => (bif v13 then (R_Strings v3.1 (([([97, 64, 120] : Str), ([98, 64, 120] : Str)] : List Str))).bind fun v16 => some v16 else some false) else some false) else some false) else some false) : Option Bool).bind fun (j7 : Bool) => some j7
noncomputable def L_AliasMatchesSpec (a0 : List TAlias) (a1 : Str) : Option Bool :=
  (alias_Expand a0 a1).bind fun v1 => (R_Expanded a0 a1).bind fun v3 => ((L_expands).bind fun v6 => (bif v6 then (alias_Validate a0).bind fun v9 => (R_AliasesFault a0).bind fun v11 => (bif (allEq [(v9.Code == v11.Code), (v9.Index == v11.Index)]) then (bif (allEq [(v1.2.Code == v3.2.Code), (v1.2.Index == v3.2.Index)]) then (R_Strings v1.1 v3.1).bind fun v15 => some v15 else some false) else some false) else some false) : Option Bool).bind fun (j5 : Bool) => some j5
noncomputable def L_AliasLoopsMatchSpec_l1 (a0 : List TAlias) (v1 : TFault) (s5 : Int × (List Str)) : Option (Step (Int × (List Str)) (List Str)) :=
  ((bif decide (s5.1 < (a0.length : Int)) then some ((v1.Code == 0)) else some false) : Option Bool).bind fun (j8 : Bool) => (bif j8 then ((idx a0 s5.1).bind fun v12 => (R_Reached a0 v12.To).bind fun v14 => (idx a0 s5.1).bind fun v16 => (R_Has v14 v16.Address).bind fun v18 => (bif v18 then (idx a0 s5.1).bind fun v21 => (app 8796093022208 s5.2 (([v21.Address] : List Str))).bind fun v23 => some v23 else some s5.2) : Option (List Str)).bind fun (j11 : List Str) => some (.cont ((w64 (s5.1 + 1)), j11)) else some (.out s5.2))
noncomputable def L_AliasLoopsMatchSpec (a0 : List TAlias) : Option Bool :=
  (R_AliasesFault a0).bind fun v1 => (alias_Loops a0).bind fun v3 => (iter (L_AliasLoopsMatchSpec_l1 a0 v1) ((0, ([] : List Str)))).bind fun b6 => ((L_expands).bind fun v26 => (bif v26 then (bif (allEq [(v3.2.Code == v1.Code), (v3.2.Index == v1.Index)]) then (R_Strings v3.1 b6).bind fun v30 => some v30 else some false) else some false) : Option Bool).bind fun (j25 : Bool) => some j25
noncomputable def L_AliasIsAFixedPoint_l1 (a0 : List TAlias) (v1 : (List Str) × TFault) (s12 : Int) : Option (Step Int (Unit ⊕ Bool)) :=
  (bif decide (s12 < (v1.1.length : Int)) then (idx v1.1 s12).bind fun v18 => (alias_Expand a0 v18).bind fun v20 => ((bif (v20.2.Code != 0) then some true else (idx v1.1 s12).bind fun v24 => (R_Strings v20.1 (([v24] : List Str))).bind fun v26 => (bif (!v26) then some true else (cut v1.1 0 s12).bind fun v29 => (idx v1.1 s12).bind fun v31 => (R_Has v29 v31).bind fun v33 => some v33)) : Option Bool).bind fun (j22 : Bool) => (bif j22 then some (.out (.inr false)) else some (.cont (w64 (s12 + 1)))) else some (.out (.inl (()))))
noncomputable def L_AliasIsAFixedPoint_l5 (v1 : (List Str) × TFault) (v58 : (List Str) × TFault) (s61 : Int) : Option (Step Int (Unit ⊕ Bool)) :=
  (bif decide (s61 < (v58.1.length : Int)) then (idx v58.1 s61).bind fun v67 => (R_Has v1.1 v67).bind fun v69 => (bif (!v69) then some (.out (.inr false)) else some (.cont (w64 (s61 + 1)))) else some (.out (.inl (()))))
noncomputable def L_AliasIsAFixedPoint_l4 (a0 : List TAlias) (v1 : (List Str) × TFault) (s36 : Int) (s46 : Int) : Option (Step Int (Unit ⊕ Bool)) :=
  (idx a0 s36).bind fun v51 => (bif decide (s46 < (v51.To.length : Int)) then (idx a0 s36).bind fun v54 => (idx v54.To s46).bind fun v56 => (alias_Expand a0 v56).bind fun v58 => (bif (v58.2.Code != 0) then some (.out (.inr false)) else (iter (L_AliasIsAFixedPoint_l5 v1 v58) 0).bind (Sum.elim (fun b62 => some (.cont (w64 (s46 + 1)))) (fun b63 => some (.out (.inr b63))))) else some (.out (.inl (()))))
def L_AliasIsAFixedPoint_k3 (s36 : Int) (j42 : Unit) : Option (Step Int (Unit ⊕ Bool)) :=
  some (.cont (w64 (s36 + 1)))
noncomputable def L_AliasIsAFixedPoint_l2 (a0 : List TAlias) (a1 : Str) (v1 : (List Str) × TFault) (s36 : Int) : Option (Step Int (Unit ⊕ Bool)) :=
  (bif decide (s36 < (a0.length : Int)) then (idx a0 s36).bind fun v43 => (bif (v43.Address != a1) then (L_AliasIsAFixedPoint_k3 s36 ()) else (iter (L_AliasIsAFixedPoint_l4 a0 v1 s36) 0).bind (Sum.elim (fun b47 => (L_AliasIsAFixedPoint_k3 s36 ())) (fun b48 => some (.out (.inr b48))))) else some (.out (.inl (()))))
noncomputable def L_AliasIsAFixedPoint (a0 : List TAlias) (a1 : Str) : Option Bool :=
  (alias_Expand a0 a1).bind fun v1 => ((L_expands).bind fun v4 => (bif (!v4) then some true else some ((v1.2.Code != 0))) : Option Bool).bind fun (j3 : Bool) => (bif j3 then ((L_expands).bind fun v9 => (bif v9 then some (((v1.1.length : Int) == 0)) else some false) : Option Bool).bind fun (j8 : Bool) => some j8 else (iter (L_AliasIsAFixedPoint_l1 a0 v1) 0).bind (Sum.elim (fun b13 => (iter (L_AliasIsAFixedPoint_l2 a0 a1 v1) 0).bind (Sum.elim (fun b37 => some true) (fun b38 => some b38))) (fun b14 => some b14)))
noncomputable def L_AliasMoreIsMore_l1 (a0 : List TAlias) (a2 : TAlias) (s12 : Int) : Option (Step Int (Unit ⊕ Bool)) :=
  (bif decide (s12 < (a0.length : Int)) then (idx a0 s12).bind fun v18 => (R_Has v18.To a2.Address).bind fun v20 => (bif v20 then some (.out (.inr true)) else some (.cont (w64 (s12 + 1)))) else some (.out (.inl (()))))
noncomputable def L_AliasMoreIsMore (a0 : List TAlias) (a1 : Str) (a2 : TAlias) : Option Bool :=
  (alias_Expand a0 a1).bind fun v1 => ((L_expands).bind fun v4 => (bif (!v4) then some true else some ((v1.2.Code != 0))) : Option Bool).bind fun (j3 : Bool) => (bif j3 then ((L_expands).bind fun v9 => (bif v9 then some (((v1.1.length : Int) == 0)) else some false) : Option Bool).bind fun (j8 : Bool) => some j8 else (iter (L_AliasMoreIsMore_l1 a0 a2) 0).bind (Sum.elim (fun b13 => (app 3518437208883 (([] : List TAlias)) a0).bind fun v23 => (app 3518437208883 v23 (([a2] : List TAlias))).bind fun v25 => (alias_Expand v25 a1).bind fun v27 => ((bif (v27.2.Code != 0) then some true else (bif (a2.Address == a1) then some true else (R_Strings v1.1 v27.1).bind fun v32 => some v32)) : Option Bool).bind fun (j29 : Bool) => some j29) (fun b14 => some b14)))
end Go.Proofs.Ytlpmbmilnoncdaa

/- Plain lemmas on the operations of typed functions: no program is named. -/
namespace Go.Proofs.Ytlpmbmilnoncdaa
open Go.RowKit

theorem w64_nn (a b : Nat) (h : a + b ≤ 9223372036854775807) : w64 ((a : Int) + (b : Int)) = ((a + b : Nat) : Int) := by
  rw [w64_id (by omega) (by omega)]; simp
theorem w64_nl (a k : Nat) (h : a + OfNat.ofNat k ≤ 9223372036854775807) : w64 ((a : Int) + (no_index (OfNat.ofNat k : Int))) = ((a + OfNat.ofNat k : Nat) : Int) := by
  have e : (OfNat.ofNat k : Int) = ((OfNat.ofNat k : Nat) : Int) := rfl
  rw [e]; exact w64_nn a _ h
theorem w64_ns (a b : Nat) (h : b ≤ a) (ha : a ≤ 9223372036854775807) : w64 ((a : Int) - (b : Int)) = ((a - b : Nat) : Int) := by
  rw [w64_id (by omega) (by omega)]; omega
theorem w64_sl (a k : Nat) (h : OfNat.ofNat k ≤ a) (ha : a ≤ 9223372036854775807) : w64 ((a : Int) - (no_index (OfNat.ofNat k : Int))) = ((a - OfNat.ofNat k : Nat) : Int) := by
  have e : (OfNat.ofNat k : Int) = ((OfNat.ofNat k : Nat) : Int) := rfl
  rw [e]; exact w64_ns a _ h ha
theorem w64_n (a : Nat) (h : a ≤ 9223372036854775807) : w64 (a : Int) = (a : Int) := w64_id (by omega) (by omega)

theorem u8_eq (c : UInt8) (k : Nat) (hk : OfNat.ofNat k < 256) : ((c.toNat : Int) == no_index (OfNat.ofNat k : Int)) = (c == OfNat.ofNat k) := by
  have e : (OfNat.ofNat k : Int) = ((OfNat.ofNat k : Nat) : Int) := rfl
  have h2 : (OfNat.ofNat k : UInt8).toNat = (OfNat.ofNat k : Nat) := by
    show (UInt8.ofNat k).toNat = k
    rw [UInt8.toNat_ofNat']; exact Nat.mod_eq_of_lt hk
  rw [Bool.eq_iff_iff, beq_iff_eq, beq_iff_eq, ← UInt8.toNat_inj, h2, e]
  omega
theorem u8_ne (c : UInt8) (k : Nat) (hk : OfNat.ofNat k < 256) : ((c.toNat : Int) != no_index (OfNat.ofNat k : Int)) = (c != OfNat.ofNat k) := by
  unfold bne; rw [u8_eq c k hk]
section
variable {α : Type}
theorem idx_nat (l : List α) (i : Nat) : idx l (i : Int) = l[i]? := by unfold idx; rw [if_pos (by omega)]; simp
theorem idx_lit (l : List α) (k : Nat) : idx l (no_index (OfNat.ofNat k : Int)) = l[(OfNat.ofNat k : Nat)]? := idx_nat l k
theorem idx_lt {l : List α} {i : Nat} (h : i < l.length) : idx l (i : Int) = some l[i] := by rw [idx_nat]; exact List.getElem?_eq_getElem h
theorem idx_app (p : List α) (x : α) (r : List α) : idx (p ++ x :: r) (p.length : Int) = some x := by rw [idx_nat]; simp
theorem cut_nn {l : List α} {a b : Nat} (h1 : a ≤ b) (h2 : b ≤ l.length) : cut l (a : Int) (b : Int) = some ((l.drop a).take (b - a)) := by
  unfold cut; rw [if_pos (by omega)]; simp
theorem cut_nl {l : List α} {a : Nat} (h1 : a ≤ l.length) : cut l (a : Int) (l.length : Int) = some (l.drop a) := by
  rw [cut_nn h1 (Nat.le_refl _)]; rw [List.take_of_length_le (by simp)]
theorem cut_0n {l : List α} {b : Nat} (h2 : b ≤ l.length) : cut l 0 (b : Int) = some (l.take b) := by
  have := cut_nn (l := l) (a := 0) (b := b) (by omega) h2
  simpa using this
theorem cut_ll {l : List α} {k : Nat} (h1 : OfNat.ofNat k ≤ l.length) : cut l (no_index (OfNat.ofNat k : Int)) (l.length : Int) = some (l.drop (OfNat.ofNat k)) := cut_nl (a := k) h1
theorem cut_0l {l : List α} {k : Nat} (h1 : OfNat.ofNat k ≤ l.length) : cut l 0 (no_index (OfNat.ofNat k : Int)) = some (l.take (OfNat.ofNat k)) := cut_0n (b := k) h1
theorem app_ok {lim : Nat} {l xs : List α} (h : l.length + xs.length ≤ lim) : app lim l xs = some (l ++ xs) := by unfold app; rw [if_pos h]
theorem cat_ok {a b : Str} (h : a.length + b.length ≤ 9223372036854775807) : cat a b = some (a ++ b) := by unfold cat; rw [if_pos h]
end

section
variable {A R : Type} {body : A → Option (Step A R)}
/-- a loop that ends, by an invariant and a measure -/
theorem iter_rec (Inv : A → Prop) (m : A → Nat) (Post : A → R → Prop)
    (h : ∀ s, Inv s → (∃ r, body s = some (.out r) ∧ Post s r) ∨ ∃ s', body s = some (.cont s') ∧ Inv s' ∧ m s' < m s ∧ ∀ r, Post s' r → Post s r) :
    ∀ s, Inv s → ∃ r, iter body s = some r ∧ Post s r := by
  intro s
  induction hn : m s using Nat.strongRecOn generalizing s with
  | _ n ih =>
    intro hi
    rcases h s hi with ⟨r, h1, h2⟩ | ⟨s', h1, h2, h3, h4⟩
    · exact ⟨r, iter_out h1, h2⟩
    · obtain ⟨r, h5, h6⟩ := ih (m s') (by omega) s' rfl h2
      exact ⟨r, (iter_cont h1).trans h5, h4 r h6⟩
/-- a loop that goes through a list, with an accumulator -/
theorem iter_list {α S : Type} (l : List α) (enc : Nat → S → A) (spec : Nat → List α → S → R)
    (h0 : ∀ s, body (enc l.length s) = some (.out (spec l.length [] s)))
    (h1 : ∀ p x r s, l = p ++ x :: r → (body (enc p.length s) = some (.out (spec p.length (x :: r) s))) ∨ ∃ s', body (enc p.length s) = some (.cont (enc (p.length + 1) s')) ∧ spec p.length (x :: r) s = spec (p.length + 1) r s') :
    ∀ {s0 : A} (s : S) (_ : s0 = enc 0 s), iter body s0 = some (spec 0 l s) := by
  have key : ∀ r p s, l = p ++ r → iter body (enc p.length s) = some (spec p.length r s) := by
    intro r
    induction r with
    | nil =>
      intro p s h
      have : p = l := by simp [h]
      subst this
      exact iter_out (h0 s)
    | cons x r ih =>
      intro p s h
      rcases h1 p x r s h with hb | ⟨s', hb, hs⟩
      · exact iter_out hb
      · rw [iter_cont hb, hs]
        have := ih (p ++ [x]) s' (by simp [h])
        simpa using this
  rintro _ s rfl
  exact key l [] s rfl
/-- the same, with an invariant -/
theorem iter_listI {α S : Type} (l : List α) (enc : Nat → S → A) (spec : Nat → List α → S → R) (Inv : Nat → List α → S → Prop)
    (h0 : ∀ s, Inv l.length [] s → body (enc l.length s) = some (.out (spec l.length [] s)))
    (h1 : ∀ p x r s, l = p ++ x :: r → Inv p.length (x :: r) s → (body (enc p.length s) = some (.out (spec p.length (x :: r) s))) ∨ ∃ s', body (enc p.length s) = some (.cont (enc (p.length + 1) s')) ∧ spec p.length (x :: r) s = spec (p.length + 1) r s' ∧ Inv (p.length + 1) r s') :
    ∀ {s0 : A} (s : S) (_ : s0 = enc 0 s) (_ : Inv 0 l s), iter body s0 = some (spec 0 l s) := by
  have key : ∀ r p s, l = p ++ r → Inv p.length r s → iter body (enc p.length s) = some (spec p.length r s) := by
    intro r
    induction r with
    | nil =>
      intro p s h hi
      have : p = l := by simp [h]
      subst this
      exact iter_out (h0 s hi)
    | cons x r ih =>
      intro p s h hi
      rcases h1 p x r s h hi with hb | ⟨s', hb, hs, hi'⟩
      · exact iter_out hb
      · rw [iter_cont hb, hs]
        have := ih (p ++ [x]) s' (by simp [h]) (by simpa using hi')
        simpa using this
  rintro _ s rfl hi
  exact key l [] s rfl hi
theorem lt_mid {α : Type} (p : List α) (x : α) (r : List α) : decide ((p.length : Int) < ((p ++ x :: r).length : Int)) = true := by simp; omega
theorem getElem_mid {α : Type} (p : List α) (x : α) (r : List α) : (p ++ x :: r)[p.length]? = some x := by simp
end
end Go.Proofs.Ytlpmbmilnoncdaa

/- Plain lemmas on loops of typed functions: first hits, folds. No program is named. -/
namespace Go.Proofs.Ytlpmbmilnoncdaa
open Go.RowKit
section
variable {α R O A S : Type}
/-- the first hit, with its number -/
def firstI (q : Nat → α → Option R) : Nat → List α → Option R
  | _, [] => none
  | i, x :: r => match q i x with | some y => some y | none => firstI q (i + 1) r
theorem iter_first (l : List α) (q : Nat → α → Option R) (oN : O) (oS : R → O) {body : Int → Option (Step Int O)} (hl : body (l.length : Int) = some (.out oN))
    (hs : ∀ (i : Nat) x, l[i]? = some x → body (i : Int) = some ((q i x).elim (.cont ((i + 1 : Nat) : Int)) fun r => .out (oS r))) :
    iter body 0 = some ((firstI q 0 l).elim oN oS) := by
  have key : ∀ r p, l = p ++ r → iter body (p.length : Int) = some ((firstI q p.length r).elim oN oS) := by
    intro r
    induction r with
    | nil => intro p h; have : p = l := by simp [h]
             subst this; exact iter_out hl
    | cons x r ih =>
      intro p h
      have hx := hs p.length x (by simp [h])
      unfold firstI
      cases hq : q p.length x with
      | some y => rw [hq] at hx; exact iter_out hx
      | none =>
        rw [hq] at hx
        rw [iter_cont hx]
        have := ih (p ++ [x]) (by simp [h])
        simpa using this
  exact key l [] rfl
/-- a loop with a counter and a state that goes on to its end -/
theorem iter_foldI (l : List α) (enc : Int → S → A) (f : Nat → S → α → S) (out : S → O) (Inv : Nat → S → Prop) {body : A → Option (Step A O)}
    (hl : ∀ s, Inv l.length s → body (enc l.length s) = some (.out (out s)))
    (hs : ∀ (i : Nat) x s, l[i]? = some x → Inv i s → body (enc i s) = some (.cont (enc ((i + 1 : Nat) : Int) (f i s x))) ∧ Inv (i + 1) (f i s x)) (s : S) (h0 : Inv 0 s) :
    ∃ t, iter body (enc 0 s) = some (out t) ∧ Inv l.length t ∧ t = (l.zipIdx.foldl (fun s p => f p.2 s p.1) s) := by
  have key : ∀ r p s, l = p ++ r → Inv p.length s → ∃ t, iter body (enc (p.length : Int) s) = some (out t) ∧ Inv l.length t ∧ t = ((r.zipIdx p.length).foldl (fun s p => f p.2 s p.1) s) := by
    intro r
    induction r with
    | nil => intro p s h hi; have : p = l := by simp [h]
             subst this; exact ⟨s, iter_out (hl s hi), hi, rfl⟩
    | cons x r ih =>
      intro p s h hi
      obtain ⟨h1, h2⟩ := hs p.length x s (by simp [h]) hi
      rw [iter_cont h1]
      obtain ⟨t, h3, h4, h5⟩ := ih (p ++ [x]) (f p.length s x) (by simp [h]) (by simpa using h2)
      refine ⟨t, by simpa using h3, h4, ?_⟩
      rw [h5]; simp
  exact key l [] s rfl h0
theorem foldl_zipIdx (f : S → α → S) (l : List α) : ∀ (n : Nat) (s : S), (l.zipIdx n).foldl (fun s p => f s p.1) s = l.foldl f s := by
  induction l with
  | nil => intro n s; rfl
  | cons x r ih => intro n s; simp [ih]
/-- the same, where the number does not matter -/
theorem iter_fold (l : List α) (enc : Int → S → A) (f : S → α → S) (out : S → O) (Inv : Nat → S → Prop) {body : A → Option (Step A O)}
    (hl : ∀ s, Inv l.length s → body (enc l.length s) = some (.out (out s)))
    (hs : ∀ (i : Nat) x s, l[i]? = some x → Inv i s → body (enc i s) = some (.cont (enc ((i + 1 : Nat) : Int) (f s x))) ∧ Inv (i + 1) (f s x)) (s : S) (h0 : Inv 0 s) :
    iter body (enc 0 s) = some (out (l.foldl f s)) ∧ Inv l.length (l.foldl f s) := by
  obtain ⟨t, h1, h2, h3⟩ := iter_foldI l enc (fun _ => f) out Inv hl hs s h0
  have : t = l.foldl f s := by rw [h3]; exact foldl_zipIdx f l 0 s
  subst this
  exact ⟨h1, h2⟩
theorem firstI_any (c : α → Bool) (r : R) (l : List α) (n : Nat) : firstI (fun _ x => if c x then some r else none) n l = if l.any c then some r else none := by
  induction l generalizing n with
  | nil => rfl
  | cons x l ih => unfold firstI; cases h : c x <;> simp [h, ih]
theorem firstI_none {q : Nat → α → Option R} {l : List α} {n : Nat} : firstI q n l = none ↔ ∀ (i : Nat) x, l[i]? = some x → q (n + i) x = none := by
  induction l generalizing n with
  | nil => simp [firstI]
  | cons x l ih =>
    unfold firstI
    cases h : q n x with
    | some y =>
      simp only [reduceCtorEq, false_iff]
      intro hh
      have := hh 0 x rfl
      rw [Nat.add_zero, h] at this; cases this
    | none =>
      rw [ih]
      constructor
      · intro hh i y hy
        cases i with
        | zero => simp at hy; subst hy; exact h
        | succ i => rw [show n + (i + 1) = n + 1 + i by omega]; exact hh i y (by simpa using hy)
      · intro hh i y hy
        rw [show n + 1 + i = n + (i + 1) by omega]; exact hh (i + 1) y (by simpa using hy)
theorem firstI_congr {q q' : Nat → α → Option R} {l : List α} {n : Nat} (h : ∀ (i : Nat) x, l[i]? = some x → q (n + i) x = q' (n + i) x) : firstI q n l = firstI q' n l := by
  induction l generalizing n with
  | nil => rfl
  | cons x l ih =>
    unfold firstI
    rw [show q n x = q' n x from h 0 x rfl, ih (fun i y hy => by rw [show n + 1 + i = n + (i + 1) by omega]; exact h (i + 1) y (by simpa using hy))]
theorem firstI_some {q : Nat → α → Option R} {l : List α} {n : Nat} {r : R} (h : firstI q n l = some r) : ∃ (i : Nat) (x : α), l[i]? = some x ∧ q (n + i) x = some r := by
  induction l generalizing n with
  | nil => cases h
  | cons x l ih =>
    unfold firstI at h
    cases hq : q n x with
    | some y => rw [hq] at h; cases h; exact ⟨0, x, rfl, hq⟩
    | none =>
      rw [hq] at h
      obtain ⟨i, y, h1, h2⟩ := ih h
      exact ⟨i + 1, y, by simpa using h1, by rw [show n + (i + 1) = n + 1 + i by omega]; exact h2⟩
theorem lt_get {l : List α} {i : Nat} {x : α} (h : l[i]? = some x) : i < l.length := (List.getElem?_eq_some_iff.1 h).1
theorem dec_lt {l : List α} {i : Nat} {x : α} (h : l[i]? = some x) : decide ((i : Int) < (l.length : Int)) = true := by have := lt_get h; simp; omega
theorem dec_len (l : List α) : decide ((l.length : Int) < (l.length : Int)) = false := by simp
theorem idx_get {l : List α} {i : Nat} {x : α} (h : l[i]? = some x) : idx l (i : Int) = some x := by rw [idx_nat]; exact h
end
end Go.Proofs.Ytlpmbmilnoncdaa

/- Domains and addresses: the plain functions, and what the typed functions compute. -/
namespace Go.Proofs.Ytlpmbmilnoncdaa
open Go.RowKit
set_option linter.unusedVariables false
set_option maxHeartbeats 1000000

def lettC (c : UInt8) : Bool := (decide (97 ≤ c) && decide (c ≤ 122)) || (decide (65 ≤ c) && decide (c ≤ 90)) || (decide (48 ≤ c) && decide (c ≤ 57))
def smallC (c : UInt8) : Bool := (decide (97 ≤ c) && decide (c ≤ 122)) || (decide (48 ≤ c) && decide (c ≤ 57)) || c == 45 || c == 46
def goodC (c : UInt8) : Bool := lettC c || c == 45 || c == 95 || c == 46 || c == 43 || c == 61
/-- no dot at the front or behind a dot (p: there is one, or the front), none at the end -/
def dotsOk : Bool → Str → Bool
  | p, [] => !p
  | p, c :: r => if c = 46 then !p && dotsOk true r else dotsOk false r
def domP (s : Str) : Bool := decide (s.length ≤ 60) && s.all smallC && dotsOk true s
def atP (s : Str) : Nat := s.findIdx (· == 64)
def addrP (s : Str) : Bool := decide (atP s < s.length) && decide (1 ≤ atP s) && decide (atP s ≤ 60) && (s.take (atP s)).all goodC && domP (s.drop (atP s + 1))

theorem u8_le (a c : UInt8) : decide ((a.toNat : Int) ≤ (c.toNat : Int)) = decide (a ≤ c) := by
  rw [Bool.eq_iff_iff]; simp [UInt8.le_iff_toNat_le]
theorem u8_le1 (k : Nat) (c : UInt8) (hk : OfNat.ofNat k < 256) : decide ((no_index (OfNat.ofNat k : Int)) ≤ (c.toNat : Int)) = decide ((OfNat.ofNat k : UInt8) ≤ c) := by
  have e : (OfNat.ofNat k : Int) = ((OfNat.ofNat k : Nat) : Int) := rfl
  have h2 : (OfNat.ofNat k : UInt8).toNat = (OfNat.ofNat k : Nat) := by
    show (UInt8.ofNat k).toNat = k
    rw [UInt8.toNat_ofNat']; exact Nat.mod_eq_of_lt hk
  rw [Bool.eq_iff_iff, decide_eq_true_eq, decide_eq_true_eq, UInt8.le_iff_toNat_le, h2, e]; omega
theorem u8_le2 (k : Nat) (c : UInt8) (hk : OfNat.ofNat k < 256) : decide ((c.toNat : Int) ≤ (no_index (OfNat.ofNat k : Int))) = decide (c ≤ (OfNat.ofNat k : UInt8)) := by
  have e : (OfNat.ofNat k : Int) = ((OfNat.ofNat k : Nat) : Int) := rfl
  have h2 : (OfNat.ofNat k : UInt8).toNat = (OfNat.ofNat k : Nat) := by
    show (UInt8.ofNat k).toNat = k
    rw [UInt8.toNat_ofNat']; exact Nat.mod_eq_of_lt hk
  rw [Bool.eq_iff_iff, decide_eq_true_eq, decide_eq_true_eq, UInt8.le_iff_toNat_le, h2, e]; omega

theorem R_In_eq (a b c : Int) : R_In a b c = some (decide (b ≤ a) && decide (a ≤ c)) := by
  unfold R_In; cases decide (b ≤ a) <;> rfl
theorem R_letterOrDigit_eq (c : UInt8) : R_letterOrDigit c = some (lettC c) := by
  unfold R_letterOrDigit lettC
  simp only [R_In_eq, Option.bind_some, u8_le1 97 c (by decide), u8_le2 122 c (by decide), u8_le1 65 c (by decide), u8_le2 90 c (by decide), u8_le1 48 c (by decide), u8_le2 57 c (by decide)]
  generalize (decide ((97 : UInt8) ≤ c) && decide (c ≤ 122)) = x
  generalize (decide ((65 : UInt8) ≤ c) && decide (c ≤ 90)) = y
  cases x <;> cases y <;> simp
theorem basic_Letter_eq (c : UInt8) : basic_Letter c = some (lettC c) := by
  unfold basic_Letter lettC
  simp only [u8_le1 97 c (by decide), u8_le2 122 c (by decide), u8_le1 65 c (by decide), u8_le2 90 c (by decide), u8_le1 48 c (by decide), u8_le2 57 c (by decide)]
  cases decide ((97 : UInt8) ≤ c) <;> cases decide (c ≤ 122) <;> cases decide ((65 : UInt8) ≤ c) <;> cases decide (c ≤ 90) <;> cases decide ((48 : UInt8) ≤ c) <;> cases decide (c ≤ 57) <;> rfl


/-! ### the reference's domains -/
/-- is there a dot, or the front, before place i? -/
def prevDot (s : Str) (i : Nat) : Bool := if i = 0 then true else s[i - 1]? == some 46
def domLoop : Bool → Str → Bool
  | _, [] => true
  | p, c :: r => if c = 46 then !p && !r.isEmpty && domLoop true r else smallC c && domLoop false r
theorem domLoop_cons (p : Bool) (c : UInt8) (r : Str) : domLoop p (c :: r) = if c = 46 then !p && !r.isEmpty && domLoop true r else smallC c && domLoop false r := rfl
theorem domLoop_eq (s : Str) (p : Bool) (h : s ≠ [] ∨ p = false) : domLoop p s = (s.all smallC && dotsOk p s) := by
  induction s generalizing p with
  | nil => simp [domLoop, dotsOk]; rcases h with h | h <;> simp_all
  | cons c r ih =>
    unfold domLoop dotsOk
    by_cases hc : c = 46
    · subst hc
      simp only [if_true, List.all_cons, show smallC 46 = true by decide, Bool.true_and]
      cases r with
      | nil => simp [dotsOk]
      | cons d r =>
        rw [ih true (.inl (by simp))]
        cases p <;> simp
    · rw [if_neg hc, if_neg hc]
      rw [ih false (.inr rfl), List.all_cons, Bool.and_assoc]
theorem R_DomainOk_loop (s : Str) (hs : s.length ≤ 9223372036854775806) : iter (R_DomainOk_l1 s) 0 = some (if domLoop true s then .inl () else .inr false) := by
  have := iter_list (body := R_DomainOk_l1 s) s (fun i (_ : Unit) => (i : Int)) (fun i r _ => if domLoop (prevDot s i) r then .inl () else .inr false) (fun _ => by
      unfold R_DomainOk_l1
      rw [dec_len]; simp [domLoop]) (fun p c r _ h => ?_) (s0 := 0) () rfl
  · simpa [prevDot] using this
  · have hc : s[p.length]? = some c := by simp [h]
    have hidx := idx_get hc
    have hlen : s.length = p.length + r.length + 1 := by rw [h]; simp; omega
    have e1 : w64 ((s.length : Int) - 1) = ((s.length - 1 : Nat) : Int) := by rw [w64_id (by omega) (by omega)]; omega
    have e2 : w64 ((p.length : Int) + 1) = ((p.length + 1 : Nat) : Int) := by rw [show ((p.length : Int) + 1) = ((p.length + 1 : Nat) : Int) by omega, w64_n _ (by omega)]
    have hbody : R_DomainOk_l1 s (p.length : Int) = some (if c = 46 then (if prevDot s p.length || r.isEmpty then .out (.inr false) else .cont ((p.length + 1 : Nat) : Int)) else if smallC c then .cont ((p.length + 1 : Nat) : Int) else .out (.inr false)) := by
      unfold R_DomainOk_l1
      rw [dec_lt hc, hidx]
      simp only [cond_true, Option.bind_some, R_In_eq, u8_eq c 46 (by decide), u8_ne c 45 (by decide), u8_ne c 46 (by decide), u8_le1 97 c (by decide), u8_le2 122 c (by decide), u8_le1 48 c (by decide), u8_le2 57 c (by decide), e1, e2]
      by_cases h46 : c = 46
      · subst h46
        have hsm : (!(decide ((97 : UInt8) ≤ 46) && decide ((46 : UInt8) ≤ 122))) = true := by decide
        have hsm2 : (!(decide ((48 : UInt8) ≤ 46) && decide ((46 : UInt8) ≤ 57))) = true := by decide
        simp only [beq_self_eq_true, cond_true, hsm, hsm2, if_true, bne_self_eq_false]
        by_cases h0 : p.length = 0
        · simp [h0, prevDot]
        · have h0' : ((p.length : Int) == 0) = false := by rw [beq_eq_false_iff_ne]; omega
          by_cases hl : r = []
          · subst hl
            have : ((p.length : Int) == ((s.length - 1 : Nat) : Int)) = true := by rw [hlen]; simp
            simp [h0', this]
          · have hr : r.isEmpty = false := by simpa using hl
            have hrl : 0 < r.length := List.length_pos_iff.2 hl
            have : ((p.length : Int) == ((s.length - 1 : Nat) : Int)) = false := by rw [hlen]; simp; omega
            have e3 : w64 ((p.length : Int) - 1) = ((p.length - 1 : Nat) : Int) := by rw [w64_id (by omega) (by omega)]; omega
            have hlt : p.length - 1 < s.length := by omega
            simp only [h0', this, cond_false, e3, idx_lt hlt, Option.bind_some, hr, Bool.or_false, prevDot, if_neg h0, List.getElem?_eq_getElem hlt]
            rw [u8_eq _ 46 (by decide)]
            by_cases hd : s[p.length - 1] = 46
            · simp [hd]
            · have : (s[p.length - 1] == 46) = false := by simpa using hd
              simp [this, hd]
      · have h1 : (c == 46) = false := by simpa using h46
        have h2 : (c != 46) = true := by simpa using h46
        simp only [h1, cond_false, if_neg h46, Option.bind_some, smallC, h2]
        by_cases ha : (decide ((97 : UInt8) ≤ c) && decide (c ≤ 122)) = true
        · simp [ha]
        · have ha : (decide ((97 : UInt8) ≤ c) && decide (c ≤ 122)) = false := by simpa using ha
          by_cases hb : (decide ((48 : UInt8) ≤ c) && decide (c ≤ 57)) = true
          · simp [ha, hb]
          · have hb : (decide ((48 : UInt8) ≤ c) && decide (c ≤ 57)) = false := by simpa using hb
            by_cases h45 : c = 45
            · subst h45; simp [ha, hb]
            · have : (c == 45) = false := by simpa using h45
              simp [ha, hb, this, bne]
    have hp1 : prevDot s (p.length + 1) = decide (c = 46) := by
      unfold prevDot
      simp only [Nat.add_sub_cancel, Nat.add_one_ne_zero, if_false, hc]
      rw [Bool.eq_iff_iff]; simp
    rw [hbody]
    rw [domLoop_cons]
    by_cases h46 : c = 46
    · subst h46
      simp only [if_true]
      cases hq : (prevDot s p.length || r.isEmpty) with
      | true =>
        left
        simp only [if_true]
        have : (!prevDot s p.length && !r.isEmpty && domLoop true r) = false := by
          cases hp : prevDot s p.length <;> simp_all
        rw [this]; rfl
      | false =>
        right
        refine ⟨(), rfl, ?_⟩
        have h3 : prevDot s p.length = false := by cases hp : prevDot s p.length <;> simp_all
        have h4 : r.isEmpty = false := by cases hp : r.isEmpty <;> simp_all
        rw [h3, h4, hp1]; simp
    · simp only [if_neg h46]
      cases hq : smallC c with
      | true => right; exact ⟨(), rfl, by rw [hp1]; simp [h46]⟩
      | false => left; simp
theorem dotsOk_nil (s : Str) : s = [] → dotsOk true s = false := by rintro rfl; rfl
theorem R_DomainOk_eq (s : Str) (hs : s.length ≤ 9223372036854775806) : R_DomainOk s = some (domP s) := by
  unfold R_DomainOk
  rw [R_DomainOk_loop s hs]
  by_cases hn : s = []
  · subst hn; simp [domLoop, R_In_eq, domP, dotsOk]
  · rw [domLoop_eq s true (.inl hn)]
    have hpos : 0 < s.length := List.length_pos_iff.2 hn
    unfold domP
    cases h : (s.all smallC && dotsOk true s) with
    | false =>
      rw [Bool.and_assoc, h]; simp
    | true =>
      rw [Bool.and_assoc, h]
      simp only [if_true, Option.bind_some, R_In_eq, Bool.and_true]
      congr 1
      rw [Bool.eq_iff_iff]; simp; omega
/-! ### the reference's addresses -/
theorem R_sign_eq (s : Str) (hs : s.length ≤ 9223372036854775806) : R_sign s = some ((atP s : Nat) : Int) := by
  unfold R_sign
  rw [iter_first s (fun i c => if c == 64 then some (i : Int) else none) (.inl ()) .inr]
  · simp only [Option.bind_some]
    have key : ∀ (r : Str) (n : Nat), (firstI (fun i (c : UInt8) => if c == 64 then some (i : Int) else none) n r).getD ((n + r.length : Nat) : Int) = ((n + r.findIdx (· == 64) : Nat) : Int) := by
      intro r
      induction r with
      | nil => intro n; simp [firstI]
      | cons c r ih =>
        intro n
        unfold firstI
        rw [List.findIdx_cons]
        cases hc : (c == 64) with
        | true => simp
        | false =>
          simp only [Bool.false_eq_true, if_false, cond_false]
          have := ih (n + 1)
          rw [show n + (c :: r).length = n + 1 + r.length by simp; omega, show n + (r.findIdx (· == 64) + 1) = n + 1 + r.findIdx (· == 64) by omega]
          exact this
    have := key s 0
    rw [Nat.zero_add, Nat.zero_add] at this
    unfold atP
    rw [← this]
    cases firstI (fun i (c : UInt8) => if c == 64 then some (i : Int) else none) 0 s <;> rfl
  · unfold R_sign_l1; rw [dec_len]; rfl
  · intro i c hc
    unfold R_sign_l1
    have hi := lt_get hc
    rw [dec_lt hc, idx_get hc]
    simp only [cond_true, Option.bind_some, u8_eq c 64 (by decide)]
    cases c == 64 with
    | true => rfl
    | false =>
      simp only [cond_false, Bool.false_eq_true, if_false]
      rw [show ((i : Int) + 1) = ((i + 1 : Nat) : Int) by omega, w64_n _ (by omega)]; rfl
theorem R_AddressOk_eq (s : Str) (hs : s.length ≤ 9223372036854775806) : R_AddressOk s = some (addrP s) := by
  have hat : atP s ≤ s.length := List.findIdx_le_length
  unfold R_AddressOk
  rw [R_sign_eq s hs]
  simp only [Option.bind_some]
  have hloop : iter (R_AddressOk_l1 s (atP s : Int)) 0 = some ((firstI (fun _ c => if !goodC c then some false else none) 0 (s.take (atP s))).elim (.inl ()) .inr) := by
    refine iter_first (s.take (atP s)) _ (Sum.inl ()) Sum.inr ?_ ?_
    · have : ((s.take (atP s)).length : Int) = (atP s : Int) := by simp; omega
      unfold R_AddressOk_l1; rw [this]; simp
    · intro i c hc
      have hi := lt_get hc
      simp at hi
      have hc2 : s[i]? = some c := by rw [List.getElem?_take_of_lt (by omega)] at hc; exact hc
      unfold R_AddressOk_l1
      have : decide ((i : Int) < (atP s : Int)) = true := by simp; omega
      rw [this, idx_get hc2]
      simp only [cond_true, Option.bind_some, R_letterOrDigit_eq, u8_ne c 45 (by decide), u8_ne c 95 (by decide), u8_ne c 46 (by decide), u8_ne c 43 (by decide), u8_ne c 61 (by decide)]
      rw [show ((i : Int) + 1) = ((i + 1 : Nat) : Int) by omega, w64_n _ (by omega)]
      unfold goodC
      cases lettC c <;> cases h1 : (c == 45) <;> cases h2 : (c == 95) <;> cases h3 : (c == 46) <;> cases h4 : (c == 43) <;> cases h5 : (c == 61) <;> simp [bne, h1, h2, h3, h4, h5]
  rw [hloop, firstI_any]
  unfold addrP
  have hall : (s.take (atP s)).any (fun c => !goodC c) = !((s.take (atP s)).all goodC) := by simp [List.not_all_eq_any_not]
  rw [hall]
  cases hg : (s.take (atP s)).all goodC with
  | false => simp
  | true =>
    simp only [Bool.not_true, Bool.false_eq_true, if_false, Option.bind_some, R_In_eq, Bool.and_true]
    by_cases h1 : 1 ≤ atP s ∧ atP s ≤ 60
    · have e1 : (decide ((1 : Int) ≤ (atP s : Int)) && decide ((atP s : Int) ≤ 60)) = true := by simp; omega
      rw [e1]
      by_cases h2 : atP s < s.length
      · have e2 : decide ((atP s : Int) < (s.length : Int)) = true := by simp; omega
        rw [e2]
        simp only [cond_true]
        rw [show ((atP s : Int) + 1) = ((atP s + 1 : Nat) : Int) by omega, w64_n _ (by omega), cut_nl (by omega)]
        simp only [Option.bind_some]
        rw [R_DomainOk_eq _ (by simp; omega)]
        simp [h1, h2]
      · have e2 : decide ((atP s : Int) < (s.length : Int)) = false := by simp; omega
        rw [e2]; simp [h2]
    · have e1 : (decide ((1 : Int) ≤ (atP s : Int)) && decide ((atP s : Int) ≤ 60)) = false := by
        rw [Bool.eq_false_iff]; simp; omega
      rw [e1]
      simp only [cond_false, Option.bind_some]
      congr 1
      symm
      rcases Nat.lt_or_ge (atP s) 1 with h | h
      · have : decide (1 ≤ atP s) = false := by simp; omega
        rw [this]; simp
      · have : decide (atP s ≤ 60) = false := by simp; omega
        rw [this]; simp

/-! ### the program's domains and addresses -/
theorem dots_contains (s : Str) : ∀ p, dotsOk p s = (!(p && (s.isEmpty || s.head? == some 46)) && !(s.getLast? == some 46) && !Lib.contains s [46, 46]) := by
  induction s with
  | nil => intro p; cases p <;> simp [dotsOk, Lib.contains, Lib.index]
  | cons c r ih =>
    intro p
    have hcont : Lib.contains (c :: r) [46, 46] = ((c == 46 && r.head? == some 46) || Lib.contains r [46, 46]) := by
      unfold Lib.contains
      rw [Lib.index]
      have hpre : ([46, 46] : List UInt8).isPrefixOf (c :: r) = (c == 46 && r.head? == some 46) := by
        cases r with
        | nil => simp [List.isPrefixOf]
        | cons d r => simp only [List.isPrefixOf, List.head?_cons, Bool.and_true]; rw [Bool.eq_iff_iff]; simp; constructor <;> rintro ⟨rfl, rfl⟩ <;> exact ⟨rfl, rfl⟩
      rw [hpre]
      have hg := Lib.index_ge r [46, 46]
      cases c == 46 && r.head? == some 46 with
      | true => simp
      | false =>
        simp only [Bool.false_eq_true, if_false, Bool.false_or]
        by_cases h : Lib.index r [46, 46] = -1
        · simp [h]
        · have : (Lib.index r [46, 46] == -1) = false := by simpa using h
          rw [this]
          simp only [Bool.false_eq_true, if_false]
          rw [Bool.eq_iff_iff]; simp; omega
    rw [hcont, dotsOk]
    have hlast : (c :: r).getLast? = if r.isEmpty then some c else r.getLast? := by cases r <;> simp
    rw [hlast]
    by_cases hc : c = 46
    · subst hc
      rw [if_pos rfl, ih true]
      cases r with
      | nil => simp
      | cons d r => cases p <;> cases hd : (d == 46) <;> simp_all [Bool.and_comm, Bool.and_assoc, Bool.and_left_comm]
    · have h1 : (c == 46) = false := by simpa using hc
      have h2 : (some c == some (46 : UInt8)) = false := by simpa using hc
      rw [if_neg hc, ih false]
      cases r with
      | nil => simp [h1, h2, Lib.contains, Lib.index, hc]
      | cons d r => simp [h1, h2, hc]
theorem strings_HasPrefix_eq (s t : Str) : strings_HasPrefix s t = some (t.isPrefixOf s) := by
  unfold strings_HasPrefix internal_stringslite_HasPrefix
  by_cases h : t.length ≤ s.length
  · have : decide ((t.length : Int) ≤ (s.length : Int)) = true := by simp; omega
    rw [this, cut_0n h]
    simp only [cond_true, Option.bind_some, Option.some.injEq]
    rw [Bool.eq_iff_iff, beq_iff_eq, List.isPrefixOf_iff_prefix, List.prefix_iff_eq_take]
    constructor <;> exact fun h => h.symm
  · have : decide ((t.length : Int) ≤ (s.length : Int)) = false := by simp; omega
    rw [this]
    simp only [cond_false, Option.bind_some, Option.some.injEq]
    symm
    rw [Bool.eq_false_iff]
    intro hp
    exact h (List.isPrefixOf_iff_prefix.1 hp).length_le
theorem strings_HasSuffix_eq (s t : Str) (hs : s.length ≤ 9223372036854775806) : strings_HasSuffix s t = some (t.isSuffixOf s) := by
  unfold strings_HasSuffix internal_stringslite_HasSuffix
  by_cases h : t.length ≤ s.length
  · have : decide ((t.length : Int) ≤ (s.length : Int)) = true := by simp; omega
    rw [this, w64_ns _ _ h (by omega), cut_nl (by omega)]
    simp only [cond_true, Option.bind_some, Option.some.injEq]
    rw [Bool.eq_iff_iff, beq_iff_eq, List.isSuffixOf_iff_suffix, List.suffix_iff_eq_drop]
    constructor <;> exact fun h => h.symm
  · have : decide ((t.length : Int) ≤ (s.length : Int)) = false := by simp; omega
    rw [this]
    simp only [cond_false, Option.bind_some, Option.some.injEq]
    symm
    rw [Bool.eq_false_iff]
    intro hp
    exact h (List.isSuffixOf_iff_suffix.1 hp).length_le
theorem dom_char (c : UInt8) : ((bif decide ((97 : UInt8) ≤ c) then (bif decide (c ≤ 122) then some true else (bif decide ((48 : UInt8) ≤ c) then (bif decide (c ≤ 57) then some true else (bif (c == 45) then some true else some (c == 46))) else (bif (c == 45) then some true else some (c == 46)))) else (bif decide ((48 : UInt8) ≤ c) then (bif decide (c ≤ 57) then some true else (bif (c == 45) then some true else some (c == 46))) else (bif (c == 45) then some true else some (c == 46)))) : Option Bool) = some (smallC c) := by
  unfold smallC
  cases decide ((97 : UInt8) ≤ c) <;> cases decide (c ≤ 122) <;> cases decide ((48 : UInt8) ≤ c) <;> cases decide (c ≤ 57) <;> cases (c == 45) <;> rfl
theorem envelope_Domain_eq (s : Str) (hs : s.length < 4294967281) : envelope_Domain s = some (domP s) := by
  have hloop : iter (envelope_Domain_l1 s) 0 = some ((firstI (fun _ c => if !smallC c then some () else none) 0 s).elim (.inl ()) .inr) := by
    refine iter_first s _ (Sum.inl ()) Sum.inr ?_ ?_
    · unfold envelope_Domain_l1; rw [dec_len]; rfl
    · intro i c hc
      have hi := lt_get hc
      unfold envelope_Domain_l1
      rw [dec_lt hc, idx_get hc]
      simp only [cond_true, Option.bind_some, u8_eq c 45 (by decide), u8_eq c 46 (by decide), u8_le1 97 c (by decide), u8_le2 122 c (by decide), u8_le1 48 c (by decide), u8_le2 57 c (by decide), dom_char]
      rw [show ((i : Int) + 1) = ((i + 1 : Nat) : Int) by omega, w64_n _ (by omega)]
      cases smallC c <;> rfl
  unfold envelope_Domain domP
  rw [hloop, firstI_any, dots_contains]
  by_cases hn : s = []
  · subst hn; simp
  · have h1 : (s != ([] : Str)) = true := by simpa using hn
    rw [h1]
    simp only [cond_true]
    by_cases hl : s.length ≤ 60
    · have h2 : decide ((s.length : Int) ≤ 60) = true := by simp; omega
      rw [h2]
      have hall : s.any (fun c => !smallC c) = !(s.all smallC) := by simp [List.not_all_eq_any_not]
      rw [hall]
      cases hg : s.all smallC with
      | false => simp [hl]
      | true =>
        simp only [Bool.not_true, Bool.false_eq_true, if_false, Option.elim, Option.bind_some, cond_true, strings_HasPrefix_eq, strings_HasSuffix_eq s [46] (by omega), strings_Contains, if_pos hs]
        have hp : ([46] : Str).isPrefixOf s = (s.head? == some 46) := by
          cases s with
          | nil => rfl
          | cons d r => simp only [List.isPrefixOf, List.head?_cons, Bool.and_true]; rw [Bool.eq_iff_iff]; simp; exact ⟨fun h => h.symm, fun h => h.symm⟩
        have hsf : ([46] : Str).isSuffixOf s = (s.getLast? == some 46) := by
          rw [Bool.eq_iff_iff, List.isSuffixOf_iff_suffix, beq_iff_eq]
          constructor
          · rintro ⟨t, rfl⟩; simp
          · intro h
            obtain ⟨ys, rfl⟩ := List.getLast?_eq_some_iff.1 h
            exact ⟨ys, rfl⟩
        have he : s.isEmpty = false := by simpa using hn
        rw [hp, hsf, he]
        cases s.head? == some 46 <;> cases s.getLast? == some 46 <;> cases Lib.contains s [46, 46] <;> simp [hl]
    · have h2 : decide ((s.length : Int) ≤ 60) = false := by simp; omega
      rw [h2]; simp [hl]
theorem indexByte_atP (s : Str) : Lib.index s [64] = if atP s < s.length then (atP s : Int) else -1 := by
  rw [Lib.index_one]
  unfold atP
  induction s with
  | nil => rfl
  | cons c r ih =>
    rw [Lib.indexByte, List.findIdx_cons]
    cases hc : (c == 64) with
    | true => simp
    | false =>
      simp only [Bool.false_eq_true, if_false, cond_false, List.length_cons]
      rw [ih]
      by_cases h : r.findIdx (· == 64) < r.length
      · simp only [if_pos h, if_pos (show r.findIdx (· == 64) + 1 < r.length + 1 by omega)]
        have : (((r.findIdx (· == 64) : Nat) : Int) == -1) = false := by rw [beq_eq_false_iff_ne]; omega
        rw [this]; simp
      · simp only [if_neg h, if_neg (show ¬ (r.findIdx (· == 64) + 1 < r.length + 1) by omega)]; simp
theorem cut_at (s : Str) : Lib.cut s [64] = if atP s < s.length then (s.take (atP s), s.drop (atP s + 1), true) else (s, [], false) := by
  unfold Lib.cut
  rw [indexByte_atP]
  by_cases h : atP s < s.length
  · rw [if_pos h, if_pos h, if_pos (by omega)]; simp
  · rw [if_neg h, if_neg h, if_neg (by omega)]
def splitP (s : Str) : Str × Str × Bool := if atP s < s.length then (s.take (atP s), s.drop (atP s + 1), addrP s) else (s, [], false)
theorem good_char (c : UInt8) : (lettC c || decide (0 ≤ Lib.indexByte [45, 95, 46, 43, 61] c)) = goodC c := by
  unfold goodC
  by_cases h1 : c = 45
  · subst h1; decide
  by_cases h2 : c = 95
  · subst h2; decide
  by_cases h3 : c = 46
  · subst h3; decide
  by_cases h4 : c = 43
  · subst h4; decide
  by_cases h5 : c = 61
  · subst h5; decide
  rw [beq_eq_false_iff_ne.2 h1, beq_eq_false_iff_ne.2 h2, beq_eq_false_iff_ne.2 h3, beq_eq_false_iff_ne.2 h4, beq_eq_false_iff_ne.2 h5]
  simp [Lib.indexByte, Ne.symm h1, Ne.symm h2, Ne.symm h3, Ne.symm h4, Ne.symm h5]
theorem envelope_Split_eq (s : Str) (hs : s.length < 4294967281) : envelope_Split s = some (splitP s) := by
  have hloop : ∀ v : Str × Str × Bool, v.1.length < 4294967281 → iter (envelope_Split_l1 v) 0 = some ((firstI (fun _ c => if !goodC c then some () else none) 0 v.1).elim (.inl ()) .inr) := by
    intro v hv
    refine iter_first v.1 _ (Sum.inl ()) Sum.inr ?_ ?_
    · unfold envelope_Split_l1; rw [dec_len]; rfl
    · intro i c hc
      have hi := lt_get hc
      unfold envelope_Split_l1
      rw [dec_lt hc, idx_get hc]
      simp only [cond_true, Option.bind_some, basic_Letter_eq, strings_IndexByte]
      rw [show ((i : Int) + 1) = ((i + 1 : Nat) : Int) by omega, w64_n _ (by omega)]
      have hg := good_char c
      cases hl : lettC c with
      | true => rw [hl] at hg; simp only [Bool.true_or] at hg; rw [← hg]; rfl
      | false => rw [hl] at hg; simp only [Bool.false_or] at hg; rw [← hg]; cases decide (0 ≤ Lib.indexByte [45, 95, 46, 43, 61] c) <;> rfl
  unfold envelope_Split strings_Cut
  rw [if_pos hs, cut_at]
  simp only [Option.bind_some]
  unfold splitP
  by_cases h : atP s < s.length
  · simp only [if_pos h, cond_true]
    rw [hloop _ (by simp; omega), firstI_any]
    have hall : (s.take (atP s)).any (fun c => !goodC c) = !((s.take (atP s)).all goodC) := by simp [List.not_all_eq_any_not]
    simp only [hall]
    have hlen : (s.take (atP s)).length = atP s := by simp; omega
    rw [hlen, envelope_Domain_eq _ (by simp; omega)]
    unfold addrP
    by_cases h0 : atP s = 0
    · simp [h0]
    · have hne : (s.take (atP s) != ([] : Str)) = true := by
        simp only [bne_iff_ne, ne_eq]
        intro hx
        have := congrArg List.length hx
        rw [hlen] at this; simp at this; omega
      rw [hne]
      by_cases h60 : atP s ≤ 60
      · have e : decide ((atP s : Int) ≤ 60) = true := by simp; omega
        rw [e]
        cases (s.take (atP s)).all goodC <;> simp [h, h60] <;> omega
      · have e : decide ((atP s : Int) ≤ 60) = false := by simp; omega
        rw [e]; simp [h60]
  · simp [if_neg h]
theorem addrP_split (s : Str) : (splitP s).2.2 = addrP s := by
  unfold splitP
  by_cases h : atP s < s.length
  · rw [if_pos h]
  · rw [if_neg h]; unfold addrP; simp [h]
theorem envelope_Address_eq (s : Str) (hs : s.length < 4294967281) : envelope_Address s = some (addrP s) := by
  unfold envelope_Address; rw [envelope_Split_eq s hs]; simp [addrP_split]

/-! ### small things -/
theorem R_Has_eq (l : List Str) (s : Str) (hl : l.length ≤ 9223372036854775806) : R_Has l s = some (l.contains s) := by
  unfold R_Has
  rw [iter_first l (fun _ x => if x == s then some true else none) (.inl ()) .inr, firstI_any]
  · simp only [Option.bind_some]
    have : l.any (fun x => x == s) = l.contains s := by
      rw [Bool.eq_iff_iff]; simp
    rw [this]
    cases l.contains s <;> rfl
  · unfold R_Has_l1; rw [dec_len]; rfl
  · intro i x hx
    have hi := lt_get hx
    unfold R_Has_l1
    rw [dec_lt hx, idx_get hx]
    simp only [cond_true, Option.bind_some]
    rw [show ((i : Int) + 1) = ((i + 1 : Nat) : Int) by omega, w64_n _ (by omega)]
    cases x == s <;> rfl
theorem R_AddressesOk_eq (l : List Str) (hl : l.length ≤ 9223372036854775806) (hs : ∀ s ∈ l, s.length ≤ 9223372036854775806) : R_AddressesOk l = some (l.all addrP) := by
  unfold R_AddressesOk
  rw [iter_first l (fun _ x => if !addrP x then some false else none) (.inl ()) .inr, firstI_any]
  · simp only [Option.bind_some]
    have : l.any (fun x => !addrP x) = !l.all addrP := by simp [List.not_all_eq_any_not]
    rw [this]
    cases l.all addrP <;> rfl
  · unfold R_AddressesOk_l1; rw [dec_len]; rfl
  · intro i x hx
    have hi := lt_get hx
    unfold R_AddressesOk_l1
    rw [dec_lt hx, idx_get hx]
    simp only [cond_true, Option.bind_some, R_AddressOk_eq x (hs x (List.mem_of_getElem? hx))]
    rw [show ((i : Int) + 1) = ((i + 1 : Nat) : Int) by omega, w64_n _ (by omega)]
    cases addrP x <;> rfl
theorem R_Strings_eq (a b : List Str) (ha : a.length ≤ 9223372036854775806) : R_Strings a b = some (a == b) := by
  unfold R_Strings
  by_cases hlen : a.length = b.length
  · have h1 : ((a.length : Int) != (b.length : Int)) = false := by rw [hlen]; simp
    rw [h1]
    simp only [cond_false]
    rw [iter_first a (fun i x => if b[i]? != some x then some false else none) (.inl ()) .inr]
    · simp only [Option.bind_some]
      cases hf : firstI (fun i x => if b[i]? != some x then some false else none) 0 a with
      | none =>
        rw [firstI_none] at hf
        have : a = b := by
          apply List.ext_getElem?
          intro i
          by_cases hi : i < a.length
          · have := hf i a[i] (List.getElem?_eq_getElem hi)
            rw [Nat.zero_add] at this
            rw [List.getElem?_eq_getElem hi]
            simp at this; exact this.symm
          · rw [List.getElem?_eq_none (by omega), List.getElem?_eq_none (by omega)]
        subst this; simp
      | some r =>
        obtain ⟨i, x, hx, hq⟩ := firstI_some hf
        rw [Nat.zero_add] at hq
        split at hq
        · cases hq
          rename_i hne
          have : (a == b) = false := by
            rw [beq_eq_false_iff_ne]
            rintro rfl
            rw [hx] at hne; simp at hne
          rw [this]; rfl
        · cases hq
    · unfold R_Strings_l1; rw [dec_len]; rfl
    · intro i x hx
      have hi := lt_get hx
      unfold R_Strings_l1
      have hib : i < b.length := by omega
      rw [dec_lt hx, idx_get hx, idx_lt hib, List.getElem?_eq_getElem hib]
      simp only [cond_true, Option.bind_some]
      rw [show ((i : Int) + 1) = ((i + 1 : Nat) : Int) by omega, w64_n _ (by omega)]
      by_cases hxb : x = b[i]
      · subst hxb; simp
      · have e1 : (x != b[i]) = true := by simpa using hxb
        have e2 : (some b[i] != some x) = true := by simp; exact fun h => hxb h.symm
        rw [e1, e2]; rfl
  · have h1 : ((a.length : Int) != (b.length : Int)) = true := by simp; omega
    rw [h1]
    simp only [cond_true]
    have : (a == b) = false := by rw [beq_eq_false_iff_ne]; rintro rfl; exact hlen rfl
    rw [this]
end Go.Proofs.Ytlpmbmilnoncdaa

/- Aliases: the plain functions, and what the typed functions compute. -/
namespace Go.Proofs.Ytlpmbmilnoncdaa
open Go.RowKit
set_option linter.unusedVariables false
set_option maxHeartbeats 1000000

/-! ### validation -/
def aliasQ (l : List TAlias) (i : Nat) (a : TAlias) : Option TFault :=
  if !addrP a.Address then some ⟨10, i⟩ else if decide (a.To.length < 1) || decide (60 < a.To.length) then some ⟨2, i⟩ else if !(a.To.all addrP) then some ⟨10, i⟩ else if (l.take i).any (fun x => x.Address == a.Address) then some ⟨7, i⟩ else none
def aliasF (l : List TAlias) : TFault := if 40 < l.length then ⟨2, -1⟩ else (firstI (aliasQ l) 0 l).getD ⟨0, 0⟩
def smallA (l : List TAlias) : Prop := l.length ≤ 1048576 ∧ ∀ a ∈ l, a.Address.length ≤ 1048576 ∧ a.To.length ≤ 1048576 ∧ ∀ s ∈ a.To, s.length ≤ 1048576

theorem first_idx {α : Type} (c : α → Bool) (l : List α) : ∀ n : Nat, decide ((0 : Int) ≤ (firstI (fun i x => if c x then some ((i : Nat) : Int) else none) n l).getD (-1)) = l.any c := by
  induction l with
  | nil => intro n; rfl
  | cons x l ih =>
    intro n
    unfold firstI
    cases hc : c x with
    | true => simp [hc]
    | false => simp only [Bool.false_eq_true, if_false, List.any_cons, hc, Bool.false_or]; exact ih (n + 1)
theorem elim_idx (o : Option Int) : Sum.elim (fun _ => some (-1)) (fun b => some b) (o.elim (Sum.inl ()) Sum.inr : Unit ⊕ Int) = some (o.getD (-1)) := by cases o <;> rfl
theorem sc (i : Nat) (h : i < 9223372036854775807) : w64 ((i : Int) + 1) = ((i + 1 : Nat) : Int) := by rw [show ((i : Int) + 1) = ((i + 1 : Nat) : Int) by omega, w64_n _ (by omega)]

theorem alias_Validate_eq (l : List TAlias) (hl : smallA l) : alias_Validate l = some (aliasF l) := by
  unfold alias_Validate aliasF
  by_cases h40 : 40 < l.length
  · have : decide ((40 : Int) < (l.length : Int)) = true := by simp; omega
    rw [this, if_pos h40]; rfl
  · have : decide ((40 : Int) < (l.length : Int)) = false := by simp; omega
    rw [this, if_neg h40]
    simp only [cond_false]
    rw [iter_first l (aliasQ l) (.inl ()) .inr]
    · simp only [Option.bind_some]
      cases firstI (aliasQ l) 0 l <;> rfl
    · unfold alias_Validate_l1; rw [dec_len]; rfl
    · intro i a ha
      have hi := lt_get ha
      obtain ⟨h1, h2, h3⟩ := hl.2 a (List.mem_of_getElem? ha)
      have hl2 : iter (alias_Validate_l2 a) 0 = some ((firstI (fun i x => if !addrP x then some ((i : Nat) : Int) else none) 0 a.To).elim (.inl ()) .inr) := by
        refine iter_first a.To _ (Sum.inl ()) Sum.inr ?_ ?_
        · unfold alias_Validate_l2; rw [dec_len]; rfl
        · intro k x hx
          have hk := lt_get hx
          have := h3 x (List.mem_of_getElem? hx)
          unfold alias_Validate_l2
          rw [dec_lt hx, idx_get hx]
          simp only [cond_true, Option.bind_some, envelope_Address_eq x (by omega), sc k (by omega)]
          cases addrP x <;> rfl
      have hl3 : ∀ v : List TAlias, v.length ≤ 1048576 → iter (alias_Validate_l3 a v) 0 = some ((firstI (fun i x => if x.Address == a.Address then some ((i : Nat) : Int) else none) 0 v).elim (.inl ()) .inr) := by
        intro v hv
        refine iter_first v _ (Sum.inl ()) Sum.inr ?_ ?_
        · unfold alias_Validate_l3; rw [dec_len]; rfl
        · intro k x hx
          have hk := lt_get hx
          unfold alias_Validate_l3
          rw [dec_lt hx, idx_get hx]
          simp only [cond_true, Option.bind_some, sc k (by omega)]
          cases x.Address == a.Address <;> rfl
      unfold alias_Validate_l1 aliasQ
      rw [dec_lt ha, idx_get ha]
      simp only [cond_true, Option.bind_some, envelope_Address_eq a.Address (by omega), hl2, cut_0n (Nat.le_of_lt hi), hl3 (l.take i) (by simp; omega), sc i (by omega), basic_Fault, elim_idx, first_idx]
      cases addrP a.Address with
      | false => rfl
      | true =>
        have e1 : decide ((a.To.length : Int) < 1) = decide (a.To.length < 1) := by rw [Bool.eq_iff_iff, decide_eq_true_eq, decide_eq_true_eq]; omega
        have e2 : decide ((60 : Int) < (a.To.length : Int)) = decide (60 < a.To.length) := by rw [Bool.eq_iff_iff]; simp; omega
        have e3 : a.To.any (fun x => !addrP x) = !a.To.all addrP := by simp [List.not_all_eq_any_not]
        rw [e1, e2, e3]
        cases decide (a.To.length < 1) <;> cases decide (60 < a.To.length) <;> cases a.To.all addrP <;> cases (l.take i).any (fun x => x.Address == a.Address) <;> rfl

theorem R_AliasesFault_eq (l : List TAlias) (hl : smallA l) : R_AliasesFault l = some (aliasF l) := by
  unfold R_AliasesFault aliasF
  by_cases h40 : 40 < l.length
  · have : decide ((40 : Int) < (l.length : Int)) = true := by simp; omega
    rw [this, if_pos h40]; rfl
  · have : decide ((40 : Int) < (l.length : Int)) = false := by simp; omega
    rw [this, if_neg h40]
    simp only [cond_false]
    rw [iter_first l (aliasQ l) (.inl ()) .inr]
    · simp only [Option.bind_some]
      cases firstI (aliasQ l) 0 l <;> rfl
    · unfold R_AliasesFault_l1; rw [dec_len]; rfl
    · intro i a ha
      have hi := lt_get ha
      obtain ⟨h1, h2, h3⟩ := hl.2 a (List.mem_of_getElem? ha)
      have hl2 : iter (R_AliasesFault_l2 l (i : Int)) 0 = some ((firstI (fun _ x => if x.Address == a.Address then some (⟨7, i⟩ : TFault) else none) 0 (l.take i)).elim (.inl ()) .inr) := by
        refine iter_first (l.take i) _ (Sum.inl ()) Sum.inr ?_ ?_
        · have : ((l.take i).length : Int) = (i : Int) := by simp; omega
          unfold R_AliasesFault_l2; rw [this]; simp
        · intro k x hx
          have hk := lt_get hx
          simp at hk
          have hx2 : l[k]? = some x := by rw [List.getElem?_take_of_lt (by omega)] at hx; exact hx
          unfold R_AliasesFault_l2
          have : decide ((k : Int) < (i : Int)) = true := by simp; omega
          rw [this, idx_get hx2, idx_get ha]
          simp only [cond_true, Option.bind_some, sc k (by omega), R_At]
          cases x.Address == a.Address <;> rfl
      unfold R_AliasesFault_l1 aliasQ
      rw [dec_lt ha, idx_get ha, hl2, firstI_any]
      simp only [cond_true, Option.bind_some, R_AddressOk_eq a.Address (by omega), R_In_eq, R_AddressesOk_eq a.To (by omega) (fun s hs => by have := h3 s hs; omega), sc i (by omega), R_At]
      cases addrP a.Address with
      | false => rfl
      | true =>
        have e1 : decide ((1 : Int) ≤ (a.To.length : Int)) = !decide (a.To.length < 1) := by rw [← decide_not, Bool.eq_iff_iff, decide_eq_true_eq, decide_eq_true_eq]; omega
        have e2 : decide ((a.To.length : Int) ≤ 60) = !decide (60 < a.To.length) := by rw [Bool.eq_iff_iff]; simp; omega
        rw [e1, e2]
        cases decide (a.To.length < 1) <;> cases decide (60 < a.To.length) <;> cases a.To.all addrP <;> cases (l.take i).any (fun x => x.Address == a.Address) <;> rfl
/-- what validation gives -/
structure AliasOk (l : List TAlias) : Prop where
  n : l.length ≤ 40
  addr : ∀ a ∈ l, addrP a.Address = true ∧ 1 ≤ a.To.length ∧ a.To.length ≤ 60 ∧ ∀ s ∈ a.To, addrP s = true
  once : ∀ (i j : Nat) (a b : TAlias), i < j → l[i]? = some a → l[j]? = some b → a.Address ≠ b.Address
theorem aliasF_ok {l : List TAlias} (h : (aliasF l).Code = 0) : AliasOk l ∧ aliasF l = ⟨0, 0⟩ := by
  unfold aliasF at h ⊢
  split at h
  · cases h
  · rename_i h40
    rw [if_neg h40]
    cases hf : firstI (aliasQ l) 0 l with
    | some f =>
      rw [hf] at h
      obtain ⟨i, a, _, hq⟩ := firstI_some hf
      unfold aliasQ at hq
      split at hq
      · cases hq; cases h
      · split at hq
        · cases hq; cases h
        · split at hq
          · cases hq; cases h
          · split at hq
            · cases hq; cases h
            · cases hq
    | none =>
      rw [firstI_none] at hf
      have key : ∀ (i : Nat) a, l[i]? = some a → addrP a.Address = true ∧ 1 ≤ a.To.length ∧ a.To.length ≤ 60 ∧ a.To.all addrP = true ∧ (l.take i).any (fun x => x.Address == a.Address) = false := by
        intro i a ha
        have hq := hf i a ha
        unfold aliasQ at hq
        split at hq
        · cases hq
        · rename_i q1
          split at hq
          · cases hq
          · rename_i q2
            split at hq
            · cases hq
            · rename_i q3
              split at hq
              · cases hq
              · rename_i q4
                simp only [Bool.or_eq_true, decide_eq_true_eq, not_or] at q2
                refine ⟨by simpa using q1, by omega, by omega, by simpa using q3, by simpa using q4⟩
      refine ⟨⟨by omega, fun a ha => ?_, fun i j a b hij ha hb => ?_⟩, rfl⟩
      · obtain ⟨i, hi⟩ := List.getElem?_of_mem ha
        obtain ⟨k1, k2, k3, k4, _⟩ := key i a hi
        exact ⟨k1, k2, k3, by simpa using k4⟩
      · have := (key j b hb).2.2.2.2
        rw [List.any_eq_false] at this
        have h2 := this a (List.mem_of_getElem? (i := i) (by rw [List.getElem?_take_of_lt hij]; exact ha))
        simpa using h2
end Go.Proofs.Ytlpmbmilnoncdaa

/- Aliases: the search, and what the typed functions compute. -/
namespace Go.Proofs.Ytlpmbmilnoncdaa
open Go.RowKit
set_option linter.unusedVariables false
set_option maxHeartbeats 1000000

/-! ### lists without repetition -/
def add1 (o : List Str) (x : Str) : List Str := if o.contains x then o else o ++ [x]
def addNew (o xs : List Str) : List Str := xs.foldl add1 o
theorem add1_mem (o : List Str) (x y : Str) : y ∈ add1 o x ↔ y ∈ o ∨ y = x := by
  unfold add1
  split
  · rename_i h
    simp at h
    constructor
    · exact .inl
    · rintro (h1 | rfl)
      · exact h1
      · exact h
  · simp
theorem add1_prefix (o : List Str) (x : Str) : o <+: add1 o x := by
  unfold add1; split
  · exact List.prefix_refl _
  · exact List.prefix_append _ _
theorem add1_nodup {o : List Str} (h : o.Nodup) (x : Str) : (add1 o x).Nodup := by
  unfold add1; split
  · exact h
  · rename_i hx
    simp at hx
    rw [List.nodup_append]
    exact ⟨h, by simp, fun a ha b hb hab => by simp at hb; subst hb; subst hab; exact hx ha⟩
theorem add1_len (o : List Str) (x : Str) : (add1 o x).length ≤ o.length + 1 := by unfold add1; split <;> simp
theorem addNew_mem (xs : List Str) : ∀ (o : List Str) (y : Str), y ∈ addNew o xs ↔ y ∈ o ∨ y ∈ xs := by
  induction xs with
  | nil => intro o y; simp [addNew]
  | cons x xs ih => intro o y; show y ∈ addNew (add1 o x) xs ↔ _; rw [ih, add1_mem]; simp [or_assoc]
theorem addNew_prefix (xs : List Str) : ∀ o : List Str, o <+: addNew o xs := by
  induction xs with
  | nil => intro o; exact List.prefix_refl _
  | cons x xs ih => intro o; exact (add1_prefix o x).trans (ih _)
theorem addNew_nodup (xs : List Str) : ∀ {o : List Str}, o.Nodup → (addNew o xs).Nodup := by
  induction xs with
  | nil => intro o h; exact h
  | cons x xs ih => intro o h; exact ih (add1_nodup h x)
theorem nodup_le {l m : List Str} (hl : l.Nodup) (h : ∀ x ∈ l, x ∈ m) : l.length ≤ m.length := by
  induction l generalizing m with
  | nil => simp
  | cons x l ih =>
    have hx : x ∈ m := h x (by simp)
    obtain ⟨hxl, hl'⟩ := List.nodup_cons.1 hl
    have := ih (m := m.erase x) hl' (fun y hy => by
      have hne : y ≠ x := by rintro rfl; exact hxl hy
      exact (List.mem_erase_of_ne hne).2 (h y (by simp [hy])))
    rw [List.length_erase_of_mem hx] at this
    have : 0 < m.length := List.length_pos_of_mem hx
    simp; omega

/-! ### the search -/
def tgtO (l : List TAlias) (s : Str) : Option (List Str) := (l.find? (fun a => a.Address == s)).map (·.To)
def tgt (l : List TAlias) (s : Str) : List Str := (tgtO l s).getD []
def bfs (l : List TAlias) : Nat → Nat → List Str → List Str
  | 0, _, out => out
  | n + 1, k, out => match out[k]? with | none => out | some s => bfs l n (k + 1) (addNew out (tgt l s))
def univ (l : List TAlias) (from_ : List Str) : List Str := from_ ++ l.flatMap (·.To)
def reached (l : List TAlias) (from_ : List Str) : List Str := bfs l ((univ l from_).length + 1) 0 (addNew [] from_)
theorem tgt_sub (l : List TAlias) (s x : Str) (h : x ∈ tgt l s) : ∃ a ∈ l, a.Address = s ∧ x ∈ a.To := by
  unfold tgt tgtO at h
  cases hf : l.find? (fun a => a.Address == s) with
  | none => rw [hf] at h; simp at h
  | some a =>
    rw [hf] at h
    have := List.find?_some hf
    exact ⟨a, List.mem_of_find?_eq_some hf, by simpa using this, by simpa using h⟩
/-- what holds of the list during the search -/
structure Inv (l : List TAlias) (U : List Str) (k : Nat) (out : List Str) : Prop where
  nd : out.Nodup
  sub : ∀ x ∈ out, x ∈ U
  le : k ≤ out.length
theorem Inv.len {l : List TAlias} {U : List Str} {k : Nat} {out : List Str} (h : Inv l U k out) : out.length ≤ U.length := nodup_le h.nd h.sub
theorem Inv.step {l : List TAlias} {from_ : List Str} {k : Nat} {out : List Str} (h : Inv l (univ l from_) k out) {s : Str} (hs : out[k]? = some s) : Inv l (univ l from_) (k + 1) (addNew out (tgt l s)) := by
  refine ⟨addNew_nodup _ h.nd, fun x hx => ?_, ?_⟩
  · rcases (addNew_mem _ _ _).1 hx with h1 | h1
    · exact h.sub x h1
    · obtain ⟨a, ha, _, hxa⟩ := tgt_sub l s x h1
      exact List.mem_append.2 (.inr (List.mem_flatMap.2 ⟨a, ha, hxa⟩))
  · have := (addNew_prefix (tgt l s) out).length_le
    have := lt_get hs
    omega
theorem Inv.start (l : List TAlias) (from_ : List Str) : Inv l (univ l from_) 0 (addNew [] from_) :=
  ⟨addNew_nodup _ List.nodup_nil, fun x hx => by
    rcases (addNew_mem _ _ _).1 hx with h1 | h1
    · simp at h1
    · exact List.mem_append.2 (.inl h1), Nat.zero_le _⟩
/-- the search is over -/
theorem bfs_spec (l : List TAlias) (from_ : List Str) : ∀ (n k : Nat) (out : List Str), Inv l (univ l from_) k out → (univ l from_).length + 1 ≤ n + k →
    ∃ m, Inv l (univ l from_) m (bfs l n k out) ∧ m = (bfs l n k out).length ∧ out <+: bfs l n k out := by
  intro n
  induction n with
  | zero => intro k out h hn; have := h.len; have := h.le; omega
  | succ n ih =>
    intro k out h hn
    unfold bfs
    cases hs : out[k]? with
    | none =>
      have : out.length ≤ k := List.getElem?_eq_none_iff.1 hs
      have hk : k = out.length := by have := h.le; omega
      exact ⟨k, h, hk, List.prefix_refl _⟩
    | some s =>
      obtain ⟨m, h1, h2, h3⟩ := ih (k + 1) _ (h.step hs) (by omega)
      exact ⟨m, h1, h2, (addNew_prefix _ _).trans h3⟩
/-- reached from some addresses -/
inductive Gets (l : List TAlias) (from_ : List Str) : Str → Prop
  | base {x : Str} (h : x ∈ from_) : Gets l from_ x
  | step {x y : Str} (h : Gets l from_ x) (hy : y ∈ tgt l x) : Gets l from_ y
theorem bfs_sound (l : List TAlias) (from_ : List Str) : ∀ (n k : Nat) (out : List Str), (∀ x ∈ out, Gets l from_ x) → ∀ x ∈ bfs l n k out, Gets l from_ x := by
  intro n
  induction n with
  | zero => intro k out h; exact h
  | succ n ih =>
    intro k out h
    unfold bfs
    cases hs : out[k]? with
    | none => exact h
    | some s =>
      refine ih (k + 1) _ fun x hx => ?_
      rcases (addNew_mem _ _ _).1 hx with h1 | h1
      · exact h x h1
      · exact .step (h s (List.mem_of_getElem? hs)) h1
theorem bfs_closed (l : List TAlias) (from_ : List Str) : ∀ (n k : Nat) (out : List Str), Inv l (univ l from_) k out → (univ l from_).length + 1 ≤ n + k → (∀ x ∈ out.take k, ∀ y ∈ tgt l x, y ∈ out) →
    ∀ x ∈ bfs l n k out, ∀ y ∈ tgt l x, y ∈ bfs l n k out := by
  intro n
  induction n with
  | zero => intro k out h hn; have := h.len; have := h.le; omega
  | succ n ih =>
    intro k out h hn hc
    unfold bfs
    cases hs : out[k]? with
    | none =>
      have : out.length ≤ k := List.getElem?_eq_none_iff.1 hs
      rw [List.take_of_length_le this] at hc
      exact hc
    | some s =>
      refine ih (k + 1) _ (h.step hs) (by omega) fun x hx y hy => ?_
      have hpre := addNew_prefix (tgt l s) out
      have hlt := lt_get hs
      have htk : (addNew out (tgt l s)).take (k + 1) = out.take k ++ [s] := by
        obtain ⟨t, ht⟩ := hpre
        rw [← ht, List.take_append_of_le_length (by omega), List.take_add_one, hs]; rfl
      rw [htk] at hx
      rcases List.mem_append.1 hx with h1 | h1
      · exact (addNew_mem _ _ _).2 (.inl (hc x h1 y hy))
      · simp at h1; subst h1; exact (addNew_mem _ _ _).2 (.inr hy)
theorem reached_iff (l : List TAlias) (from_ : List Str) (x : Str) : x ∈ reached l from_ ↔ Gets l from_ x := by
  constructor
  · refine bfs_sound l from_ _ 0 _ (fun y hy => ?_) x
    rcases (addNew_mem _ _ _).1 hy with h | h
    · simp at h
    · exact .base h
  · intro h
    obtain ⟨m, _, _, hp⟩ := bfs_spec l from_ ((univ l from_).length + 1) 0 _ (Inv.start l from_) (by omega)
    induction h with
    | base h => exact hp.subset ((addNew_mem _ _ _).2 (.inr h))
    | step _ hy ih => exact bfs_closed l from_ ((univ l from_).length + 1) 0 _ (Inv.start l from_) (by omega) (by simp) _ ih _ hy
theorem reached_nodup (l : List TAlias) (from_ : List Str) : (reached l from_).Nodup := by
  obtain ⟨m, h, _, _⟩ := bfs_spec l from_ ((univ l from_).length + 1) 0 _ (Inv.start l from_) (by omega)
  exact h.nd
theorem reached_len (l : List TAlias) (from_ : List Str) : (reached l from_).length ≤ (univ l from_).length := by
  obtain ⟨m, h, _, _⟩ := bfs_spec l from_ ((univ l from_).length + 1) 0 _ (Inv.start l from_) (by omega)
  exact h.len

/-! ### the reference -/
theorem R_targets_eq (l : List TAlias) (s : Str) (hl : l.length ≤ 1048576) : R_targets l s = some ((tgtO l s).getD [], (tgtO l s).isSome) := by
  unfold R_targets
  rw [iter_first l (fun _ a => if a.Address == s then some (a.To, true) else none) (.inl ()) .inr]
  · simp only [Option.bind_some]
    have : firstI (fun _ (a : TAlias) => if a.Address == s then some (a.To, true) else none) 0 l = (tgtO l s).map fun t => (t, true) := by
      unfold tgtO
      have key : ∀ (l : List TAlias) (n : Nat), firstI (fun _ (a : TAlias) => if a.Address == s then some (a.To, true) else none) n l = ((l.find? (fun a => a.Address == s)).map (·.To)).map fun t => (t, true) := by
        intro l
        induction l with
        | nil => intro n; rfl
        | cons a l ih =>
          intro n
          unfold firstI
          rw [List.find?_cons]
          cases a.Address == s with
          | true => rfl
          | false => exact ih (n + 1)
      exact key l 0
    rw [this]
    cases tgtO l s <;> rfl
  · unfold R_targets_l1; rw [dec_len]; rfl
  · intro i a ha
    have hi := lt_get ha
    unfold R_targets_l1
    rw [dec_lt ha, idx_get ha]
    simp only [cond_true, Option.bind_some, sc i (by omega)]
    cases a.Address == s <;> rfl
theorem addloop {body : Int × List Str → Option (Step (Int × List Str) (List Str))} (xs : List Str) (hx : xs.length ≤ 1048576)
    (hl : ∀ o : List Str, body ((xs.length : Int), o) = some (.out o)) (hs : ∀ (i : Nat) x o, xs[i]? = some x → o.length ≤ 4194304 → body ((i : Int), o) = some (.cont (((i + 1 : Nat) : Int), add1 o x)))
    (o : List Str) (ho : o.length ≤ 2097152) : iter body (0, o) = some (addNew o xs) := by
  have := (iter_fold xs (fun i o => (i, o)) add1 (fun o => o) (fun i (q : List Str) => q.length ≤ o.length + i) (body := body) (fun q _ => hl q) (fun i x q hxi hq => ⟨hs i x q hxi (by have := lt_get hxi; omega), by have := add1_len q x; omega⟩) o (by simp)).1
  exact this
theorem R_Reached_eq (l : List TAlias) (from_ : List Str) (hl : l.length ≤ 1048576) (hto : ∀ a ∈ l, a.To.length ≤ 1048576) (hf : from_.length ≤ 1048576) (hU : (univ l from_).length ≤ 2097152) : R_Reached l from_ = some (reached l from_) := by
  have has : ∀ (o : List Str) (x : Str), o.length ≤ 4194304 → R_Has o x = some (o.contains x) := fun o x ho => R_Has_eq o x (by omega)
  have happ : ∀ (o : List Str) (x : Str), o.length ≤ 4194304 → app 8796093022208 o [x] = some (o ++ [x]) := fun o x ho => app_ok (by simp; omega)
  have h1 : iter (R_Reached_l1 from_) (0, ([] : List Str)) = some (addNew [] from_) := by
    refine addloop from_ hf (fun o => by unfold R_Reached_l1; rw [dec_len]; rfl) (fun i x o hx ho => ?_) [] (by simp)
    have hi := lt_get hx
    unfold R_Reached_l1
    rw [dec_lt hx, idx_get hx]
    simp only [cond_true, Option.bind_some, has o x ho, happ o x ho, sc i (by omega)]
    unfold add1
    cases o.contains x <;> rfl
  have h3 : ∀ (v : List Str × Bool) (o : List Str), v.1.length ≤ 1048576 → o.length ≤ 2097152 → iter (R_Reached_l3 v) (0, o) = some (addNew o v.1) := by
    intro v o hv ho
    refine addloop v.1 hv (fun o => by unfold R_Reached_l3; rw [dec_len]; rfl) (fun i x o hx ho => ?_) o ho
    have hi := lt_get hx
    unfold R_Reached_l3
    rw [dec_lt hx, idx_get hx]
    simp only [cond_true, Option.bind_some, has o x ho, happ o x ho, sc i (by omega)]
    unfold add1
    cases o.contains x <;> rfl
  have htl : ∀ s, (tgt l s).length ≤ 1048576 := by
    intro s
    unfold tgt tgtO
    cases hf : l.find? (fun a => a.Address == s) with
    | none => simp
    | some a => exact hto a (List.mem_of_find?_eq_some hf)
  have h2 : ∀ (n k : Nat) (out : List Str), Inv l (univ l from_) k out → (univ l from_).length + 1 ≤ n + k → iter (R_Reached_l2 l) ((k : Int), out) = some (bfs l n k out) := by
    intro n
    induction n with
    | zero => intro k out h hn; have := h.len; have := h.le; omega
    | succ n ih =>
      intro k out h hn
      have hlen := h.len
      unfold bfs
      cases hs : out[k]? with
      | none =>
        have : out.length ≤ k := List.getElem?_eq_none_iff.1 hs
        refine iter_out ?_
        unfold R_Reached_l2
        have : decide ((k : Int) < (out.length : Int)) = false := by simp; omega
        rw [this]; rfl
      | some s =>
        have hk := lt_get hs
        have hb : R_Reached_l2 l ((k : Int), out) = some (.cont (((k + 1 : Nat) : Int), addNew out (tgt l s))) := by
          unfold R_Reached_l2
          rw [dec_lt hs, idx_get hs]
          simp only [cond_true, Option.bind_some, R_targets_eq l s hl]
          rw [h3 _ out (htl s) (by omega)]
          simp only [Option.bind_some, sc k (by omega)]
          rfl
        rw [iter_cont hb]
        exact ih (k + 1) _ (h.step hs) (by omega)
  unfold R_Reached
  rw [h1]
  simp only [Option.bind_some]
  have := h2 ((univ l from_).length + 1) 0 _ (Inv.start l from_) (by omega)
  rw [show ((0 : Nat) : Int) = 0 from rfl] at this
  rw [this]; rfl
end Go.Proofs.Ytlpmbmilnoncdaa

/- Aliases: what the program's expansion and loops compute. -/
namespace Go.Proofs.Ytlpmbmilnoncdaa
open Go.RowKit
set_option linter.unusedVariables false
set_option maxHeartbeats 1000000

def seenOf (o : List Str) : List (Str × Bool) := o.map fun s => (s, true)
theorem mget_seen (o : List Str) (x : Str) : (mget (seenOf o) x).getD false = o.contains x := by
  induction o with
  | nil => rfl
  | cons y o ih =>
    show (mget ((y, true) :: seenOf o) x).getD false = _
    unfold mget
    rw [List.contains_cons]
    by_cases h : y = x
    · subst h; simp
    · have h1 : (y == x) = false := by simpa using h
      have h2 : (x == y) = false := by simpa using fun h' => h h'.symm
      rw [h1, h2]; simpa using ih
theorem mput_seen (o : List Str) (x : Str) (h : o.contains x = false) : mput (seenOf o) x true = seenOf (o ++ [x]) := by
  induction o with
  | nil => rfl
  | cons y o ih =>
    rw [List.contains_cons, Bool.or_eq_false_iff] at h
    show mput ((y, true) :: seenOf o) x true = _
    unfold mput
    have h1 : (y == x) = false := by simpa using fun h' : y = x => by simp [h'] at h
    rw [h1]
    simp only [Bool.false_eq_true, if_false]
    rw [ih h.2]; rfl
/-- one address comes up -/
def find1 (p : List Str × List (Str × Bool)) (x : Str) : List Str × List (Str × Bool) := if !((mget p.2 x).getD false) then (p.1 ++ [x], mput p.2 x true) else p
theorem find1_eq (o : List Str) (k : Nat) (x : Str) (hk : k ≤ o.length) : find1 (o.drop k, seenOf o) x = ((add1 o x).drop k, seenOf (add1 o x)) := by
  unfold find1 add1
  simp only [mget_seen]
  cases h : o.contains x with
  | true => simp
  | false => simp [mput_seen o x h, List.drop_append_of_le_length hk]
theorem find_eq (xs : List Str) : ∀ (o : List Str) (k : Nat), k ≤ o.length → xs.foldl find1 (o.drop k, seenOf o) = ((addNew o xs).drop k, seenOf (addNew o xs)) := by
  induction xs with
  | nil => intro o k _; rfl
  | cons x xs ih =>
    intro o k hk
    show xs.foldl find1 (find1 (o.drop k, seenOf o) x) = _
    rw [find1_eq o k x hk]
    exact ih (add1 o x) k (Nat.le_trans hk (add1_prefix o x).length_le)
theorem findloop {body : Int × List Str × List (Str × Bool) → Option (Step (Int × List Str × List (Str × Bool)) (List Str × List (Str × Bool)))} (xs : List Str) (hx : xs.length ≤ 1048576)
    (hl : ∀ p : List Str × List (Str × Bool), body ((xs.length : Int), p) = some (.out p)) (hs : ∀ (i : Nat) x (p : List Str × List (Str × Bool)), xs[i]? = some x → p.1.length ≤ 4194304 → body ((i : Int), p) = some (.cont (((i + 1 : Nat) : Int), find1 p x)))
    (o : List Str) (k : Nat) (hk : k ≤ o.length) (ho : o.length ≤ 2097152) : iter body (0, o.drop k, seenOf o) = some ((addNew o xs).drop k, seenOf (addNew o xs)) := by
  have hlen : ∀ (p : List Str × List (Str × Bool)) x, (find1 p x).1.length ≤ p.1.length + 1 := by intro p x; unfold find1; split <;> simp
  have := (iter_fold xs (fun i p => (i, p)) find1 (fun p => p) (fun i p => p.1.length ≤ o.length + i) (body := body) (fun q _ => hl q) (fun i x q hxi hq => ⟨hs i x q hxi (by have := lt_get hxi; omega), by have := hlen q x; omega⟩) (o.drop k, seenOf o) (by simp)).1
  rw [find_eq xs o k hk] at this
  exact this
theorem find_step (xs : List Str) (p : List Str × List (Str × Bool)) (x : Str) (hp : p.1.length ≤ 4194304) (i : Nat) (hi : i < 1048577) :
    ((bif (!((mget p.2 x).getD false)) then (app 8796093022208 p.1 ([x] : List Str)).bind fun v31 => some (v31, mput p.2 x true) else some (p.1, p.2)) : Option (List Str × List (Str × Bool))) = some (find1 p x) := by
  unfold find1
  cases (mget p.2 x).getD false with
  | true => rfl
  | false =>
    simp only [Bool.not_false, cond_true, if_true]
    rw [app_ok (by simp; omega)]; rfl

/-! ### the table -/
def tab (l : List TAlias) : List (Str × List Str) := l.foldl (fun m a => mput m a.Address a.To) []
theorem mget_mput (m : List (Str × List Str)) (k : Str) (v : List Str) (x : Str) : mget (mput m k v) x = if k == x then some v else mget m x := by
  induction m with
  | nil => rfl
  | cons p m ih =>
    obtain ⟨k', v'⟩ := p
    unfold mput
    by_cases h : k' = k
    · subst h
      simp only [beq_self_eq_true, if_true, mget]
      cases k' == x <;> simp
    · have h1 : (k' == k) = false := by simpa using h
      rw [h1]
      simp only [Bool.false_eq_true, if_false, mget]
      rw [ih]
      by_cases h2 : k' = x
      · subst h2
        have : (k == k') = false := by simpa using fun h' => h h'.symm
        simp [this]
      · have : (k' == x) = false := by simpa using h2
        rw [this]; simp
theorem mget_tab (l : List TAlias) (s : Str) : ∀ m, mget (l.foldl (fun m a => mput m a.Address a.To) m) s = match (l.reverse.find? (fun a => a.Address == s)) with | some a => some a.To | none => mget m s := by
  induction l with
  | nil => intro m; rfl
  | cons a l ih =>
    intro m
    rw [List.foldl_cons, ih, List.reverse_cons, List.find?_append, mget_mput]
    cases l.reverse.find? (fun a => a.Address == s) with
    | some b => rfl
    | none =>
      simp only [Option.none_or, List.find?_cons]
      cases a.Address == s <;> simp
theorem tab_eq {l : List TAlias} (ok : AliasOk l) (s : Str) : mget (tab l) s = tgtO l s := by
  unfold tab tgtO
  rw [mget_tab]
  have : l.reverse.find? (fun a => a.Address == s) = l.find? (fun a => a.Address == s) := by
    cases hr : l.reverse.find? (fun a => a.Address == s) with
    | none =>
      rw [List.find?_eq_none] at hr
      symm
      rw [List.find?_eq_none]
      intro x hx
      exact hr x (by simpa using hx)
    | some a =>
      have ha1 := List.find?_some hr
      have ha2 : a ∈ l := by simpa using List.mem_of_find?_eq_some hr
      cases hf : l.find? (fun a => a.Address == s) with
      | none =>
        rw [List.find?_eq_none] at hf
        exact absurd ha1 (hf a ha2)
      | some b =>
        have hb1 := List.find?_some hf
        have hb2 := List.mem_of_find?_eq_some hf
        obtain ⟨i, hi⟩ := List.getElem?_of_mem ha2
        obtain ⟨j, hj⟩ := List.getElem?_of_mem hb2
        simp only [beq_iff_eq] at ha1 hb1
        have : i = j := by
          rcases Nat.lt_trichotomy i j with h | h | h
          · exact absurd (ha1.trans hb1.symm) (ok.once i j a b h hi hj)
          · exact h
          · exact absurd (hb1.trans ha1.symm) (ok.once j i b a h hj hi)
        subst this
        rw [hi] at hj; cases hj; rfl
  rw [this]
  cases l.find? (fun a => a.Address == s) <;> rfl
theorem tgtO_ne {l : List TAlias} (ok : AliasOk l) {s : Str} {t : List Str} (h : tgtO l s = some t) : t ≠ [] ∧ t.length ≤ 60 := by
  unfold tgtO at h
  cases hf : l.find? (fun a => a.Address == s) with
  | none => rw [hf] at h; cases h
  | some a =>
    rw [hf] at h; cases h
    obtain ⟨_, h1, h2, _⟩ := ok.addr a (List.mem_of_find?_eq_some hf)
    exact ⟨by intro h; have h : a.To = [] := h; rw [h] at h1; simp at h1, h2⟩
theorem tabloop {body : Int × List (Str × List Str) → Option (Step (Int × List (Str × List Str)) (List (Str × List Str)))} (l : List TAlias)
    (hl : ∀ m, body ((l.length : Int), m) = some (.out m)) (hs : ∀ (i : Nat) a m, l[i]? = some a → body ((i : Int), m) = some (.cont (((i + 1 : Nat) : Int), mput m a.Address a.To))) : iter body (0, []) = some (tab l) :=
  (iter_fold l (fun i m => (i, m)) (fun m (a : TAlias) => mput m a.Address a.To) (fun m => m) (fun _ _ => True) (body := body) (fun q _ => hl q) (fun i x q hxi _ => ⟨hs i x q hxi, trivial⟩) [] trivial).1

theorem univ_len {l : List TAlias} (ok : AliasOk l) (from_ : List Str) : (univ l from_).length ≤ from_.length + 2400 := by
  unfold univ
  have key : ∀ m : List TAlias, (∀ a ∈ m, a.To.length ≤ 60) → (m.flatMap (·.To)).length ≤ 60 * m.length := by
    intro m
    induction m with
    | nil => simp
    | cons a m ih =>
      intro h
      have h1 := h a (by simp)
      have h2 := ih (fun b hb => h b (by simp [hb]))
      simp only [List.flatMap_cons, List.length_append, List.length_cons]
      omega
  have := key l (fun a ha => (ok.addr a ha).2.2.1)
  have := ok.n
  simp only [List.length_append]
  omega
theorem drop_cons {α : Type} {l : List α} {k : Nat} {x : α} (h : l[k]? = some x) : l.drop k = x :: l.drop (k + 1) := by
  have hk := lt_get h
  rw [List.drop_eq_getElem_cons hk]
  congr 1
  exact (List.getElem?_eq_some_iff.1 h).2
theorem get_prefix {α : Type} {l m : List α} (h : l <+: m) {k : Nat} {x : α} (hx : l[k]? = some x) : m[k]? = some x := by
  obtain ⟨t, rfl⟩ := h
  rw [List.getElem?_append_left (lt_get hx)]; exact hx
def isTarget (l : List TAlias) (s : Str) : Bool := (tgtO l s).isNone

theorem Expand_loop {l : List TAlias} (ok : AliasOk l) (from_ : List Str) (hf : from_.length ≤ 1048576) : ∀ (n k : Nat) (out acc : List Str), Inv l (univ l from_) k out → (univ l from_).length + 1 ≤ n + k → acc.length ≤ k →
    iter (alias_Expand_l4 (tab l) (tab l)) (out.drop k, seenOf out, acc) = some (acc ++ ((bfs l n k out).drop k).filter (isTarget l)) := by
  have hU := univ_len ok from_
  intro n
  induction n with
  | zero => intro k out acc h hn; have := h.len; have := h.le; omega
  | succ n ih =>
    intro k out acc h hn hacc
    have hlen := h.len
    unfold bfs
    cases hs : out[k]? with
    | none =>
      have hk : out.length ≤ k := List.getElem?_eq_none_iff.1 hs
      have hd : out.drop k = [] := List.drop_eq_nil_of_le hk
      refine iter_out ?_
      unfold alias_Expand_l4
      rw [hd]; simp
    | some s =>
      have hk := lt_get hs
      have hd := drop_cons hs
      obtain ⟨m, hm1, hm2, hm3⟩ := bfs_spec l from_ n (k + 1) _ (h.step hs) (by omega)
      have hget := get_prefix ((addNew_prefix (tgt l s) out).trans hm3) hs
      have hstep := h.step hs
      have hb : alias_Expand_l4 (tab l) (tab l) (out.drop k, seenOf out, acc) = some (.cont ((addNew out (tgt l s)).drop (k + 1), seenOf (addNew out (tgt l s)), if isTarget l s then acc ++ [s] else acc)) := by
        unfold alias_Expand_l4
        rw [hd]
        have e0 : decide ((0 : Int) < (((s :: out.drop (k + 1)).length : Nat) : Int)) = true := by simp
        simp only [e0, cond_true, idx_lit, List.getElem?_cons_zero, Option.bind_some]
        rw [show ((1 : Int)) = ((1 : Nat) : Int) from rfl, cut_nl (by simp)]
        simp only [Option.bind_some, List.drop_succ_cons, List.drop_zero]
        have h5 : ∀ xs : List Str, (mget (tab l) s).getD [] = xs → xs.length ≤ 60 → iter (alias_Expand_l5 (tab l) s) (0, out.drop (k + 1), seenOf out) = some ((addNew out xs).drop (k + 1), seenOf (addNew out xs)) := by
          intro xs hxs hxl
          refine findloop xs (by omega) (fun p => ?_) (fun i x p hx hp => ?_) out (k + 1) (by omega) (by omega)
          · unfold alias_Expand_l5; rw [hxs, dec_len]; rfl
          · have hi := lt_get hx
            unfold alias_Expand_l5
            rw [hxs, dec_lt hx, idx_get hx]
            simp only [cond_true, Option.bind_some, sc i (by omega)]
            rw [find_step xs p x hp i (by omega)]; rfl
        have h6 : ∀ xs : List Str, (mget (tab l) s).getD [] = xs → xs.length ≤ 60 → iter (alias_Expand_l6 (tab l) s) (0, out.drop (k + 1), seenOf out) = some ((addNew out xs).drop (k + 1), seenOf (addNew out xs)) := by
          intro xs hxs hxl
          refine findloop xs (by omega) (fun p => ?_) (fun i x p hx hp => ?_) out (k + 1) (by omega) (by omega)
          · unfold alias_Expand_l6; rw [hxs, dec_len]; rfl
          · have hi := lt_get hx
            unfold alias_Expand_l6
            rw [hxs, dec_lt hx, idx_get hx]
            simp only [cond_true, Option.bind_some, sc i (by omega)]
            rw [find_step xs p x hp i (by omega)]; rfl
        have htab := tab_eq ok s
        unfold tgt isTarget
        cases ht : tgtO l s with
        | none =>
          rw [ht] at htab
          rw [htab]
          simp only [optElim]
          rw [app_ok (by simp; omega)]
          simp only [Option.bind_some]
          rw [h6 [] (by rw [htab]; rfl) (by simp)]
          rfl
        | some t =>
          rw [ht] at htab
          obtain ⟨hne, h60⟩ := tgtO_ne ok ht
          rw [htab]
          simp only [optElim]
          have : notNil t = some true := by unfold notNil; rw [if_neg (by simpa using hne)]
          rw [this]
          simp only [Option.bind_some]
          rw [h5 t (by rw [htab]; rfl) h60]
          rfl
      rw [iter_cont hb, ih (k + 1) _ _ hstep (by omega) (by split <;> (try simp) <;> omega)]
      rw [drop_cons hget, List.filter_cons]
      cases isTarget l s <;> simp

def expP (l : List TAlias) (s : Str) : List Str := (reached l [s]).filter (isTarget l)
theorem alias_Expand_eq (l : List TAlias) (s : Str) (hl : smallA l) (hs : s.length ≤ 1048576) :
    alias_Expand l s = some (if (aliasF l).Code != 0 then ([], aliasF l) else if !addrP s then ([], ⟨10, -2⟩) else (expP l s, ⟨0, 0⟩)) := by
  unfold alias_Expand
  rw [alias_Validate_eq l hl]
  simp only [Option.bind_some, basic_Failed, envelope_Address_eq s (by omega), basic_Fault, basic_None]
  by_cases hc : (aliasF l).Code = 0
  · obtain ⟨ok, _⟩ := aliasF_ok hc
    have h1 : ((aliasF l).Code != 0) = false := by simp [hc]
    rw [h1]
    simp only [cond_false, Bool.false_eq_true, if_false]
    cases addrP s with
    | false => rfl
    | true =>
      have hn := ok.n
      have t1 : iter (alias_Expand_l1 l) (0, ([] : List (Str × List Str))) = some (tab l) := by
        refine tabloop l (fun m => by unfold alias_Expand_l1; rw [dec_len]; rfl) (fun i a m ha => ?_)
        have hi := lt_get ha
        unfold alias_Expand_l1
        rw [dec_lt ha, idx_get ha]
        simp only [cond_true, Option.bind_some, sc i (by omega)]
      have t2 : iter (alias_Expand_l2 l) (0, ([] : List (Str × List Str))) = some (tab l) := by
        refine tabloop l (fun m => by unfold alias_Expand_l2; rw [dec_len]; rfl) (fun i a m ha => ?_)
        have hi := lt_get ha
        unfold alias_Expand_l2
        rw [dec_lt ha, idx_get ha]
        simp only [cond_true, Option.bind_some, sc i (by omega)]
      have t3 : iter (alias_Expand_l3 s) (0, ([] : List Str), ([] : List (Str × Bool))) = some (addNew [] [s], seenOf (addNew [] [s])) := by
        have := findloop (body := alias_Expand_l3 s) [s] (by simp) (fun p => by unfold alias_Expand_l3; rfl) (fun i x p hx hp => ?_) [] 0 (by simp) (by simp)
        · simpa [seenOf] using this
        · have hi := lt_get hx
          have hi2 : i < 1 := by simpa using hi
          unfold alias_Expand_l3
          simp only []
          rw [dec_lt hx, idx_get hx]
          simp only [cond_true, Option.bind_some, sc i (by omega)]
          rw [find_step [s] p x hp i (by simp at hi; omega)]; rfl
      rw [t1, t2, t3]
      simp only [Bool.not_true, cond_false, Bool.false_eq_true, if_false, Option.bind_some]
      have := Expand_loop ok [s] (by simp) ((univ l [s]).length + 1) 0 (addNew [] [s]) [] (Inv.start l [s]) (by omega) (by simp)
      rw [List.drop_zero] at this
      rw [this]
      simp only [Option.bind_some, List.nil_append, List.drop_zero]
      rfl
  · have h1 : ((aliasF l).Code != 0) = true := by simpa using hc
    rw [h1]; rfl
theorem R_Expanded_eq (l : List TAlias) (s : Str) (hl : smallA l) (hs : s.length ≤ 1048576) :
    R_Expanded l s = some (if (aliasF l).Code != 0 then ([], aliasF l) else if !addrP s then ([], ⟨10, -2⟩) else (expP l s, ⟨0, 0⟩)) := by
  unfold R_Expanded
  rw [R_AliasesFault_eq l hl]
  simp only [Option.bind_some, R_AddressOk_eq s (by omega), R_At]
  by_cases hc : (aliasF l).Code = 0
  · obtain ⟨ok, hF⟩ := aliasF_ok hc
    have hU := univ_len ok [s]
    rw [hF]
    cases addrP s with
    | false => rfl
    | true =>
      have hr := R_Reached_eq l [s] hl.1 (fun a ha => (hl.2 a ha).2.1) (by simp) (by simp at hU; omega)
      have hrl := reached_len l [s]
      simp only [hr, Option.bind_some]
      have hloop : iter (R_Expanded_l1 l (reached l [s])) (0, ([] : List Str)) = some ((reached l [s]).foldl (fun o x => if isTarget l x then o ++ [x] else o) []) := by
        refine (iter_fold (reached l [s]) (fun i o => (i, o)) (fun o x => if isTarget l x then o ++ [x] else o) (fun o => o) (fun i o => o.length ≤ i) (body := R_Expanded_l1 l (reached l [s])) (fun o _ => ?_) (fun i x o hx ho => ⟨?_, ?_⟩) [] (by simp)).1
        · unfold R_Expanded_l1; rw [dec_len]; rfl
        · have hi := lt_get hx
          unfold R_Expanded_l1
          rw [dec_lt hx, idx_get hx]
          simp only [cond_true, Option.bind_some, R_targets_eq l x hl.1, sc i (by simp at hU; omega)]
          have : isTarget l x = !(tgtO l x).isSome := by unfold isTarget; cases tgtO l x <;> rfl
          rw [this, app_ok (by simp at hU ⊢; omega)]
          cases (tgtO l x).isSome <;> rfl
        · split <;> (try simp) <;> omega
      rw [hloop]
      have hfil : ∀ (m o : List Str), m.foldl (fun o x => if isTarget l x then o ++ [x] else o) o = o ++ m.filter (isTarget l) := by
        intro m
        induction m with
        | nil => intro o; simp
        | cons x m ih => intro o; rw [List.foldl_cons, ih, List.filter_cons]; cases isTarget l x <;> simp
      rw [hfil]
      rfl
  · have h1 : ((aliasF l).Code != 0) = true := by simpa using hc
    have h2 : ((aliasF l).Code == 0) = false := by simpa using hc
    rw [h1, h2]
    simp [h1]
end Go.Proofs.Ytlpmbmilnoncdaa

/- Aliases: loops; the closed example; sizes. -/
namespace Go.Proofs.Ytlpmbmilnoncdaa
open Go.RowKit
set_option linter.unusedVariables false
set_option maxHeartbeats 1000000

theorem Loops_loop {l : List TAlias} (ok : AliasOk l) (from_ : List Str) (hf : from_.length ≤ 1048576) (s6 : Int × List Str) (hs6 : s6.2.length ≤ 1048576) (v : TAlias) : ∀ (n k : Nat) (out : List Str), Inv l (univ l from_) k out → (univ l from_).length + 1 ≤ n + k →
    iter (alias_Loops_l4 s6 v (tab l)) (out.drop k, seenOf out) = some (if ((bfs l n k out).drop k).contains v.Address then .inr (s6.2 ++ [v.Address]) else .inl ()) := by
  have hU := univ_len ok from_
  intro n
  induction n with
  | zero => intro k out h hn; have := h.len; have := h.le; omega
  | succ n ih =>
    intro k out h hn
    have hlen := h.len
    unfold bfs
    cases hs : out[k]? with
    | none =>
      have hk : out.length ≤ k := List.getElem?_eq_none_iff.1 hs
      have hd : out.drop k = [] := List.drop_eq_nil_of_le hk
      refine iter_out ?_
      unfold alias_Loops_l4
      rw [hd]; simp
    | some s =>
      have hk := lt_get hs
      have hd := drop_cons hs
      obtain ⟨m, hm1, hm2, hm3⟩ := bfs_spec l from_ n (k + 1) _ (h.step hs) (by omega)
      have hget := get_prefix ((addNew_prefix (tgt l s) out).trans hm3) hs
      have hstep := h.step hs
      simp only []
      rw [drop_cons hget, List.contains_cons]
      have hb : alias_Loops_l4 s6 v (tab l) (out.drop k, seenOf out) = some (if s == v.Address then .out (.inr (s6.2 ++ [s])) else .cont ((addNew out (tgt l s)).drop (k + 1), seenOf (addNew out (tgt l s)))) := by
        unfold alias_Loops_l4
        rw [hd]
        have e0 : decide ((0 : Int) < (((s :: out.drop (k + 1)).length : Nat) : Int)) = true := by simp
        simp only [e0, cond_true, idx_lit, List.getElem?_cons_zero, Option.bind_some]
        rw [show ((1 : Int)) = ((1 : Nat) : Int) from rfl, cut_nl (by simp)]
        simp only [Option.bind_some, List.drop_succ_cons, List.drop_zero]
        rw [app_ok (by simp; omega)]
        have htl : (tgt l s).length ≤ 60 := by
          unfold tgt
          cases ht : tgtO l s with
          | none => simp
          | some t => exact (tgtO_ne ok ht).2
        have h5 : iter (alias_Loops_l5 (tab l) s) (0, out.drop (k + 1), seenOf out) = some ((addNew out (tgt l s)).drop (k + 1), seenOf (addNew out (tgt l s))) := by
          have hxs : (mget (tab l) s).getD [] = tgt l s := by rw [tab_eq ok s]; rfl
          refine findloop (tgt l s) (by omega) (fun p => ?_) (fun i x p hx hp => ?_) out (k + 1) (by omega) (by omega)
          · unfold alias_Loops_l5; rw [hxs, dec_len]; rfl
          · have hi := lt_get hx
            unfold alias_Loops_l5
            rw [hxs, dec_lt hx, idx_get hx]
            simp only [cond_true, Option.bind_some, sc i (by omega)]
            rw [find_step (tgt l s) p x hp i (by omega)]; rfl
        rw [h5]
        cases s == v.Address <;> rfl
      by_cases hsv : s = v.Address
      · subst hsv
        rw [iter_out (by rw [hb]; simp; rfl)]
        simp
      · have h1 : (s == v.Address) = false := by simpa using hsv
        have h2 : (v.Address == s) = false := by simpa using fun h => hsv h.symm
        rw [h1] at hb
        rw [iter_cont hb, ih (k + 1) _ hstep (by omega), h2, Bool.false_or]
def loopsP (l : List TAlias) : List Str := (l.filter fun a => (reached l a.To).contains a.Address).map (·.Address)
theorem loops_fold (l m : List TAlias) : ∀ o : List Str, m.foldl (fun o a => if (reached l a.To).contains a.Address then o ++ [a.Address] else o) o = o ++ (m.filter fun a => (reached l a.To).contains a.Address).map (·.Address) := by
  induction m with
  | nil => intro o; simp
  | cons a m ih => intro o; rw [List.foldl_cons, ih, List.filter_cons]; cases (reached l a.To).contains a.Address <;> simp
theorem alias_Loops_eq (l : List TAlias) (hl : smallA l) : alias_Loops l = some (if (aliasF l).Code != 0 then ([], aliasF l) else (loopsP l, ⟨0, 0⟩)) := by
  unfold alias_Loops
  rw [alias_Validate_eq l hl]
  simp only [Option.bind_some, basic_Failed, basic_None]
  by_cases hc : (aliasF l).Code = 0
  · obtain ⟨ok, _⟩ := aliasF_ok hc
    have h1 : ((aliasF l).Code != 0) = false := by simp [hc]
    rw [h1]
    simp only [cond_false, Bool.false_eq_true, if_false]
    have hn := ok.n
    have hloop : iter (alias_Loops_l1 l) (0, ([] : List Str)) = some (l.foldl (fun o a => if (reached l a.To).contains a.Address then o ++ [a.Address] else o) []) := by
      refine (iter_fold l (fun i o => (i, o)) (fun o (a : TAlias) => if (reached l a.To).contains a.Address then o ++ [a.Address] else o) (fun o => o) (fun i o => o.length ≤ i) (body := alias_Loops_l1 l) (fun o _ => ?_) (fun i a o ha ho => ⟨?_, ?_⟩) [] (by simp)).1
      · unfold alias_Loops_l1; rw [dec_len]; rfl
      · have hi := lt_get ha
        have hto := ok.addr a (List.mem_of_getElem? ha)
        have t2 : iter (alias_Loops_l2 l) (0, ([] : List (Str × List Str))) = some (tab l) := by
          refine tabloop l (fun m => by unfold alias_Loops_l2; rw [dec_len]; rfl) (fun i a m ha => ?_)
          have hi := lt_get ha
          unfold alias_Loops_l2
          rw [dec_lt ha, idx_get ha]
          simp only [cond_true, Option.bind_some, sc i (by omega)]
        have t3 : iter (alias_Loops_l3 a) (0, ([] : List Str), ([] : List (Str × Bool))) = some (addNew [] a.To, seenOf (addNew [] a.To)) := by
          have := findloop (body := alias_Loops_l3 a) a.To (by omega) (fun p => by unfold alias_Loops_l3; rw [dec_len]; rfl) (fun i x p hx hp => ?_) [] 0 (by simp) (by simp)
          · simpa [seenOf] using this
          · have hi := lt_get hx
            unfold alias_Loops_l3
            rw [dec_lt hx, idx_get hx]
            simp only [cond_true, Option.bind_some, sc i (by omega)]
            rw [find_step a.To p x hp i (by omega)]; rfl
        have t4 := Loops_loop ok a.To (by omega) ((i : Int), o) (by simp; omega) a ((univ l a.To).length + 1) 0 (addNew [] a.To) (Inv.start l a.To) (by omega)
        rw [List.drop_zero] at t4
        unfold alias_Loops_l1
        rw [dec_lt ha, idx_get ha]
        simp only [cond_true, Option.bind_some, t2, t3, t4, sc i (by omega), List.drop_zero]
        show (Option.bind (Sum.elim _ _ (if (reached l a.To).contains a.Address then _ else _)) _) = _
        cases (reached l a.To).contains a.Address <;> rfl
      · split <;> (try simp) <;> omega
    rw [hloop, loops_fold]
    rfl
  · have h1 : ((aliasF l).Code != 0) = true := by simpa using hc
    rw [h1]; rfl

/-! ### the closed example -/
theorem L_expands_eq : L_expands = some true := by
  have hsm : smallA [⟨[97, 64, 120], [[98, 64, 120], [99, 64, 120]]⟩, ⟨[98, 64, 120], [[97, 64, 120], [100, 64, 120]]⟩] := ⟨by simp, by simp⟩
  unfold L_expands
  rw [alias_Expand_eq _ _ hsm (by simp), alias_Loops_eq _ hsm, alias_Expand_eq _ _ hsm (by simp)]
  have e1 : aliasF [⟨[97, 64, 120], [[98, 64, 120], [99, 64, 120]]⟩, ⟨[98, 64, 120], [[97, 64, 120], [100, 64, 120]]⟩] = ⟨0, 0⟩ := (aliasF_ok (by decide +kernel)).2
  have e2 : addrP [97, 64, 120] = true := by decide +kernel
  have e3 : addrP [97] = false := by decide +kernel
  have e4 : expP [⟨[97, 64, 120], [[98, 64, 120], [99, 64, 120]]⟩, ⟨[98, 64, 120], [[97, 64, 120], [100, 64, 120]]⟩] [97, 64, 120] = [[99, 64, 120], [100, 64, 120]] := by decide +kernel
  have e5 : loopsP [⟨[97, 64, 120], [[98, 64, 120], [99, 64, 120]]⟩, ⟨[98, 64, 120], [[97, 64, 120], [100, 64, 120]]⟩] = [[97, 64, 120], [98, 64, 120]] := by decide +kernel
  rw [e1, e2, e3]
  simp [R_At, allEq, e4, e5, R_Strings_eq]
/-! ### sizes -/
theorem bkL_pos {T : Type} (bk : T → Nat) (l : List T) : 1 ≤ bkL bk l := by
  induction l with
  | nil => simp [bkL]
  | cons y l ih => unfold bkL; omega
theorem bkL_mem {T : Type} {bk : T → Nat} {l : List T} {x : T} (h : x ∈ l) : bk x + 1 ≤ bkL bk l := by
  induction l with
  | nil => cases h
  | cons y l ih =>
    unfold bkL
    have hp := bkL_pos bk l
    rcases List.mem_cons.1 h with rfl | h
    · omega
    · have := ih h; omega
theorem bkL_len {T : Type} {bk : T → Nat} (hb : ∀ x, 1 ≤ bk x) (l : List T) : l.length + 1 ≤ bkL bk l := by
  induction l with
  | nil => simp [bkL]
  | cons y l ih => unfold bkL; have := hb y; simp; omega
theorem aliasBk (a : TAlias) : 1 ≤ a.bk := by unfold TAlias.bk; omega
theorem aliasSmall {a : TAlias} {n : Nat} (h : a.bk ≤ n) : a.Address.length ≤ n ∧ a.To.length ≤ n ∧ ∀ s ∈ a.To, s.length ≤ n := by
  unfold TAlias.bk at h
  have h1 := bkL_len (bk := fun s : Str => s.length + 1) (fun _ => by simp) a.To
  refine ⟨by simp at h; omega, by omega, fun s hs => ?_⟩
  have := bkL_mem (bk := fun s : Str => s.length + 1) hs
  simp at this h; omega
theorem smallA_of {l : List TAlias} (h : bkL TAlias.bk l ≤ 1048576) : smallA l := by
  have h1 := bkL_len aliasBk l
  refine ⟨by omega, fun a ha => ?_⟩
  have := bkL_mem (bk := TAlias.bk) ha
  exact aliasSmall (by omega)
theorem expP_len {l : List TAlias} (ok : AliasOk l) (s : Str) : (expP l s).length ≤ 2401 := by
  have h1 := List.length_filter_le (isTarget l) (reached l [s])
  have h2 := reached_len l [s]
  have h3 := univ_len ok [s]
  simp at h3
  unfold expP; omega
theorem fault_eq (f : TFault) : allEq [(f.Code == f.Code), (f.Index == f.Index)] = true := by simp [allEq]
end Go.Proofs.Ytlpmbmilnoncdaa

/- The law AliasMoreIsMore, as a plain statement. -/
namespace Go.Proofs.Ytlpmbmilnoncdaa
open Go.RowKit
set_option linter.unusedVariables false
theorem tgtO_more (l : List TAlias) (m : TAlias) (s : Str) (h : s ≠ m.Address) : tgtO (l ++ [m]) s = tgtO l s := by
  unfold tgtO
  rw [List.find?_append]
  have : [m].find? (fun a => a.Address == s) = none := by
    rw [List.find?_eq_none]
    intro x hx
    simp at hx; subst hx
    simpa using fun h' => h h'.symm
  rw [this]; simp
theorem bfs_more (l : List TAlias) (m : TAlias) (hno : ∀ a ∈ l, m.Address ∉ a.To) : ∀ (n k : Nat) (out : List Str), (∀ x ∈ out, x ≠ m.Address) → bfs (l ++ [m]) n k out = bfs l n k out := by
  intro n
  induction n with
  | zero => intro k out _; rfl
  | succ n ih =>
    intro k out h
    unfold bfs
    cases hs : out[k]? with
    | none => rfl
    | some s =>
      have hsm := h s (List.mem_of_getElem? hs)
      have ht : tgt (l ++ [m]) s = tgt l s := by unfold tgt; rw [tgtO_more l m s hsm]
      simp only [ht]
      refine ih (k + 1) _ fun x hx => ?_
      rcases (addNew_mem _ _ _).1 hx with h1 | h1
      · exact h x h1
      · obtain ⟨a, ha, _, hxa⟩ := tgt_sub l s x h1
        rintro rfl
        exact hno a ha hxa
theorem bfs_enough (l : List TAlias) (from_ : List Str) : ∀ (n n' k : Nat) (out : List Str), Inv l (univ l from_) k out → (univ l from_).length + 1 ≤ n + k → n ≤ n' → bfs l n' k out = bfs l n k out := by
  intro n
  induction n with
  | zero => intro n' k out h hn; have := h.len; have := h.le; omega
  | succ n ih =>
    intro n' k out h hn hle
    obtain ⟨n'', rfl⟩ : ∃ q, n' = q + 1 := ⟨n' - 1, by omega⟩
    unfold bfs
    cases hs : out[k]? with
    | none => rfl
    | some s => exact ih n'' (k + 1) _ (h.step hs) (by omega) (by omega)
theorem expP_more (l : List TAlias) (m : TAlias) (s : Str) (hno : ∀ a ∈ l, m.Address ∉ a.To) (hs : s ≠ m.Address) : expP (l ++ [m]) s = expP l s := by
  have h0 : ∀ x ∈ addNew [] [s], x ≠ m.Address := by
    intro x hx
    rcases (addNew_mem _ _ _).1 hx with h1 | h1
    · simp at h1
    · simp at h1; subst h1; exact hs
  have hr : reached (l ++ [m]) [s] = reached l [s] := by
    unfold reached
    rw [bfs_more l m hno _ 0 _ h0]
    refine bfs_enough l [s] _ _ 0 _ (Inv.start l [s]) (by omega) ?_
    unfold univ; simp
  unfold expP
  rw [hr]
  apply List.filter_congr
  intro x hx
  have hg := (reached_iff l [s] x).1 hx
  have hne : x ≠ m.Address := by
    cases hg with
    | base h => simp at h; subst h; exact hs
    | step _ hy =>
      obtain ⟨a, ha, _, hxa⟩ := tgt_sub _ _ _ hy
      rintro rfl
      exact hno a ha hxa
  unfold isTarget
  rw [tgtO_more l m x hne]
theorem L_AliasMoreIsMore_true (a0 : List TAlias) (a1 : Str) (a2 : TAlias) (o0 : okL TAlias.ok a0) (o1 : okStr a1) (o2 : TAlias.ok a2) (hk : bkL TAlias.bk a0 + (fun s : Str => s.length + 1) a1 + TAlias.bk a2 ≤ 1048576) : L_AliasMoreIsMore a0 a1 a2 = some true := by
  simp only [] at hk
  have hp := bkL_pos TAlias.bk a0
  have hl : smallA a0 := smallA_of (by omega)
  have h2 := aliasSmall (a := a2) (n := 1048576) (by omega)
  have hb := bkL_len aliasBk a0
  have hb2 := aliasBk a2
  have hl2 : smallA (a0 ++ [a2]) := by
    refine ⟨by simp; omega, fun a ha => ?_⟩
    rcases List.mem_append.1 ha with h | h
    · exact hl.2 a h
    · simp at h; subst h; exact h2
  unfold L_AliasMoreIsMore
  rw [alias_Expand_eq a0 a1 hl (by omega), L_expands_eq]
  simp only [Option.bind_some, Bool.not_true, cond_false, cond_true]
  by_cases hc : (aliasF a0).Code = 0
  · obtain ⟨ok, hF⟩ := aliasF_ok hc
    have hn := ok.n
    have h1 : ((aliasF a0).Code != 0) = false := by simp [hc]
    rw [h1]
    simp only [Bool.false_eq_true, if_false]
    cases ha : addrP a1 with
    | false => simp
    | true =>
      simp only [Bool.not_true, Bool.false_eq_true, if_false]
      have hloop : iter (L_AliasMoreIsMore_l1 a0 a2) 0 = some ((firstI (fun _ (a : TAlias) => if a.To.contains a2.Address then some true else none) 0 a0).elim (.inl ()) .inr) := by
        refine iter_first a0 _ (Sum.inl ()) Sum.inr ?_ ?_
        · unfold L_AliasMoreIsMore_l1; rw [dec_len]; rfl
        · intro i a hai
          have hi := lt_get hai
          have hto := ok.addr a (List.mem_of_getElem? hai)
          unfold L_AliasMoreIsMore_l1
          rw [dec_lt hai, idx_get hai]
          simp only [cond_true, Option.bind_some, R_Has_eq a.To a2.Address (by omega), sc i (by omega)]
          cases a.To.contains a2.Address <;> rfl
      rw [hloop, firstI_any]
      cases hany : a0.any (fun a => a.To.contains a2.Address) with
      | true => rfl
      | false =>
        have hno : ∀ a ∈ a0, a2.Address ∉ a.To := by
          intro a haa hm
          rw [List.any_eq_false] at hany
          exact hany a haa (by simpa using hm)
        simp only [Bool.false_eq_true, if_false, Option.elim, Option.bind_some, Sum.elim_inl, bne_self_eq_false, cond_false]
        rw [app_ok (by simp; omega)]
        simp only [Option.bind_some, List.nil_append]
        rw [app_ok (by simp; omega)]
        simp only [Option.bind_some]
        rw [alias_Expand_eq (a0 ++ [a2]) a1 hl2 (by omega)]
        simp only [Option.bind_some, ha]
        by_cases hc2 : (aliasF (a0 ++ [a2])).Code = 0
        · have h3 : ((aliasF (a0 ++ [a2])).Code != 0) = false := by simp [hc2]
          rw [h3]
          simp only [Bool.false_eq_true, if_false, Bool.not_true, bne_self_eq_false, cond_false]
          by_cases hs : a2.Address = a1
          · simp [hs]
          · have h4 : (a2.Address == a1) = false := by simpa using hs
            have hel := expP_len ok a1
            rw [h4]
            simp only [cond_false]
            rw [R_Strings_eq _ _ (by omega), expP_more a0 a2 a1 hno (fun h => hs h.symm)]
            simp
        · have h3 : ((aliasF (a0 ++ [a2])).Code != 0) = true := by simpa using hc2
          simp [h3]
  · have h1 : ((aliasF a0).Code != 0) = true := by simpa using hc
    rw [h1]
    simp [h1]
end Go.Proofs.Ytlpmbmilnoncdaa

/- A function of the program computes what its Lean function does. Written by program. -/
namespace Go.Proofs.Ytlpmbmilnoncdaa
open Go.RowKit
set_option maxRecDepth 100000
set_option maxHeartbeats 40000000
set_option linter.unusedVariables false
theorem R_At_run (a0 : Int) (a1 : Int) (r : TFault) (hr : R_At a0 a1 = some r) : Run Try.prog 19 [.i a0, .i a1] (.agg [.i r.Code, .i r.Index]) := by
  unfold R_At at hr
  refine run_of_awp (fn := Try.f19) ⟨Try.func19, rfl, by kernel_rfl⟩ rfl (fun _ => rfl) fun g0 hg => ?_
  refine awp_seq ?_
  refine awp_region ?_
  refine awpl_op rfl (opTo_alloc (k := 4) 4 rfl ty_api_Fault (.inr ⟨rfl, rfl⟩) rfl rfl rfl) ?_
  refine awpl_nil ?_
  refine kthen_normal ?_
  refine awp_seq ?_
  refine awp_region ?_
  refine awpl_op rfl (opTo_q (d := 5) rfl rfl ev_move) ?_
  refine awpl_op rfl (opTo_q (d := 6) rfl rfl ev_move) ?_
  refine awpl_op rfl (opTo_q (d := 7) rfl rfl (ev_build ty_api_Fault pl_api_Fault (.inr ⟨rfl, rfl⟩) rfl)) ?_
  refine awpl_op rfl (opTo_store rfl rfl rfl ty_api_Fault rfl rfl) ?_
  refine awpl_nil ?_
  refine kthen_normal ?_
  refine awp_ret ?_
  cases hr
  exact kret' rfl (.cons (res_cellN rfl rfl ty_api_Fault rfl rfl) .nil) rfl
end Go.Proofs.Ytlpmbmilnoncdaa

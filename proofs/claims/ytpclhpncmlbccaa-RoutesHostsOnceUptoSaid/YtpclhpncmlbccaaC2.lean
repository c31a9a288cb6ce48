/- Part 2 of a calculus for walks through code: no program is named. -/
import Derived.Test.YtpclhpncmlbccaaC1
import Derived.OrdersIn
import Derived.Orders
import Derived.RangeFuncIn
import Derived.RangeFuncRecord
import Derived.MapKept
import Derived.Laws.Cover3
set_option linter.unusedVariables false
set_option linter.unusedSimpArgs false
/- The abstract calculus: literals of slices, []byte(s). No program is named. -/
namespace Go.Proofs.Ytpclhpncmlbccaa
open Go.RowKit Go.Lib

variable {E : Env} {fr : Fr} {σ : Sto} {K : Post}
variable {ty : TypeId} {pos : String} {af : Array Edge} {gu : Option (Nat × Bool)}
section
variable {α : Type} {F : α → List PV} {l : List α} {size bytes sb ss k n : Nat} {e t : TypeId} {zero sz : Value} {d : TypeDesc}

theorem flatMap_get (hF : ∀ x, (F x).length = size) : ∀ (l : List α) (i j : Nat) (x : α) (c : PV), l[i]? = some x → (F x)[j]? = some c → (l.flatMap fun x => (F x).map AV.pv)[i * size + j]? = some (.pv c)
  | [], i, j, x, c, hi, _ => by simp at hi
  | y :: l, 0, j, x, c, hi, hj => by
    simp at hi
    subst hi
    have hlt := (List.getElem?_eq_some_iff.1 hj).1
    rw [List.flatMap_cons, Nat.zero_mul, Nat.zero_add, List.getElem?_append_left (by simpa using hlt)]
    simp [hj]
  | y :: l, i + 1, j, x, c, hi, hj => by
    rw [List.flatMap_cons, List.getElem?_append_right (by simp [hF, Nat.add_mul]; omega)]
    have e1 : (i + 1) * size + j - ((F y).map AV.pv).length = i * size + j := by simp [hF, Nat.add_mul]; omega
    rw [e1]
    exact flatMap_get hF l i j x c (by simpa using hi) hj
theorem flatMap_len (hF : ∀ x, (F x).length = size) : ∀ (l : List α), (l.flatMap fun x => (F x).map AV.pv).length = l.length * size
  | [] => by simp
  | y :: l => by rw [List.flatMap_cons, List.length_append, flatMap_len hF l]; simp [hF, Nat.add_mul]; omega

/-- a published block -/
theorem rel_new {g : G} {out : Array Value} {cap : Nat} (hF : ∀ x, (F x).length = size) (hl : l.length * size ≤ out.size) (hcap : l.length ≤ cap) {g' : G} (hb : g'.w.heap[g.w.heap.size]? ≠ none) (hcell : ∀ i, i < out.size → g'.w.cell? ⟨g.w.heap.size, i, none⟩ = some (out.getD i undef)) (hu : g'.u g.w.heap.size = l.length * size)
    (hr : ∀ i j x c, l[i]? = some x → (F x)[j]? = some c → RelP g'.w g'.u c (out.getD (i * size + j) undef)) : Rel g' (.l F l) (.slice (some ⟨g.w.heap.size, 0, none⟩) l.length cap) := by
  have hlt : g.w.heap.size < g'.w.heap.size := by
    rcases Nat.lt_or_ge g.w.heap.size g'.w.heap.size with h | h
    · exact h
    · exact absurd (Array.getElem?_eq_none h) hb
  have := RelP.sl (w := g'.w) (u := g'.u) (nl := none) (elems := l.map F) (a := some ⟨g.w.heap.size, 0, none⟩) (cap := cap) size g.w.heap.size 0 (fun i => out.getD i undef)
    (fun x hx => by cases hx) (fun hx => by cases hx) (by simpa using hcap) (fun x' hx' => by obtain ⟨y', hy', rfl⟩ := List.mem_map.1 hx'; exact hF y') (fun _ => rfl) (fun _ => ⟨by simp [hu], hlt⟩)
    (fun i hi => by rw [Nat.zero_add]; exact hcell i (by simp at hi; omega))
    (fun i j x' c hi hj => by
      simp only [List.getElem?_map, Option.map_eq_some_iff] at hi
      obtain ⟨y', hy', rfl⟩ := hi
      exact hr i j y' c hy' hj)
  rw [List.length_map] at this
  exact .pv this

/-- a literal of a slice -/
theorem opTo_lit {ps : List (Nat × Operand)} (hN : Nat.ble (k + 1) E.N = true) (ht : TyOk E.P t ss sb sz (.slice e)) (he : TyOk E.P e size bytes zero d) (hzs : (Nat.beq zero.cells.size size && Nat.ble 1 size && zero.cells.toList.all cellV) = true) (hF : ∀ x, (F x).length = size) (hln : Nat.beq l.length n && Nat.ble (n * size) 16777216)
    (hc : fillA (fun i => some (i * size, size)) (List.replicate (n * size) .any) (ps.map fun p => (p.1, (fr.ev p.2).weak)) = some (l.flatMap fun x => (F x).map AV.pv)) :
    OpTo E ⟨some k, .buildSlice t n ps.toArray, ty, pos, af, gu⟩ fr σ ((k, .l F l) :: fr) σ :=
  ⟨fun g a K Q hst hK => by
    simp only [Bool.and_eq_true] at hzs hln
    have hz1 := Nat.eq_of_beq_eq_true hzs.1.1
    have hz2 := Nat.le_of_ble_eq_true hzs.1.2
    have hn1 := Nat.eq_of_beq_eq_true hln.1
    have hn2 := Nat.le_of_ble_eq_true hln.2
    subst hn1
    refine ⟨fun _ _ => trivial, ?_⟩
    rw [Oper.semAt_plain _ _ _ (fun c => by simp)]
    generalize hzero : (if l.length * size = 0 then #[] else zero.cells) = zc
    generalize harr : ((Array.range (l.length * size)).map (fun i => zc[i % zc.size]!)) = arr
    have hasz : arr.size = l.length * size := by rw [← harr]; simp
    have hacell : ∀ i, i < arr.size → cellV (arr.getD i undef) = true := by
      intro i hi
      rw [hasz] at hi
      have hne : l.length * size ≠ 0 := by omega
      rw [if_neg hne] at hzero
      subst hzero
      have hlt : i % zero.cells.size < zero.cells.size := Nat.mod_lt _ (by omega)
      have : arr.getD i undef = zero.cells[i % zero.cells.size] := by
        rw [← harr]; simp [hi, hlt]
      rw [this]
      have h3 := hzs.2
      rw [List.all_eq_true] at h3
      exact h3 _ (by simp)
    obtain ⟨out, h1, h2⟩ := fill_ok (g := g) (ps.map fun p => (p.1, (fr.ev p.2).weak)) (ps.map fun p => (p.1, a.eval p.2)) (List.replicate (l.length * size) .any) arr (l.flatMap fun x => (F x).map AV.pv)
      ⟨by simp [hasz], hacell, fun i c hi => by
        have := List.mem_of_getElem? hi
        rw [List.mem_replicate] at this
        rw [this.2]; exact .any _⟩ (by simp) (fun i p v hp hv => by
      simp only [List.getElem?_map, Option.map_eq_some_iff] at hp hv
      obtain ⟨q, hq, rfl⟩ := hp
      obtain ⟨q', hq', rfl⟩ := hv
      rw [hq] at hq'
      cases hq'
      exact ⟨rfl, rel_weak (hst.ev q.2)⟩) hc
    have hrun : (execOp a.eval ⟨some k, .buildSlice t l.length ps.toArray, ty, pos, af, gu⟩).run E.P g.w = .ok (.value (.slice (some ⟨g.w.heap.size, 0, none⟩) l.length l.length)) (g.w.alloc (.cells out e)) := by
      show Sem.run E.P (do let v ← Instr.buildSlice t l.length (ps.toArray.map fun (i, x) => (i, a.eval x)); pure (Next.value v)) g.w = _
      have e1 : (ps.toArray.map fun (x : Nat × Operand) => (x.1, a.eval x.2)).toList = ps.map fun p => (p.1, a.eval p.2) := by simp
      have hgt : ¬ (l.length * size > 2 ^ 24) := by simp; omega
      by_cases h0 : l.length * size = 0
      · rw [if_pos h0] at hzero; subst hzero
        simp only [Instr.buildSlice, underlying, program, Sem.run_bind, Sem.run, ht.u, he.sizeOf, Result.andThen_ok, Sem.run_pure, if_neg hgt, if_pos h0, e1, harr, h1]
        rfl
      · rw [if_neg h0] at hzero; subst hzero
        simp only [Instr.buildSlice, underlying, program, Sem.run_bind, Sem.run, ht.u, he.sizeOf, Result.andThen_ok, Sem.run_pure, if_neg hgt, if_neg h0, he.zeroValue, e1, harr, h1]
        rfl
    rw [hrun, Oper.uponIn_value]
    have hosz : out.size = l.length * size := by rw [h2.n, flatMap_len hF]
    have hold := old_alloc g out e (l.length * size) 0 (g.loc 0)
    have hwf := wf_alloc hst.so.wf out e (l.length * size) 0 (g.loc 0)
    have hloc : ∀ q, (g.alloc out e (l.length * size) 0 (g.loc 0)).loc q = g.loc q := fun q => by show (if q = 0 then g.loc 0 else g.loc q) = g.loc q; split <;> simp_all
    have hst' := hst.grow hold hwf (fun q _ => hloc q)
    refine hK _ _ (hst'.put (Nat.le_of_ble_eq_true hN) (rel_new (g := g) (out := out) hF (Nat.le_of_eq hosz.symm) (Nat.le_refl _) ?_ ?_ (if_pos rfl) ?_))
    · rw [show (g.alloc out e (l.length * size) 0 (g.loc 0)).w.heap[g.w.heap.size]? = some (.cells out e (0, 0)) from heap_alloc_new _ _]; simp
    · intro i hi
      exact cell_of_heap (heap_alloc_new _ _) hi
    · intro i j x c hi hj
      have := h2.r _ _ (flatMap_get hF l i j x c hi hj)
      cases this with
      | pv h => exact h.mono hold.ext⟩
end

/-- []byte(s) -/
theorem opTo_s2bytes {k : Nat} {t t' e : TypeId} {x : Operand} {s : Str} {ss sb ss' sb' s1 s2 : Nat} {sz sz' z : Value} (hN : Nat.ble (k + 1) E.N = true) (hx : fr.ev x = .s s) (ht : TyOk E.P t ss sb sz .string) (ht' : TyOk E.P t' ss' sb' sz' (.slice e)) (he : TyOk E.P e s1 s2 z (.int .u8)) :
    OpTo E ⟨some k, .convert t t' x, ty, pos, af, gu⟩ fr σ ((k, .l cU s) :: fr) σ :=
  ⟨fun g a K Q hst hK => by
    refine ⟨fun _ _ => trivial, ?_⟩
    rw [Oper.semAt_plain _ _ _ (fun c => by simp)]
    have h1 := hst.ev x
    rw [hx] at h1
    have e1 := rel_b h1
    generalize hcap : (Question.appendCap s.length 0 e).cut (g.w.tape g.w.drawn (.appendCap s.length 0 e)) = cap
    have hge : s.length ≤ cap := by rw [← hcap]; simp [Question.cut]
    generalize hcells : ((strB s).data.map (fun b => Value.int .u8 (b.toNat : Int)) ++ Array.replicate (cap - s.length) (Value.int .u8 0)) = cells
    have hsz : cells.size = cap := by rw [← hcells]; simp [strB]; omega
    have hget : ∀ i c, s[i]? = some c → cells.getD i undef = .int .u8 (c.toNat : Int) := by
      intro i c hi
      have hlt := (List.getElem?_eq_some_iff.1 hi).1
      rw [← hcells, Array.getD_eq_getD_getElem?, Array.getElem?_append_left (by simpa [strB] using hlt)]
      simp [strB, hi]
    have hrun : (execOp a.eval ⟨some k, .convert t t' x, ty, pos, af, gu⟩).run E.P g.w = .ok (.value (.slice (some ⟨g.w.heap.size, 0, none⟩) s.length cap)) ((g.w.drew.alloc (.cells cells e)).freeze ⟨g.w.heap.size, cap, none⟩ 1) := by
      show Sem.run E.P (do let v ← convert t t' (a.eval x); pure (Next.value v)) g.w = _
      rw [e1]
      have hsh : (g.w.drew.alloc (.cells cells e)).shape? g.w.heap.size = some (e, cap) := by
        simp only [World.shape?]
        rw [show (g.w.drew.alloc (.cells cells e)).heap[g.w.heap.size]? = some (.cells cells e (0, 0)) from heap_alloc_new g.w.drew _]
        simp [hsz]
      simp only [convert, underlying, program, Sem.run_bind, Sem.run, ht.u, ht'.u, he.u, Result.andThen_ok, Sem.run_pure, Conv.stringToBytes, choose, Question.forced, Bool.false_eq_true, if_false, strB_size, hcap, hcells, newRow, newObj, markStringish, shape, freeze]
      show Result.andThen (Result.andThen (Sem.run E.P (match (g.w.drew.alloc (.cells cells e)).shape? g.w.heap.size with | some (_, n) => Sem.freeze ⟨g.w.heap.size, n, none⟩ 1 (Sem.pure ()) | _ => pure ()) (g.w.drew.alloc (.cells cells e))) fun _ w' => .ok (Value.slice (some ⟨g.w.heap.size, 0, none⟩) s.length cap) w') (fun v w' => .ok (Next.value v) w') = _
      rw [hsh]
      rfl
    rw [hrun, Oper.uponIn_value]
    generalize hw : (g.w.drew.alloc (.cells cells e)).freeze ⟨g.w.heap.size, cap, none⟩ 1 = w'
    have hblk : w'.heap[g.w.heap.size]? = some (.cells cells e (cap, cap + 1)) := by
      subst hw
      simp only [World.freeze, Nat.one_ne_zero, if_false, Array.getElem?_modify, if_true]
      rw [show (g.w.drew.alloc (.cells cells e)).heap[g.w.heap.size]? = some (.cells cells e (0, 0)) from heap_alloc_new g.w.drew _]
      rfl
    have hother : ∀ q, q < g.w.heap.size → w'.heap[q]? = g.w.heap[q]? := by
      intro q hq
      subst hw
      simp only [World.freeze, Nat.one_ne_zero, if_false, Array.getElem?_modify]
      rw [if_neg (by omega)]
      exact Below.heap_alloc g.w.drew _ _ hq
    have hws : w'.heap.size = g.w.heap.size + 1 := by subst hw; simp [World.freeze]
    have hold : Old (fun _ => False) g ⟨w', fun q => if q = g.w.heap.size then s.length else g.u q, g.loc⟩ := by
      refine ⟨by subst hw; first | (simp [World.freeze]; done) | (simp [World.freeze]; rfl), by subst hw; first | (simp [World.freeze]; done) | (simp [World.freeze]; rfl), by subst hw; first | (simp [World.freeze]; done) | (simp [World.freeze]; rfl), ⟨by show _ ≤ w'.heap.size; omega, fun q hq => ?_, fun q i hq hi => ?_, ?_⟩, fun q hq _ => ⟨hother q hq, if_neg (by omega)⟩⟩
      · show g.u q ≤ if q = g.w.heap.size then s.length else g.u q
        rw [if_neg (by omega)]; exact Nat.le_refl _
      · simp only [World.cell?]; rw [hother q hq]
      · intro r hr; exact (hother r (blk_lt hr)).trans hr
    have hwf : Wf ⟨w', fun q => if q = g.w.heap.size then s.length else g.u q, g.loc⟩ := by
      intro q hq
      have hq : g.w.heap.size + 1 ≤ q := by rw [← hws]; exact hq
      show (if q = g.w.heap.size then s.length else g.u q) = 0
      rw [if_neg (by omega)]
      exact hst.so.wf q (by omega)
    have hst' := hst.grow hold hwf (fun q _ => rfl)
    refine hK ⟨w', fun q => if q = g.w.heap.size then s.length else g.u q, g.loc⟩ _ (hst'.put (Nat.le_of_ble_eq_true hN) (rel_new (g := g) (out := cells) (F := cU) (size := 1) (fun _ => rfl) (by omega) hge ?_ ?_ ?_ ?_))
    · show w'.heap[g.w.heap.size]? ≠ none
      rw [hblk]; simp
    · intro i hi
      exact cell_of_heap hblk hi
    · show (if g.w.heap.size = g.w.heap.size then s.length else _) = _
      rw [if_pos rfl, Nat.mul_one]
    · intro i j c0 c hi hj
      have : j = 0 := by have := (List.getElem?_eq_some_iff.1 hj).1; simp [cU] at this; exact this
      subst this
      simp [cU] at hj
      subst hj
      rw [Nat.mul_one, Nat.add_zero, hget i c0 hi]
      exact .b rfl⟩

end Go.Proofs.Ytpclhpncmlbccaa

/- (as BaseR.lean, over the abstract calculus) A region that draws its order, by an invariant over what has come up: one obligation an operation, whatever the order. No program is named. -/
namespace Go.Proofs.Ytpclhpncmlbccaa
open Go.RowKit

/-- i has come up, too -/
def upd (D : Nat → Bool) (i : Nat) : Nat → Bool := fun j => if j = i then true else D j

/-- every binding edge leads back -/
def leadsBack (md : Region.Mode) (ops : Array Oper) : Bool := ops.toList.zipIdx.all fun p => p.1.after.all fun e => !Region.binds md e || decide (e.on < p.2)

theorem leadsBack_spec {md : Region.Mode} {ops : Array Oper} (h : leadsBack md ops = true) {i : Nat} {o : Oper} (ho : ops[i]? = some o) : ∀ e ∈ o.after, Region.binds md e = true → e.on < i := by
  intro e he hb
  unfold leadsBack at h
  rw [List.all_eq_true] at h
  have hm : (o, i) ∈ ops.toList.zipIdx := by
    rw [List.mem_zipIdx_iff_getElem?]
    simpa using ho
  have := h _ hm
  simp only [Array.all_eq_true'] at this
  have := this e he
  simpa [hb] using this

theorem ready_spec {md : Region.Mode} {ops : Array Oper} {listed : Array Bool} {i : Nat} (h : i ∈ Region.ready md ops listed) :
    ∃ o, ops[i]? = some o ∧ listed.getD i true = false ∧ ∀ e ∈ o.after, Region.binds md e = true → listed.getD e.on false = true := by
  unfold Region.ready at h
  rw [List.mem_filter] at h
  obtain ⟨_, h2⟩ := h
  rw [Bool.and_eq_true] at h2
  obtain ⟨h3, h4⟩ := h2
  cases ho : ops[i]? with
  | none => rw [ho] at h4; simp at h4
  | some o =>
    rw [ho] at h4
    refine ⟨o, rfl, by simpa using h3, fun e he hb => ?_⟩
    simp only [Option.map_some, Option.getD_some, Array.all_eq_true'] at h4
    have := h4 e he
    simpa [hb] using this

/-- where nothing may come up, all has -/
theorem ready_none {md : Region.Mode} {ops : Array Oper} (hl : leadsBack md ops = true) {listed : Array Bool} (hs : listed.size = ops.size) (h : Region.ready md ops listed = []) : ∀ i, i < ops.size → listed.getD i false = true := by
  intro i
  induction i using Nat.strongRecOn with
  | _ i ih =>
    intro hi
    cases hx : listed.getD i false with
    | true => rfl
    | false =>
      exfalso
      have hm : i ∈ Region.ready md ops listed := by
        unfold Region.ready
        rw [List.mem_filter]
        refine ⟨List.mem_range.2 hi, ?_⟩
        have ho : ops[i]? = some ops[i] := Array.getElem?_eq_getElem hi
        rw [ho]
        have h1 : listed.getD i true = false := by
          have hi2 : i < listed.size := by omega
          simp [Array.getD, hi2] at hx ⊢
          exact hx
        rw [h1]
        simp only [Bool.not_false, Option.map_some, Option.getD_some, Bool.true_and, Array.all_eq_true']
        intro e he
        cases hb : Region.binds md e with
        | false => simp
        | true =>
          have hlt := leadsBack_spec hl ho e he hb
          simp [ih e.on hlt (by omega)]
      rw [h] at hm
      cases hm

def left_ (listed : Array Bool) : Nat := (listed.toList.filter (!·)).length
theorem left_set {listed : Array Bool} {i : Nat} (hi : i < listed.size) (h : listed.getD i true = false) : left_ (listed.setIfInBounds i true) < left_ listed := by
  unfold left_
  have h0 : listed.toList[i]? = some false := by
    simp [Array.getD, hi] at h
    simp [hi, h]
  have hs : (listed.setIfInBounds i true).toList = listed.toList.set i true := by simp
  rw [hs]
  generalize listed.toList = l at *
  clear hs hi h
  induction l generalizing i with
  | nil => simp at h0
  | cons b l ih =>
    cases i with
    | zero =>
      simp at h0
      subst h0
      simp
    | succ i =>
      simp at h0
      have := ih h0
      cases b <;> simp at this ⊢ <;> omega

section
variable {F : Fence} {n : Nat} {P : Program} {md : Region.Mode} {ops : Array Oper} {Q : Exit → Act → World → Prop}
theorem wpAnyIn_of_inv (hl : leadsBack md ops = true) (J : (Nat → Bool) → Act → World → Prop)
    (hfin : ∀ D a w, J D a w → (∀ i, i < ops.size → D i = true) → Q .normal a w)
    (hstep : ∀ D a w i o, J D a w → ops[i]? = some o → D i = false → (∀ e ∈ o.after, Region.binds md e = true → D e.on = true) → wpOpIn F n P ops Q i (J (upd D i)) a w) :
    ∀ (fuel : Nat) (listed : Array Bool) (a : Act) (w : World), listed.size = ops.size → left_ listed ≤ fuel → J (fun i => listed.getD i false) a w → wpAnyIn F n P md ops Q fuel listed a w := by
  intro fuel
  induction fuel with
  | zero =>
    intro listed a w hs hc hJ
    have hr : Region.ready md ops listed = [] := by
      rcases hr : Region.ready md ops listed with _ | ⟨i, r⟩
      · rfl
      · obtain ⟨o, ho, h1, _⟩ := ready_spec (md := md) (ops := ops) (listed := listed) (i := i) (by rw [hr]; simp)
        have hi : i < ops.size := (Array.getElem?_eq_some_iff.1 ho).1
        have := left_set (listed := listed) (i := i) (by omega) h1
        omega
    exact ⟨hr, hfin _ a w hJ (ready_none hl hs hr)⟩
  | succ fuel ih =>
    intro listed a w hs hc hJ
    refine ⟨fun hr => hfin _ a w hJ (ready_none hl hs hr), fun i hi => ?_⟩
    obtain ⟨o, ho, h1, h2⟩ := ready_spec hi
    have hlt : i < ops.size := (Array.getElem?_eq_some_iff.1 ho).1
    have hD : listed.getD i false = false := by
      have hi2 : i < listed.size := by omega
      simp [Array.getD, hi2] at h1 ⊢
      exact h1
    refine wpOpIn_mono (fun a' w' hJ' => ?_) (hstep _ a w i o hJ ho hD h2)
    refine ih _ a' w' (by simpa using hs) (by have := left_set (listed := listed) (i := i) (by omega) h1; omega) ?_
    have e : (fun j => (listed.setIfInBounds i true).getD j false) = upd (fun j => listed.getD j false) i := by
      funext j
      unfold upd
      by_cases hj : j = i
      · subst hj
        have hi2 : j < listed.size := by omega
        simp [hi2]
      · rw [if_neg hj]
        simp [Array.getElem?_setIfInBounds_ne (Ne.symm hj)]
    rw [e]
    exact hJ'

theorem wpIn_region_inv {id : Nat} {a : Act} {w : World} (hm : P.follows .mixedOrders = true) (hl : leadsBack .any ops = true) (J : (Nat → Bool) → Act → World → Prop) (h0 : J (fun _ => false) a w.drew)
    (hfin : ∀ D a w, J D a w → (∀ i, i < ops.size → D i = true) → Q .normal a w)
    (hstep : ∀ D a w i o, J D a w → ops[i]? = some o → D i = false → (∀ e ∈ o.after, Region.binds .any e = true → D e.on = true) → wpOpIn F n P ops Q i (J (upd D i)) a w) :
    (Code.region id ops true).wpIn F n P Q a w := by
  refine wpIn_region_any hm (wpAnyIn_of_inv hl J hfin hstep ops.size _ a _ (by simp) ?_ ?_)
  · unfold left_
    refine Nat.le_trans (List.length_filter_le (fun b : Bool => !b) (Array.replicate ops.size false).toList) ?_
    simp
  · have e : (fun i => (Array.replicate ops.size false).getD i false) = fun _ : Nat => false := by
      funext i
      by_cases hi : i < ops.size
      · simp [Array.getD, hi]
      · simp [Array.getD, hi]
    rw [e]
    exact h0

variable {o : Oper} {i : Nat} {K : Act → World → Prop} {a : Act} {w w' : World} {v : Value}
/-- an operation that yields a value -/
theorem opIn_value (ho : ops[i]? = some o) (hd : ∀ c, o.op ≠ .defer c) (hw : Region.wanted o (yielded ops a.tmps) = true) (hab : ∀ f, o.about P w a.eval = some f → F.fn f) (hr : (execOp a.eval o).run P w = .ok (.value v) w') (h : K (a.put o.dst v) w') :
    wpOpIn F n P ops Q i K a w := by
  unfold wpOpIn
  rw [ho]
  simp only [hw, if_true]
  refine ⟨hab, ?_⟩
  rw [Oper.semAt_plain F _ _ hd, hr]
  exact h
/-- an operation that yields nothing (a store) -/
theorem opIn_skip (ho : ops[i]? = some o) (hd : ∀ c, o.op ≠ .defer c) (hw : Region.wanted o (yielded ops a.tmps) = true) (hab : ∀ f, o.about P w a.eval = some f → F.fn f) (hr : (execOp a.eval o).run P w = .ok .skip w') (h : K (a.put o.dst undef) w') :
    wpOpIn F n P ops Q i K a w := by
  unfold wpOpIn
  rw [ho]
  simp only [hw, if_true]
  refine ⟨hab, ?_⟩
  rw [Oper.semAt_plain F _ _ hd, hr]
  exact h
/-- a call of a Go function -/
theorem opIn_call {f : FuncId} {args : Array Value} {R : Ending → World → Prop} (ho : ops[i]? = some o) (hd : ∀ c, o.op ≠ .defer c) (hw : Region.wanted o (yielded ops a.tmps) = true) (hab : ∀ f, o.about P w a.eval = some f → F.fn f) (hr : (execOp a.eval o).run P w = .ok (.enter f args) w')
    (hn : F.depth.isSome = true → 1 ≤ n) (hc : CallsIn F (n - 1) P f args w' R) (h : ∀ e w'', R e w'' → ∃ v, e = .returned v ∧ K (a.put o.dst v) w'') :
    wpOpIn F n P ops Q i K a w := by
  unfold wpOpIn
  rw [ho]
  simp only [hw, if_true]
  refine ⟨hab, ?_⟩
  rw [Oper.semAt_plain F _ _ hd, hr]
  refine ⟨hn, hc.mono fun e w'' he => ?_⟩
  obtain ⟨v, rfl, hK⟩ := h e w'' he
  exact hK
/-- an operation whose guard says no -/
theorem opIn_no (ho : ops[i]? = some o) (hw : Region.wanted o (yielded ops a.tmps) = false) (hab : ∀ f, o.about P w a.eval = some f → F.fn f) (h : K (a.put o.dst undef) w) : wpOpIn F n P ops Q i K a w := by
  unfold wpOpIn
  rw [ho]
  simp only [hw]
  exact ⟨hab, h⟩
end
end Go.Proofs.Ytpclhpncmlbccaa

/- The abstract calculus: regions that draw their order: reads and calls in any order, then the rest in the text's order. No program is named. -/
namespace Go.Proofs.Ytpclhpncmlbccaa
open Go.RowKit Go.Lib

/-- an operation that turns nothing that was there: by its operands alone -/
structure OpG (E : Env) (o : Oper) (fr : Fr) (σ : Sto) (c : AV) : Prop where
  go : ∀ g a (K : Act → World → Prop) (Q : Exit → Act → World → Prop), (∀ x ∈ o.op.operands, Rel g (fr.ev x) (a.eval x)) → Sok E.S E.g0 g σ → (∀ g' v, Old (fun _ => False) g g' → Wf g' → g'.loc = g.loc → Rel g' c v → K (a.put o.dst v) g'.w) → o.wpIn (fen E.rd) 0 E.P a g.w K Q

variable {E : Env} {fr : Fr} {σ : Sto} {K : Post}
theorem opG_q {o : Oper} {c : AV} (h : EvQ E.P o fr.ev σ c) : OpG E o fr σ c :=
  ⟨fun g a K Q hx hs hK => by
    obtain ⟨v, hr, hv⟩ := h.run g a.eval hx hs.obj
    refine ⟨fun _ _ => trivial, ?_⟩
    rw [Oper.semAt_plain _ _ _ h.nd, hr, Oper.uponIn_value]
    exact hK g v (Old.refl _ g) hs.wf rfl hv⟩
theorem opG_call {f : FuncId} {dst : Option Tmp} {ty : TypeId} {pos : String} {af : Array Edge} {gu : Option (Nat × Bool)} {xs : List Operand} {ats : Array TypeId} {args : List AV} {r : AV} (hr : Run E.P f args r) (ha : xs.map (fun x => (fr.ev x).weak) = args) :
    OpG E ⟨dst, .call ⟨.value (.func f), xs.toArray, ats⟩, ty, pos, af, gu⟩ fr σ r :=
  ⟨fun g a K Q hx hs hK => by
    obtain ⟨fn, c, hok⟩ := hr.ok
    refine ⟨fun _ _ => trivial, ?_⟩
    rw [Oper.semAt_plain _ _ _ (fun c => by simp), run_call_op hok (first := #[]) (cap := #[]) rfl, Oper.uponIn_enter]
    refine ⟨fun h => by simp [fen] at h, ?_⟩
    have hargs : RelArgs g args (#[] ++ xs.toArray.map a.eval ++ #[]) := by
      subst ha
      refine ⟨by simp, fun i c hi => ?_⟩
      simp only [List.getElem?_map, Option.map_eq_some_iff] at hi
      obtain ⟨x, hx', rfl⟩ := hi
      have := rel_weak (hx x (by simp [Op.operands, Call.operands]; exact .inr (List.mem_of_getElem? hx')))
      simpa [hx'] using this
    refine (callsIn_fen (hr.run g _ hs.wf (E.glOf hs) hargs)).mono ?_
    rintro e w' ⟨g', v, rfl, hl, ho, hw, rfl, hv⟩
    exact hK g' v ho hw hl hv⟩

/-- the guard of an operation says yes, no -/
inductive GuardYes (ops : Array Oper) (fr : Fr) (o : Oper) : Prop
  | plain (h : o.guard = none)
  | yes {j d : Nat} {want t : Bool} (hg : o.guard = some (j, want)) (hj : (ops[j]?).bind (·.dst) = some d) (hv : fr.get d = .pv (.b (.bool t))) (ht : t = want)
inductive GuardNo (ops : Array Oper) (fr : Fr) (o : Oper) : Prop
  | no {j d : Nat} {want t : Bool} (hg : o.guard = some (j, want)) (hj : (ops[j]?).bind (·.dst) = some d) (hv : fr.get d = .pv (.b (.bool t))) (ht : t = !want)
  | none {j d : Nat} {want : Bool} (hg : o.guard = some (j, want)) (hj : (ops[j]?).bind (·.dst) = some d) (hv : fr.get d = .tup [])
/-- what the first operations yield -/
inductive Pres (E : Env) (ops : Array Oper) (fr : Fr) (σ : Sto) : List Oper → List AV → Prop
  | nil : Pres E ops fr σ [] []
  | run {o : Oper} {l : List Oper} {c : AV} {cs : List AV} (hg : GuardYes ops fr o) (h : OpG E o fr σ c) (hr : Pres E ops fr σ l cs) : Pres E ops fr σ (o :: l) (c :: cs)
  | skip {o : Oper} {l : List Oper} {cs : List AV} (hg : GuardNo ops fr o) (hr : Pres E ops fr σ l cs) : Pres E ops fr σ (o :: l) (.tup [] :: cs)
theorem Pres.len {ops : Array Oper} {l : List Oper} {cs : List AV} (h : Pres E ops fr σ l cs) : cs.length = l.length := by
  induction h with
  | nil => rfl
  | run _ _ _ ih => simp [ih]
  | skip _ _ ih => simp [ih]
theorem Pres.get {ops : Array Oper} {l : List Oper} {cs : List AV} (h : Pres E ops fr σ l cs) : ∀ {i : Nat} {o : Oper} {c : AV}, l[i]? = some o → cs[i]? = some c → (GuardYes ops fr o ∧ OpG E o fr σ c) ∨ (GuardNo ops fr o ∧ c = .tup []) := by
  induction h with
  | nil => intro i o c h1; simp at h1
  | run hg h _ ih =>
    intro i o c h1 h2
    cases i with
    | zero => simp at h1 h2; subst h1; subst h2; exact .inl ⟨hg, h⟩
    | succ i => exact ih (by simpa using h1) (by simpa using h2)
  | skip hg _ ih =>
    intro i o c h1 h2
    cases i with
    | zero => simp at h1 h2; subst h1; subst h2; exact .inr ⟨hg, rfl⟩
    | succ i => exact ih (by simpa using h1) (by simpa using h2)
/-- the slots that they write -/
def newOf : List Oper → List AV → Fr → Fr
  | o :: l, c :: cs, fr => newOf l cs (match o.dst with | some d => (d, c) :: fr | none => fr)
  | _, _, fr => fr

/-- the tmps that an operation looks at: its operands', its guard's -/
def tmpsOf (o : Oper) : List Nat := o.op.operands.toList.filterMap fun | .tmp t => some t | _ => none
/-- which operations come before each one, by binding edges: a bit each -/
def maskOf (acc : List Nat) (o : Oper) : Nat := o.after.toList.foldl (fun s e => bif Region.binds .any e then s ||| (2 ^ e.on ||| acc.getD e.on 0) else s) 0
def pushMask (l : List Oper) (n : Nat) (acc : List Nat) : List Nat := acc ++ [match l[n]? with | some o => maskOf acc o | none => 0]
def masksN (l : List Oper) : Nat → List Nat
  | 0 => []
  | n + 1 => pushMask l n (masksN l n)
def directly (o : Oper) (j : Nat) : Bool := o.after.toList.any fun e => Region.binds .any e && Nat.beq e.on j
/-- the first m operations: whatever they look at that one of them writes is written before; each has a slot of its own; the others come in the text's order -/
def drawOk (l : List Oper) (m : Nat) : Bool :=
  leadsBack .any l.toArray &&
  ((l.take m).all fun o => o.dst.isSome) &&
  (List.range m).all (fun i => (List.range m).all fun j => Nat.beq i j || (l[i]?).bind (·.dst) != (l[j]?).bind (·.dst)) &&
  ((l.take m).all fun o => (tmpsOf o).all fun t => (List.range m).all fun j => (l[j]?).bind (·.dst) != some t || directly o j) &&
  ((l.take m).all fun o => match o.guard with | none => true | some (j, _) => directly o j) &&
  (List.range l.length).all (fun i => Nat.ble (i + 1) m || (List.range i).all fun j => ((masksN l l.length).getD i 0).testBit j)

theorem foldl_bits {D : Nat → Bool} (acc : List Nat) (hacc : ∀ i j, (acc.getD i 0).testBit j = true → D i = true → D j = true) : ∀ (es : List Edge) (s : Nat), (∀ e ∈ es, Region.binds .any e = true → D e.on = true) → (∀ j, s.testBit j = true → D j = true) →
    ∀ j, (es.foldl (fun s e => bif Region.binds .any e then s ||| (2 ^ e.on ||| acc.getD e.on 0) else s) s).testBit j = true → D j = true
  | [], s, _, hs, j, h => hs j h
  | e :: es, s, he, hs, j, h => by
    rw [List.foldl_cons] at h
    refine foldl_bits acc hacc es _ (fun e' h' => he e' (by simp [h'])) ?_ j h
    intro j' hj'
    cases hb : Region.binds .any e with
    | false => rw [hb] at hj'; exact hs j' hj'
    | true =>
      rw [hb] at hj'
      simp only [cond_true, Nat.testBit_or, Bool.or_eq_true] at hj'
      have hd := he e (by simp) hb
      rcases hj' with h1 | h1 | h1
      · exact hs j' h1
      · rw [Nat.testBit_two_pow] at h1
        simp at h1
        rw [← h1]; exact hd
      · exact hacc e.on j' h1 hd
theorem masksN_len (l : List Oper) : ∀ n, (masksN l n).length = n
  | 0 => rfl
  | n + 1 => by simp [masksN, pushMask, masksN_len l n]
theorem masks_closed {D : Nat → Bool} {l : List Oper} (hcl : ∀ i o, l[i]? = some o → D i = true → ∀ e ∈ o.after, Region.binds .any e = true → D e.on = true) : ∀ (n i j : Nat), ((masksN l n).getD i 0).testBit j = true → D i = true → D j = true
  | 0, i, j, h, _ => by simp [masksN] at h
  | n + 1, i, j, h, hd => by
    have ih := masks_closed hcl n
    rcases Nat.lt_trichotomy i n with hlt | heq | hgt
    · rw [masksN, pushMask, List.getD_eq_getElem?_getD, List.getElem?_append_left (by rw [masksN_len]; exact hlt), ← List.getD_eq_getElem?_getD] at h
      exact ih i j h hd
    · subst heq
      rw [masksN, pushMask, List.getD_eq_getElem?_getD, List.getElem?_append_right (by rw [masksN_len]; exact Nat.le_refl _), masksN_len, Nat.sub_self] at h
      cases ho : l[i]? with
      | none => rw [ho] at h; simp at h
      | some o =>
        rw [ho] at h
        exact foldl_bits _ ih o.after.toList 0 (fun e he hb => hcl i o ho hd e (by simpa using he) hb) (fun j hj => by simp at hj) j h
    · rw [List.getD_eq_getElem?_getD, List.getElem?_eq_none (by rw [masksN_len]; omega)] at h
      simp at h
theorem masks_ready {D : Nat → Bool} {l : List Oper} (hcl : ∀ i o, l[i]? = some o → D i = true → ∀ e ∈ o.after, Region.binds .any e = true → D e.on = true) : ∀ (n i : Nat) (o : Oper), l[i]? = some o → (∀ e ∈ o.after, Region.binds .any e = true → D e.on = true) → ∀ j, ((masksN l n).getD i 0).testBit j = true → D j = true
  | 0, i, o, _, _, j, h => by simp [masksN] at h
  | n + 1, i, o, ho, he, j, h => by
    rcases Nat.lt_trichotomy i n with hlt | heq | hgt
    · rw [masksN, pushMask, List.getD_eq_getElem?_getD, List.getElem?_append_left (by rw [masksN_len]; exact hlt), ← List.getD_eq_getElem?_getD] at h
      exact masks_ready hcl n i o ho he j h
    · subst heq
      rw [masksN, pushMask, List.getD_eq_getElem?_getD, List.getElem?_append_right (by rw [masksN_len]; exact Nat.le_refl _), masksN_len, Nat.sub_self, ho] at h
      exact foldl_bits _ (masks_closed hcl i) o.after.toList 0 (fun e hm hb => he e (by simpa using hm) hb) (fun j hj => by simp at hj) j h
    · rw [List.getD_eq_getElem?_getD, List.getElem?_eq_none (by rw [masksN_len]; omega)] at h
      simp at h

theorem St.drew {g : G} {a : Act} (h : St E g a fr σ) : St E ⟨g.w.drew, g.u, g.loc⟩ a fr σ := by
  have hold : Old (fun _ => False) g ⟨g.w.drew, g.u, g.loc⟩ := ⟨rfl, rfl, rfl, ⟨Nat.le_refl _, fun _ _ => Nat.le_refl _, fun _ _ _ _ => rfl, fun _ h => h⟩, fun _ _ _ => ⟨rfl, rfl⟩⟩
  exact h.grow hold h.so.wf (fun _ _ => rfl)

theorem newOf_other : ∀ (l : List Oper) (cs : List AV) (fr : Fr) (d : Nat), (∀ o ∈ l, o.dst ≠ some d) → (newOf l cs fr).get d = fr.get d
  | [], cs, fr, d, _ => by cases cs <;> rfl
  | o :: l, [], fr, d, _ => rfl
  | o :: l, c :: cs, fr, d, h => by
    rw [newOf, newOf_other l cs _ d (fun o' h' => h o' (by simp [h']))]
    cases hd : o.dst with
    | none => rfl
    | some d' =>
      show Fr.get ((d', c) :: fr) d = _
      rw [Fr.get_cons, if_neg]
      rintro rfl
      exact h o (by simp) hd
theorem newOf_get : ∀ (l : List Oper) (cs : List AV) (fr : Fr) (i : Nat) (o : Oper) (c : AV) (d : Nat), (∀ (i j : Nat) (o o' : Oper), l[i]? = some o → l[j]? = some o' → i ≠ j → o.dst ≠ o'.dst) → l[i]? = some o → cs[i]? = some c → o.dst = some d → (newOf l cs fr).get d = c
  | [], cs, fr, i, o, c, d, _, h1, _, _ => by simp at h1
  | o' :: l, [], fr, i, o, c, d, _, _, h2, _ => by simp at h2
  | o' :: l, c' :: cs, fr, 0, o, c, d, hd, h1, h2, h3 => by
    simp at h1 h2
    subst h1; subst h2
    rw [newOf, newOf_other]
    · rw [h3]
      show Fr.get ((d, c') :: fr) d = c'
      rw [Fr.get_cons, if_pos rfl]
    · intro o2 ho2
      obtain ⟨j, hj, rfl⟩ := List.getElem_of_mem ho2
      rw [← h3]
      exact fun hc => hd 0 (j + 1) o' l[j] rfl (by simp [hj]) (by omega) hc.symm
  | o' :: l, c' :: cs, fr, i + 1, o, c, d, hd, h1, h2, h3 => by
    rw [newOf]
    exact newOf_get l cs _ i o c d (fun i j o o' hi hj hne => hd (i + 1) (j + 1) o o' (by simpa using hi) (by simpa using hj) (by omega)) (by simpa using h1) (by simpa using h2) h3
theorem newOf_append : ∀ (l : List Oper) (cs : List AV) (fr fr' : Fr), newOf l cs (fr ++ fr') = newOf l cs fr ++ fr'
  | [], cs, fr, fr' => by cases cs <;> rfl
  | o :: l, [], fr, fr' => rfl
  | o :: l, c :: cs, fr, fr' => by
    rw [newOf, newOf, ← newOf_append]
    cases o.dst <;> rfl

/-- while the region runs: the first m operations in any order, then the others in the text's -/
def JD (E : Env) (l : List Oper) (m : Nat) (cs : List AV) (fr : Fr) (σ : Sto) (K : Post) (D : Nat → Bool) (a : Act) (w : World) : Prop :=
  (∀ i o, l[i]? = some o → D i = true → ∀ e ∈ o.after, Region.binds .any e = true → D e.on = true) ∧
  ((∃ g, g.w = w ∧ (∀ i, m ≤ i → D i = false) ∧ (∃ i, i < m ∧ D i = false) ∧ a.tmps.size = E.N ∧ DokE E g.w a.defers ∧ Sok E.S E.g0 g σ ∧
     (∀ d, (∀ i o, i < m → l[i]? = some o → o.dst ≠ some d) → Rel g (fr.get d) (a.tmps.getD d undef)) ∧
     (∀ i o c d, i < m → D i = true → l[i]? = some o → cs[i]? = some c → o.dst = some d → Rel g c (a.tmps.getD d undef)))
   ∨ (∃ s, m ≤ s ∧ (∀ i, i < l.length → (D i = true ↔ i < s)) ∧ s ≤ l.length ∧ wpListIn (fen E.rd) 0 E.P l.toArray (Ends E K) (l.drop s) a w))

set_option maxHeartbeats 1000000 in
theorem awp_drawn {id : Nat} {l : List Oper} (m : Nat) (new : Fr) {cs : List AV} (hmix : E.P.follows .mixedOrders = true) (hok : drawOk l m = true) (hm : Nat.ble m l.length = true) (hN : ((l.take m).all fun o => o.dst.all fun d => Nat.ble (d + 1) E.N) = true)
    (hp : Pres E l.toArray (new ++ fr) σ (l.take m) cs) (hnew : newOf (l.take m) cs [] = new) (h : AWPL E l.toArray (l.drop m) (new ++ fr) σ K) : AWP E (.region id l.toArray true) fr σ K := by
  have hm := Nat.le_of_ble_eq_true hm
  simp only [drawOk, Bool.and_eq_true, List.all_eq_true] at hok
  obtain ⟨⟨⟨⟨⟨hlb, hsome⟩, hdist⟩, hdat⟩, hgrd⟩, hsuf⟩ := hok
  have hcslen : cs.length = m := by rw [hp.len]; simp; omega
  have htake : ∀ i, i < m → (l.take m)[i]? = l[i]? := fun i hi => List.getElem?_take_of_lt hi
  have hmem : ∀ i o, i < m → l[i]? = some o → o ∈ l.take m := fun i o hi ho => List.mem_of_getElem? (by rw [htake i hi]; exact ho)
  have hdist' : ∀ i j o o', i < m → j < m → l[i]? = some o → l[j]? = some o' → i ≠ j → o.dst ≠ o'.dst := by
    intro i j o o' hi hj ho ho' hne hc
    have := hdist i (by simpa using hi) j (by simpa using hj)
    simp only [Bool.or_eq_true, bne_iff_ne, ne_eq] at this
    rcases this with h1 | h1
    · exact hne (Nat.eq_of_beq_eq_true h1)
    · exact h1 (by rw [ho, ho']; simpa using hc)
  have hA : ∀ d, (∀ i o, i < m → l[i]? = some o → o.dst ≠ some d) → (new ++ fr).get d = fr.get d := by
    intro d hd
    rw [← hnew, ← newOf_append, List.nil_append]
    refine newOf_other _ _ _ _ fun o ho => ?_
    obtain ⟨i, hi, rfl⟩ := List.getElem_of_mem ho
    have hi' : i < m := by simp at hi; omega
    exact hd i _ hi' (by rw [← htake i hi']; exact List.getElem?_eq_getElem hi)
  have hB : ∀ i o c d, i < m → l[i]? = some o → cs[i]? = some c → o.dst = some d → (new ++ fr).get d = c := by
    intro i o c d hi ho hc hd
    rw [← hnew, ← newOf_append, List.nil_append]
    refine newOf_get _ _ _ i o c d (fun i j o o' h1 h2 hne => ?_) (by rw [htake i hi]; exact ho) hc hd
    have hi1 : i < m := by have := (List.getElem?_eq_some_iff.1 h1).1; simp at this; omega
    have hj1 : j < m := by have := (List.getElem?_eq_some_iff.1 h2).1; simp at this; omega
    rw [htake i hi1] at h1; rw [htake j hj1] at h2
    exact hdist' i j o o' hi1 hj1 h1 h2 hne
  have hsuf' : ∀ {D : Nat → Bool} i o, (∀ i o, l[i]? = some o → D i = true → ∀ e ∈ o.after, Region.binds .any e = true → D e.on = true) → m ≤ i → l[i]? = some o → (∀ e ∈ o.after, Region.binds .any e = true → D e.on = true) → ∀ j, j < i → D j = true := by
    intro D i o hcl hi ho he j hj
    have hil : i < l.length := (List.getElem?_eq_some_iff.1 ho).1
    have := hsuf i (by simpa using hil)
    simp only [Bool.or_eq_true, List.all_eq_true] at this
    rcases this with h1 | h1
    · have := Nat.le_of_ble_eq_true h1; omega
    · exact masks_ready hcl l.length i o ho he j (h1 j (by simpa using hj))
  have hdir : ∀ {D : Nat → Bool} {o : Oper} {j : Nat}, (∀ e ∈ o.after, Region.binds .any e = true → D e.on = true) → directly o j = true → D j = true := by
    intro D o j he hd
    simp only [directly, List.any_eq_true, Bool.and_eq_true] at hd
    obtain ⟨e, h1, h2, h3⟩ := hd
    rw [← Nat.eq_of_beq_eq_true h3]
    exact he e (by simpa using h1) h2
  refine ⟨fun g a hst => ?_⟩
  have hst0 := hst.drew
  refine wpIn_region_inv hmix hlb (JD E l m cs fr σ K) ⟨fun i o _ hd => by simp at hd, ?_⟩ ?_ ?_
  · by_cases h0 : m = 0
    · subst h0
      refine .inr ⟨0, Nat.le_refl _, fun i _ => by simp, Nat.zero_le _, ?_⟩
      have hn : new = [] := by rw [← hnew]; simp [newOf]
      subst hn
      have := h.go _ a hst0
      simpa using this
    · exact .inl ⟨⟨g.w.drew, g.u, g.loc⟩, rfl, fun _ _ => rfl, ⟨0, by omega, rfl⟩, hst0.n, hst0.df, hst0.so, fun d _ => hst0.fr d, fun i o c d _ hd => by simp at hd⟩
  · rintro D a w ⟨_, ⟨g, _, _, ⟨i, hi, hd⟩, _⟩ | ⟨s, hs1, hs2, hs3, hs4⟩⟩ hall
    · rw [hall i (by simp; omega)] at hd; cases hd
    · have : s = l.length := by
        rcases Nat.lt_or_ge s l.length with h1 | h1
        · have := (hs2 s h1).1 (hall s (by simpa using h1)); omega
        · omega
      subst this
      rw [List.drop_length] at hs4
      exact hs4
  · rintro D a w i o ⟨hcl, hJ⟩ ho hDi he
    have ho' : l[i]? = some o := by simpa using ho
    have hcl' : ∀ i' o', l[i']? = some o' → upd D i i' = true → ∀ e ∈ o'.after, Region.binds .any e = true → upd D i e.on = true := by
      intro i' o' h1 h2 e h3 h4
      unfold upd at h2 ⊢
      split
      · rfl
      · split at h2
        · rename_i hii; subst hii
          rw [ho'] at h1; cases h1
          exact he e h3 h4
        · exact hcl i' o' h1 h2 e h3 h4
    rcases hJ with ⟨g, rfl, hge, ⟨i0, hi0, hd0⟩, hsz, hdf, hso, hf0, hfD⟩ | ⟨s, hs1, hs2, hs3, hs4⟩
    · have him : i < m := by
        rcases Nat.lt_or_ge i m with h1 | h1
        · exact h1
        · have := hsuf' i o hcl h1 ho' he i0 (by omega)
          rw [hd0] at this; cases this
      obtain ⟨c, hc⟩ : ∃ c, cs[i]? = some c := ⟨cs[i]'(by omega), List.getElem?_eq_getElem (by omega)⟩
      have hslot : ∀ d, (∃ j o' , j < m ∧ l[j]? = some o' ∧ o'.dst = some d ∧ D j = true) ∨ (∀ j o', j < m → l[j]? = some o' → o'.dst ≠ some d) → Rel g ((new ++ fr).get d) (a.tmps.getD d undef) := by
        rintro d (⟨j, o', hj, ho1, hd1, hD1⟩ | hno)
        · obtain ⟨c', hc'⟩ : ∃ c, cs[j]? = some c := ⟨cs[j]'(by omega), List.getElem?_eq_getElem (by omega)⟩
          rw [hB j o' c' d hj ho1 hc' hd1]
          exact hfD j o' c' d hj hD1 ho1 hc' hd1
        · rw [hA d hno]; exact hf0 d hno
      have hops : ∀ x ∈ o.op.operands, Rel g ((new ++ fr).ev x) (a.eval x) := by
        intro x hx
        cases x with
        | const v => exact rel_const g v
        | global q => exact .pv (.b rfl)
        | func f => exact .fn (by simp) (by simp) (fun i c h => by simp at h) (fun i c h => by simp at h)
        | tmp t =>
          refine hslot t ?_
          by_cases hex : ∃ j o', j < m ∧ l[j]? = some o' ∧ o'.dst = some t
          · obtain ⟨j, o', hj, ho1, hd1⟩ := hex
            have h1 := hdat o (hmem i o him ho') t (by simp only [tmpsOf, List.mem_filterMap]; exact ⟨.tmp t, by simpa using hx, rfl⟩) j (by simpa using hj)
            simp only [Bool.or_eq_true, bne_iff_ne, ne_eq] at h1
            rcases h1 with h1 | h1
            · exact absurd (by rw [ho1]; simpa using hd1) h1
            · exact .inl ⟨j, o', hj, ho1, hd1, hdir he h1⟩
          · exact .inr fun j o' hj ho1 hd1 => hex ⟨j, o', hj, ho1, hd1⟩
      have hguard : ∀ j want d, o.guard = some (j, want) → (l.toArray[j]?).bind (·.dst) = some d → Rel g ((new ++ fr).get d) (a.tmps.getD d undef) := by
        intro j want d hg hj
        have h1 := hgrd o (hmem i o him ho')
        rw [hg] at h1
        have hDj := hdir he h1
        have hjm : j < m := by
          rcases Nat.lt_or_ge j m with h2 | h2
          · exact h2
          · rw [hge j h2] at hDj; cases hDj
        cases hoj : l[j]? with
        | none => rw [List.getElem?_toArray, hoj] at hj; cases hj
        | some o' =>
          rw [List.getElem?_toArray, hoj] at hj
          exact hslot d (.inl ⟨j, o', hjm, hoj, by simpa using hj, hDj⟩)
      -- the state behind the operation
      have hafter : ∀ (g' : G) (v : Value) (d : Nat), o.dst = some d → Old (fun _ => False) g g' → Wf g' → g'.loc = g.loc → Rel g' c v → JD E l m cs fr σ K (upd D i) (a.put o.dst v) g'.w := by
        intro g' v d hd hold hwf hloc hv
        refine ⟨hcl', ?_⟩
        have hdN : d < E.N := by
          rw [List.all_eq_true] at hN
          have := hN o (hmem i o him ho')
          rw [hd] at this
          exact Nat.le_of_ble_eq_true (by simpa using this)
        have hmono : ∀ c v, Rel g c v → Rel g' c v := fun c v hr => hr.mono hold.ext (fun k _ => by rw [hloc])
        have hso' := hso.grow hold hwf (fun k _ => by rw [hloc])
        have hget : ∀ d', (a.put o.dst v).tmps.getD d' undef = if d = d' then v else a.tmps.getD d' undef := by
          intro d'
          rw [hd]
          simp only [Act.put]
          rw [getD_set_eq]
          by_cases h1 : d = d'
          · rw [if_pos ⟨h1, by omega⟩, if_pos h1]
          · rw [if_neg (fun x => h1 x.1), if_neg h1]
        have hsz' : (a.put o.dst v).tmps.size = E.N := by rw [hd]; simp [Act.put, hsz]
        have hdf' : DokE E g'.w (a.put o.dst v).defers := by rw [hd]; exact hdf.mono hold.ext
        have hF0 : ∀ d', (∀ i o, i < m → l[i]? = some o → o.dst ≠ some d') → Rel g' (fr.get d') ((a.put o.dst v).tmps.getD d' undef) := by
          intro d' hno
          rw [hget, if_neg (by rintro rfl; exact hno i o him ho' hd)]
          exact hmono _ _ (hf0 d' hno)
        have hFD : ∀ i' o' c' d', i' < m → upd D i i' = true → l[i']? = some o' → cs[i']? = some c' → o'.dst = some d' → Rel g' c' ((a.put o.dst v).tmps.getD d' undef) := by
          intro i' o' c' d' hi' hD' h1 h2 h3
          by_cases hii : i' = i
          · subst hii
            rw [ho'] at h1; cases h1
            rw [hc] at h2; cases h2
            rw [hd] at h3; cases h3
            rw [hget, if_pos rfl]
            exact hv
          · have hD1 : D i' = true := by unfold upd at hD'; rwa [if_neg hii] at hD'
            have hne : d ≠ d' := by
              rintro rfl
              exact hdist' i' i o' o hi' him h1 ho' hii (h3.trans hd.symm)
            rw [hget, if_neg hne]
            exact hmono _ _ (hfD i' o' c' d' hi' hD1 h1 h2 h3)
        have hge' : ∀ i', m ≤ i' → upd D i i' = false := by
          intro i' hi'
          unfold upd
          rw [if_neg (by omega)]
          exact hge i' hi'
        by_cases hex : ∃ i', i' < m ∧ upd D i i' = false
        · exact .inl ⟨g', rfl, hge', hex, hsz', hdf', hso', hF0, hFD⟩
        · refine .inr ⟨m, Nat.le_refl _, fun i' _ => ⟨fun h1 => ?_, fun h1 => ?_⟩, hm, h.go g' _ ⟨fun d' => ?_, hsz', hdf', hso'⟩⟩
          · rcases Nat.lt_or_ge i' m with h2 | h2
            · exact h2
            · rw [hge' i' h2] at h1; cases h1
          · cases h2 : upd D i i' with
            | true => rfl
            | false => exact absurd ⟨i', h1, h2⟩ hex
          · by_cases hex2 : ∃ j o', j < m ∧ l[j]? = some o' ∧ o'.dst = some d'
            · obtain ⟨j, o', hj, h1, h2⟩ := hex2
              obtain ⟨c', hc'⟩ : ∃ c, cs[j]? = some c := ⟨cs[j]'(by omega), List.getElem?_eq_getElem (by omega)⟩
              rw [hB j o' c' d' hj h1 hc' h2]
              refine hFD j o' c' d' hj ?_ h1 hc' h2
              cases h3 : upd D i j with
              | true => rfl
              | false => exact absurd ⟨j, hj, h3⟩ hex
            · rw [hA d' (fun j o' hj h1 h2 => hex2 ⟨j, o', hj, h1, h2⟩)]
              exact hF0 d' (fun j o' hj h1 h2 => hex2 ⟨j, o', hj, h1, h2⟩)
      obtain ⟨d, hd⟩ : ∃ d, o.dst = some d := by
        have := hsome o (hmem i o him ho')
        cases hd : o.dst with
        | none => rw [hd] at this; cases this
        | some d => exact ⟨d, rfl⟩
      unfold wpOpIn
      rw [ho]
      simp only
      rcases hp.get (i := i) (by rw [htake i him]; exact ho') hc with ⟨hg, hop⟩ | ⟨hg, rfl⟩
      · have hw : Region.wanted o (yielded l.toArray a.tmps) = true := by
          cases hg with
          | plain h1 => simp [Region.wanted, h1]
          | @yes j d' want t h1 h2 h3 h4 =>
            have hr := hguard j want d' h1 h2
            rw [h3] at hr
            have hy : yielded l.toArray a.tmps j = some t := by
              unfold yielded
              rw [h2]
              simp only [Option.bind_some]
              have h5 := rel_bool hr
              cases hx : a.tmps[d']? with
              | none => rw [Array.getD_eq_getD_getElem?, hx] at h5; simp [undef] at h5
              | some x => rw [Array.getD_eq_getD_getElem?, hx] at h5; simp at h5; rw [h5]
            have h6 : (yielded l.toArray a.tmps j == some want) = true := by rw [hy, h4]; cases want <;> rfl
            simp only [Region.wanted, h1, h6]
        simp only [hw, if_true]
        exact hop.go g a _ _ hops hso fun g' v h1 h2 h3 h4 => hafter g' v d hd h1 h2 h3 h4
      · have hw : Region.wanted o (yielded l.toArray a.tmps) = false := by
          cases hg with
          | @no j d' want t h1 h2 h3 h4 =>
            have hr := hguard j want d' h1 h2
            rw [h3] at hr
            have hy : yielded l.toArray a.tmps j = some t := by
              unfold yielded
              rw [h2]
              simp only [Option.bind_some]
              have h5 := rel_bool hr
              cases hx : a.tmps[d']? with
              | none => rw [Array.getD_eq_getD_getElem?, hx] at h5; simp [undef] at h5
              | some x => rw [Array.getD_eq_getD_getElem?, hx] at h5; simp at h5; rw [h5]
            have h6 : (yielded l.toArray a.tmps j == some want) = false := by rw [hy, h4]; cases want <;> rfl
            simp only [Region.wanted, h1, h6]
          | @none j d' want h1 h2 h3 =>
            have hr := hguard j want d' h1 h2
            rw [h3] at hr
            have hy : yielded l.toArray a.tmps j = none := by
              unfold yielded
              rw [h2]
              simp only [Option.bind_some]
              cases hx : a.tmps[d']? with
              | none => rfl
              | some x => rw [Array.getD_eq_getD_getElem?, hx] at hr; simp only [Option.getD_some] at hr; cases hr; rfl
            have h6 : (yielded l.toArray a.tmps j == some want) = false := by rw [hy]; rfl
            simp only [Region.wanted, h1, h6]
        simp only [hw]
        exact ⟨fun _ _ => trivial, hafter g undef d hd (Old.refl _ g) hso.wf rfl (.tup rfl (fun i c hi => by simp at hi))⟩
    · have hil : i < l.length := (List.getElem?_eq_some_iff.1 ho').1
      have his : s ≤ i := by
        rcases Nat.lt_or_ge i s with h1 | h1
        · rw [(hs2 i hil).2 h1] at hDi; cases hDi
        · exact h1
      have hsi : i = s := by
        rcases Nat.lt_or_ge s i with h1 | h1
        · have := hsuf' i o hcl (by omega) ho' he s h1
          have := (hs2 s (by omega)).1 this
          omega
        · omega
      subst hsi
      have hdrop : l.drop i = o :: l.drop (i + 1) := by
        rw [List.drop_eq_getElem_cons hil]
        congr 1
        exact (List.getElem?_eq_some_iff.1 ho').2
      rw [hdrop] at hs4
      unfold wpOpIn
      rw [ho]
      simp only [wpListIn] at hs4 ⊢
      have hJ' : ∀ a' w', wpListIn (fen E.rd) 0 E.P l.toArray (Ends E K) (l.drop (i + 1)) a' w' → JD E l m cs fr σ K (upd D i) a' w' := by
        intro a' w' hw'
        refine ⟨hcl', .inr ⟨i + 1, by omega, fun i' hi' => ?_, by omega, hw'⟩⟩
        unfold upd
        split
        · rename_i hii; subst hii; simp
        · rename_i hii
          rw [hs2 i' hi']
          omega
      split
      · rename_i hw
        rw [if_pos hw] at hs4
        exact Oper.wpIn_mono hJ' hs4
      · rename_i hw
        rw [if_neg hw] at hs4
        exact ⟨hs4.1, hJ' _ _ hs4.2⟩

end Go.Proofs.Ytpclhpncmlbccaa

/- The abstract calculus: literals and []byte(s) among operations in any order. No program is named. -/
namespace Go.Proofs.Ytpclhpncmlbccaa
open Go.RowKit Go.Lib

variable {E : Env} {fr : Fr} {σ : Sto} {K : Post}
variable {dst : Option Tmp} {ty : TypeId} {pos : String} {af : Array Edge} {gu : Option (Nat × Bool)}
theorem opTo_g {o : Oper} {d : Nat} {c : AV} (hd : o.dst = some d) (hN : Nat.ble (d + 1) E.N = true) (h : OpG E o fr σ c) : OpTo E o fr σ ((d, c) :: fr) σ :=
  ⟨fun g a K Q hst hK => h.go g a K Q (fun x _ => hst.ev x) hst.so fun g' v ho hw hl hv => by
    rw [hd]
    exact hK g' _ ((hst.grow ho hw (fun k _ => by rw [hl])).put (Nat.le_of_ble_eq_true hN) hv)⟩
/-- .. the value is a slice of a new block -/
structure OpGN (E : Env) (o : Oper) (fr : Fr) (σ : Sto) (c : AV) : Prop where
  go : ∀ g a (K : Act → World → Prop) (Q : Exit → Act → World → Prop), (∀ x ∈ o.op.operands, Rel g (fr.ev x) (a.eval x)) → Sok E.S E.g0 g σ → (∀ g' v, Old (fun _ => False) g g' → Wf g' → g'.loc = g.loc → Rel g' c v → (∃ n cp, v = .slice (some ⟨g.w.heap.size, 0, none⟩) n cp) → K (a.put o.dst v) g'.w) → o.wpIn (fen E.rd) 0 E.P a g.w K Q
theorem OpGN.g {E : Env} {o : Oper} {fr : Fr} {σ : Sto} {c : AV} (h : OpGN E o fr σ c) : OpG E o fr σ c := ⟨fun g a K Q hx hs hK => h.go g a K Q hx hs fun g' v h1 h2 h3 h4 _ => hK g' v h1 h2 h3 h4⟩
section
variable {α : Type} {F : α → List PV} {l : List α} {size bytes sb ss k n : Nat} {e t : TypeId} {zero sz : Value} {d : TypeDesc}
/-- a literal of a slice -/
theorem opGN_lit {ps : List (Nat × Operand)} (ht : TyOk E.P t ss sb sz (.slice e)) (he : TyOk E.P e size bytes zero d) (hzs : (Nat.beq zero.cells.size size && Nat.ble 1 size && zero.cells.toList.all cellV) = true) (hF : ∀ x, (F x).length = size) (hln : Nat.beq l.length n && Nat.ble (n * size) 16777216)
    (hc : fillA (fun i => some (i * size, size)) (List.replicate (n * size) .any) (ps.map fun p => (p.1, (fr.ev p.2).weak)) = some (l.flatMap fun x => (F x).map AV.pv)) :
    OpGN E ⟨dst, .buildSlice t n ps.toArray, ty, pos, af, gu⟩ fr σ (.l F l) :=
  ⟨fun g a K Q hx0 hso hK => by
    simp only [Bool.and_eq_true] at hzs hln
    have hz1 := Nat.eq_of_beq_eq_true hzs.1.1
    have hz2 := Nat.le_of_ble_eq_true hzs.1.2
    have hn1 := Nat.eq_of_beq_eq_true hln.1
    have hn2 := Nat.le_of_ble_eq_true hln.2
    subst hn1
    refine ⟨fun _ _ => trivial, ?_⟩
    rw [Oper.semAt_plain _ _ _ (fun c => by simp)]
    generalize hzero : (if l.length * size = 0 then #[] else zero.cells) = zc
    generalize harr : ((Array.range (l.length * size)).map (fun i => zc[i % zc.size]!)) = arr
    have hasz : arr.size = l.length * size := by rw [← harr]; simp
    have hacell : ∀ i, i < arr.size → cellV (arr.getD i undef) = true := by
      intro i hi
      rw [hasz] at hi
      have hne : l.length * size ≠ 0 := by omega
      rw [if_neg hne] at hzero
      subst hzero
      have hlt : i % zero.cells.size < zero.cells.size := Nat.mod_lt _ (by omega)
      have : arr.getD i undef = zero.cells[i % zero.cells.size] := by
        rw [← harr]; simp [hi, hlt]
      rw [this]
      have h3 := hzs.2
      rw [List.all_eq_true] at h3
      exact h3 _ (by simp)
    obtain ⟨out, h1, h2⟩ := fill_ok (g := g) (ps.map fun p => (p.1, (fr.ev p.2).weak)) (ps.map fun p => (p.1, a.eval p.2)) (List.replicate (l.length * size) .any) arr (l.flatMap fun x => (F x).map AV.pv)
      ⟨by simp [hasz], hacell, fun i c hi => by
        have := List.mem_of_getElem? hi
        rw [List.mem_replicate] at this
        rw [this.2]; exact .any _⟩ (by simp) (fun i p v hp hv => by
      simp only [List.getElem?_map, Option.map_eq_some_iff] at hp hv
      obtain ⟨q, hq, rfl⟩ := hp
      obtain ⟨q', hq', rfl⟩ := hv
      rw [hq] at hq'
      cases hq'
      exact ⟨rfl, rel_weak (hx0 q.2 (by simp only [Op.operands, List.mem_toArray, List.mem_map]; exact ⟨q, List.mem_of_getElem? hq, rfl⟩))⟩) hc
    have hrun : (execOp a.eval ⟨dst, .buildSlice t l.length ps.toArray, ty, pos, af, gu⟩).run E.P g.w = .ok (.value (.slice (some ⟨g.w.heap.size, 0, none⟩) l.length l.length)) (g.w.alloc (.cells out e)) := by
      show Sem.run E.P (do let v ← Instr.buildSlice t l.length (ps.toArray.map fun (i, x) => (i, a.eval x)); pure (Next.value v)) g.w = _
      have e1 : (ps.toArray.map fun (x : Nat × Operand) => (x.1, a.eval x.2)).toList = ps.map fun p => (p.1, a.eval p.2) := by simp
      have hgt : ¬ (l.length * size > 2 ^ 24) := by simp; omega
      by_cases h0 : l.length * size = 0
      · rw [if_pos h0] at hzero; subst hzero
        simp only [Instr.buildSlice, underlying, program, Sem.run_bind, Sem.run, ht.u, he.sizeOf, Result.andThen_ok, Sem.run_pure, if_neg hgt, if_pos h0, e1, harr, h1]
        rfl
      · rw [if_neg h0] at hzero; subst hzero
        simp only [Instr.buildSlice, underlying, program, Sem.run_bind, Sem.run, ht.u, he.sizeOf, Result.andThen_ok, Sem.run_pure, if_neg hgt, if_neg h0, he.zeroValue, e1, harr, h1]
        rfl
    rw [hrun, Oper.uponIn_value]
    have hosz : out.size = l.length * size := by rw [h2.n, flatMap_len hF]
    have hold := old_alloc g out e (l.length * size) 0 (g.loc 0)
    have hwf := wf_alloc hso.wf out e (l.length * size) 0 (g.loc 0)
    have hloc : ∀ q, (g.alloc out e (l.length * size) 0 (g.loc 0)).loc q = g.loc q := fun q => by show (if q = 0 then g.loc 0 else g.loc q) = g.loc q; split <;> simp_all
    refine hK _ _ hold hwf (funext hloc) (rel_new (g := g) (out := out) hF (Nat.le_of_eq hosz.symm) (Nat.le_refl _) ?_ ?_ (if_pos rfl) ?_) ⟨_, _, rfl⟩
    · rw [show (g.alloc out e (l.length * size) 0 (g.loc 0)).w.heap[g.w.heap.size]? = some (.cells out e (0, 0)) from heap_alloc_new _ _]; simp
    · intro i hi
      exact cell_of_heap (heap_alloc_new _ _) hi
    · intro i j x c hi hj
      have := h2.r _ _ (flatMap_get hF l i j x c hi hj)
      cases this with
      | pv h => exact h.mono hold.ext⟩
theorem opG_lit {ps : List (Nat × Operand)} (ht : TyOk E.P t ss sb sz (.slice e)) (he : TyOk E.P e size bytes zero d) (hzs : (Nat.beq zero.cells.size size && Nat.ble 1 size && zero.cells.toList.all cellV) = true) (hF : ∀ x, (F x).length = size) (hln : Nat.beq l.length n && Nat.ble (n * size) 16777216)
    (hc : fillA (fun i => some (i * size, size)) (List.replicate (n * size) .any) (ps.map fun p => (p.1, (fr.ev p.2).weak)) = some (l.flatMap fun x => (F x).map AV.pv)) :
    OpG E ⟨dst, .buildSlice t n ps.toArray, ty, pos, af, gu⟩ fr σ (.l F l) := (opGN_lit ht he hzs hF hln hc).g
end
/-- []byte(s) -/
theorem opG_s2bytes {k : Nat} {t t' e : TypeId} {x : Operand} {s : Str} {ss sb ss' sb' s1 s2 : Nat} {sz sz' z : Value} (hx : fr.ev x = .s s) (ht : TyOk E.P t ss sb sz .string) (ht' : TyOk E.P t' ss' sb' sz' (.slice e)) (he : TyOk E.P e s1 s2 z (.int .u8)) :
    OpG E ⟨dst, .convert t t' x, ty, pos, af, gu⟩ fr σ (.l cU s) :=
  ⟨fun g a K Q hx0 hso hK => by
    refine ⟨fun _ _ => trivial, ?_⟩
    rw [Oper.semAt_plain _ _ _ (fun c => by simp)]
    have h1 := hx0 x (by simp [Op.operands])
    rw [hx] at h1
    have e1 := rel_b h1
    generalize hcap : (Question.appendCap s.length 0 e).cut (g.w.tape g.w.drawn (.appendCap s.length 0 e)) = cap
    have hge : s.length ≤ cap := by rw [← hcap]; simp [Question.cut]
    generalize hcells : ((strB s).data.map (fun b => Value.int .u8 (b.toNat : Int)) ++ Array.replicate (cap - s.length) (Value.int .u8 0)) = cells
    have hsz : cells.size = cap := by rw [← hcells]; simp [strB]; omega
    have hget : ∀ i c, s[i]? = some c → cells.getD i undef = .int .u8 (c.toNat : Int) := by
      intro i c hi
      have hlt := (List.getElem?_eq_some_iff.1 hi).1
      rw [← hcells, Array.getD_eq_getD_getElem?, Array.getElem?_append_left (by simpa [strB] using hlt)]
      simp [strB, hi]
    have hrun : (execOp a.eval ⟨dst, .convert t t' x, ty, pos, af, gu⟩).run E.P g.w = .ok (.value (.slice (some ⟨g.w.heap.size, 0, none⟩) s.length cap)) ((g.w.drew.alloc (.cells cells e)).freeze ⟨g.w.heap.size, cap, none⟩ 1) := by
      show Sem.run E.P (do let v ← convert t t' (a.eval x); pure (Next.value v)) g.w = _
      rw [e1]
      have hsh : (g.w.drew.alloc (.cells cells e)).shape? g.w.heap.size = some (e, cap) := by
        simp only [World.shape?]
        rw [show (g.w.drew.alloc (.cells cells e)).heap[g.w.heap.size]? = some (.cells cells e (0, 0)) from heap_alloc_new g.w.drew _]
        simp [hsz]
      simp only [convert, underlying, program, Sem.run_bind, Sem.run, ht.u, ht'.u, he.u, Result.andThen_ok, Sem.run_pure, Conv.stringToBytes, choose, Question.forced, Bool.false_eq_true, if_false, strB_size, hcap, hcells, newRow, newObj, markStringish, shape, freeze]
      show Result.andThen (Result.andThen (Sem.run E.P (match (g.w.drew.alloc (.cells cells e)).shape? g.w.heap.size with | some (_, n) => Sem.freeze ⟨g.w.heap.size, n, none⟩ 1 (Sem.pure ()) | _ => pure ()) (g.w.drew.alloc (.cells cells e))) fun _ w' => .ok (Value.slice (some ⟨g.w.heap.size, 0, none⟩) s.length cap) w') (fun v w' => .ok (Next.value v) w') = _
      rw [hsh]
      rfl
    rw [hrun, Oper.uponIn_value]
    generalize hw : (g.w.drew.alloc (.cells cells e)).freeze ⟨g.w.heap.size, cap, none⟩ 1 = w'
    have hblk : w'.heap[g.w.heap.size]? = some (.cells cells e (cap, cap + 1)) := by
      subst hw
      simp only [World.freeze, Nat.one_ne_zero, if_false, Array.getElem?_modify, if_true]
      rw [show (g.w.drew.alloc (.cells cells e)).heap[g.w.heap.size]? = some (.cells cells e (0, 0)) from heap_alloc_new g.w.drew _]
      rfl
    have hother : ∀ q, q < g.w.heap.size → w'.heap[q]? = g.w.heap[q]? := by
      intro q hq
      subst hw
      simp only [World.freeze, Nat.one_ne_zero, if_false, Array.getElem?_modify]
      rw [if_neg (by omega)]
      exact Below.heap_alloc g.w.drew _ _ hq
    have hws : w'.heap.size = g.w.heap.size + 1 := by subst hw; simp [World.freeze]
    have hold : Old (fun _ => False) g ⟨w', fun q => if q = g.w.heap.size then s.length else g.u q, g.loc⟩ := by
      refine ⟨by subst hw; first | (simp [World.freeze]; done) | (simp [World.freeze]; rfl), by subst hw; first | (simp [World.freeze]; done) | (simp [World.freeze]; rfl), by subst hw; first | (simp [World.freeze]; done) | (simp [World.freeze]; rfl), ⟨by show _ ≤ w'.heap.size; omega, fun q hq => ?_, fun q i hq hi => ?_, ?_⟩, fun q hq _ => ⟨hother q hq, if_neg (by omega)⟩⟩
      · show g.u q ≤ if q = g.w.heap.size then s.length else g.u q
        rw [if_neg (by omega)]; exact Nat.le_refl _
      · simp only [World.cell?]; rw [hother q hq]
      · intro r hr; exact (hother r (blk_lt hr)).trans hr
    have hwf : Wf ⟨w', fun q => if q = g.w.heap.size then s.length else g.u q, g.loc⟩ := by
      intro q hq
      have hq : g.w.heap.size + 1 ≤ q := by rw [← hws]; exact hq
      show (if q = g.w.heap.size then s.length else g.u q) = 0
      rw [if_neg (by omega)]
      exact hso.wf q (by omega)
    refine hK ⟨w', fun q => if q = g.w.heap.size then s.length else g.u q, g.loc⟩ _ hold hwf rfl (rel_new (g := g) (out := cells) (F := cU) (size := 1) (fun _ => rfl) (by omega) hge ?_ ?_ ?_ ?_)
    · show w'.heap[g.w.heap.size]? ≠ none
      rw [hblk]; simp
    · intro i hi
      exact cell_of_heap hblk hi
    · show (if g.w.heap.size = g.w.heap.size then s.length else _) = _
      rw [if_pos rfl, Nat.mul_one]
    · intro i j c0 c hi hj
      have : j = 0 := by have := (List.getElem?_eq_some_iff.1 hj).1; simp [cU] at this; exact this
      subst this
      simp [cU] at hj
      subst hj
      rw [Nat.mul_one, Nat.add_zero, hget i c0 hi]
      exact .b rfl⟩

end Go.Proofs.Ytpclhpncmlbccaa

/- The abstract calculus: calls that share the store (entered in place), ranges over functions, yield. No program is named. -/
namespace Go.Proofs.Ytpclhpncmlbccaa
open Go.RowKit Go.Lib

variable {E : Env} {fr : Fr} {σ : Sto} {K : Post}

/-- slots that are kept while another frame runs -/
inductive Keep (fr : Fr) : Fr → Prop
  | nil : Keep fr []
  | cons {k : Nat} {c : AV} {l : Fr} (h : fr.get k = c) (hr : Keep fr l) : Keep fr ((k, c) :: l)
def holds (base : Nat) (T : Array Value) : Fr → Sto
  | [] => []
  | (d, c) :: l => (base + d, .hold c (T.getD d undef)) :: holds base T l
/-- slots that have been kept -/
inductive Held (σ : Sto) (base : Nat) (T : Array Value) : Fr → Prop
  | nil : Held σ base T []
  | cons {d : Nat} {c : AV} {l : Fr} (h : σ.get (base + d) = some (.hold c (T.getD d undef))) (hr : Held σ base T l) : Held σ base T ((d, c) :: l)

theorem St.addHold {g : G} {a : Act} (h : St E g a fr σ) (id : Nat) {c : AV} {v : Value} (hr : Rel g c v) : St E g a fr ((id, .hold c v) :: σ) := by
  have hget : ∀ o ob, Sto.get ((id, .hold c v) :: σ) o = some ob → ob = .hold c v ∨ σ.get o = some ob := by
    intro o ob hg
    rw [Sto.get_cons] at hg
    split at hg
    · cases hg; exact .inl rfl
    · exact .inr hg
  refine ⟨h.fr, h.n, h.df, ⟨fun o ob ho => ?_, fun o o' ob ob' b h1 h2 h3 h4 => ?_, fun o ob b h1 h2 => ?_, h.so.old, h.so.wf⟩⟩
  · rcases hget o ob ho with rfl | h1
    · exact .hold hr
    · exact h.so.obj o ob h1
  · rcases hget o ob h1 with rfl | h1
    · cases h3
    · rcases hget o' ob' h2 with rfl | h2
      · cases h4
      · exact h.so.apart o o' ob ob' b h1 h2 h3 h4
  · rcases hget o ob h1 with rfl | h1
    · cases h2
    · exact h.so.mine o ob b h1 h2
theorem St.addSus {g : G} {a : Act} (h : St E g a fr σ) (id B : Nat) {ds : List Deferred} (hr : Dok B g.w ds) : St E g a fr ((id, .sus B ds) :: σ) := by
  have hget : ∀ o ob, Sto.get ((id, .sus B ds) :: σ) o = some ob → ob = .sus B ds ∨ σ.get o = some ob := by
    intro o ob hg
    rw [Sto.get_cons] at hg
    split at hg
    · cases hg; exact .inl rfl
    · exact .inr hg
  refine ⟨h.fr, h.n, h.df, ⟨fun o ob ho => ?_, fun o o' ob ob' b h1 h2 h3 h4 => ?_, fun o ob b h1 h2 => ?_, h.so.old, h.so.wf⟩⟩
  · rcases hget o ob ho with rfl | h1
    · exact .sus hr
    · exact h.so.obj o ob h1
  · rcases hget o ob h1 with rfl | h1
    · cases h3
    · rcases hget o' ob' h2 with rfl | h2
      · cases h4
      · exact h.so.apart o o' ob ob' b h1 h2 h3 h4
  · rcases hget o ob h1 with rfl | h1
    · cases h2
    · exact h.so.mine o ob b h1 h2
theorem St.addHolds {g : G} {a : Act} {keep : Fr} (h : St E g a fr σ) (base : Nat) (hk : Keep fr keep) : St E g a fr (holds base a.tmps keep ++ σ) := by
  induction hk with
  | nil => exact h
  | @cons k c l h1 hr ih => exact ih.addHold (base + k) (by have := h.fr k; rw [h1] at this; exact this)
theorem held_frame {g : G} {base : Nat} {T : Array Value} {fr' : Fr} (hs : ∀ o ob, σ.get o = some ob → RelO g o ob) (h : Held σ base T fr') : ∀ d, Rel g (fr'.get d) (T.getD d undef) := by
  induction h with
  | nil => exact fun d => .any _
  | @cons d c l h1 hr ih =>
    intro e
    rw [Fr.get_cons]
    split
    · rename_i he; subst he
      cases hs _ _ h1 with
      | hold h2 => exact h2
    · exact ih e
/-- the store of one frame under another frame -/
theorem St.frame {E' : Env} {g : G} {a a' : Act} {fr' : Fr} (h : St E g a fr σ) (hS : E'.S = E.S) (hg : E'.g0 = E.g0) (hf : ∀ d, Rel g (fr'.get d) (a'.tmps.getD d undef)) (hn : a'.tmps.size = E'.N) (hd : DokE E' g.w a'.defers) : St E' g a' fr' σ :=
  ⟨hf, hn, hd, by rw [hS, hg]; exact h.so⟩

/-- an operation that is not passed over -/
structure Wanted (E : Env) (ops : Array Oper) (o : Oper) (fr : Fr) (σ : Sto) : Prop where
  go : ∀ g a, St E g a fr σ → Region.wanted o (yielded ops a.tmps) = true
theorem wanted_plain {ops : Array Oper} {o : Oper} (hg : o.guard = none) : Wanted E ops o fr σ := ⟨fun g a hs => by simp [Region.wanted, hg]⟩
theorem wanted_yes {ops : Array Oper} {o : Oper} {j d : Nat} {want t : Bool} (hg : o.guard = some (j, want)) (hj : (ops[j]?).bind (·.dst) = some d) (hv : fr.get d = .pv (.b (.bool t))) (ht : t = want) : Wanted E ops o fr σ :=
  ⟨fun g a hs => by
    have hy := yielded_of hs hj hv
    simp [Region.wanted, hg, hy, ht]⟩

/-- **a call of a known function, entered in place**: it shares the store -/
theorem awpl_inline {gu : Option (Nat × Bool)} {ops rest} {k f : Nat} {fn : Func} {c : Code} {fx : Operand} {xs : List Operand} {ats : Array TypeId} {ty : TypeId} {pos : String} {af : Array Edge} {first cap args : List AV} (base sid : Nat) (keep : Fr) (hw : Wanted E ops ⟨some k, .call ⟨.value fx, xs.toArray, ats⟩, ty, pos, af, gu⟩ fr σ) (hf : fr.ev fx = .fn (.func f) first cap) (hok : FnOk E.P f fn c)
    (hN : (Nat.ble (k + 1) E.N && Nat.ble args.length fn.ntmps) = true) (ha : first ++ xs.map fr.ev ++ cap = args) (hk : Keep fr keep)
    (h : ∀ (T : Array Value) (ds : List Deferred), T.size = E.N → AWP ⟨E.P, none, E.g0, fn.ntmps, true, E.gl, E.S, E.sg⟩ c (frameFrom 0 args) ((sid, .sus E.g0.w.heap.size ds) :: (holds base T keep ++ σ))
      (fun e fr' σ' => (e = .ret ∨ e = .normal) ∧ ∃ cs fr'' σ'', ResL E.P fr' σ' fn.results.toList cs ∧ Held σ' base T fr'' ∧ σ'.get sid = some (.sus E.g0.w.heap.size ds) ∧ StoLe σ' σ'' ∧ AWPL E ops rest ((k, retAV cs) :: fr'') σ'' K)) :
    AWPL E ops (⟨some k, .call ⟨.value fx, xs.toArray, ats⟩, ty, pos, af, gu⟩ :: rest) fr σ K :=
  ⟨fun g a hst => by
    simp only [Bool.and_eq_true] at hN
    have hk1 := Nat.le_of_ble_eq_true hN.1
    have hN2 := Nat.le_of_ble_eq_true hN.2
    have hw := hw.go g a hst
    simp only [wpListIn, hw, if_true]
    refine ⟨fun _ _ => trivial, ?_⟩
    have hfv := hst.ev fx
    rw [hf] at hfv
    generalize hev : a.eval fx = fv at hfv
    cases hfv with
    | @fn _ _ _ firstV capV l1 l2 r1 r2 =>
      rw [Oper.semAt_plain _ _ _ (fun c => by simp), run_call_op hok hev, Oper.uponIn_enter]
      refine ⟨fun h => by simp [fen] at h, ?_⟩
      have hargs : RelArgs g args (firstV ++ xs.toArray.map a.eval ++ capV) := by
        subst ha
        refine ⟨by simp [l1, l2], fun i c' hi => ?_⟩
        rw [Array.getD_eq_getD_getElem?]
        rcases Nat.lt_or_ge i (first.length + xs.length) with hlt | hge
        · rw [Array.getElem?_append_left (by simp [l1]; omega)]
          rw [List.getElem?_append_left (by simp; omega)] at hi
          rcases Nat.lt_or_ge i first.length with hlt2 | hge2
          · rw [Array.getElem?_append_left (by rw [l1]; exact hlt2), ← Array.getD_eq_getD_getElem?]
            rw [List.getElem?_append_left hlt2] at hi
            exact r1 i c' hi
          · rw [Array.getElem?_append_right (by rw [l1]; exact hge2), l1]
            rw [List.getElem?_append_right hge2] at hi
            simp only [List.getElem?_map, Option.map_eq_some_iff] at hi
            obtain ⟨x, hx, rfl⟩ := hi
            have := hst.ev x
            simpa [hx] using this
        · rw [Array.getElem?_append_right (by simp [l1]; omega)]
          rw [List.getElem?_append_right (by simp; omega)] at hi
          have e1 : i - (firstV ++ xs.toArray.map a.eval).size = i - (first ++ xs.map fr.ev).length := by simp [l1]
          rw [e1, ← Array.getD_eq_getD_getElem?]
          exact r2 _ c' hi
      obtain ⟨hsz, ha'⟩ := hargs
      refine callsIn_fen (callsIn_of_wp hok.f hok.b trivial ?_)
      have hst1 := (hst.addHolds base hk).addSus sid E.g0.w.heap.size hst.df.ok
      refine wpIn_mono ((h a.tmps a.defers hst.n).go g _ (hst1.frame (E' := ⟨E.P, none, E.g0, fn.ntmps, true, E.gl, E.S, E.sg⟩) rfl rfl (fun d => ?_) (by simp; simp at hsz; omega) ⟨Dok.nil _ _, fun _ => rfl⟩)) ?_
      · rw [frameFrom_get]
        simp only [Nat.zero_le, if_true, Nat.sub_zero]
        cases hc : args[d]? with
        | none => exact .any _
        | some c' =>
          have hlt : d < (firstV ++ xs.toArray.map a.eval ++ capV).size := by rw [hsz]; exact (List.getElem?_eq_some_iff.1 hc).1
          have := ha' d c' hc
          rw [Array.getD_eq_getD_getElem?, Array.getElem?_append_left hlt, ← Array.getD_eq_getD_getElem?]
          exact this
      · rintro e a2 w' ⟨g', fr', σ', rfl, hst', he, cs, fr'', σ'', hres, hheld, hsus, hle, hrest⟩
        obtain ⟨v, h1, h2⟩ := results_run (P := E.P) hres hst'.fr (fun k cs hk => hst'.so.obj k _ hk)
        have hd0 : a2.defers = [] := hst'.df.no rfl
        have hdok : Dok E.g0.w.heap.size g'.w a.defers := by
          cases hst'.so.obj sid _ hsus with
          | sus h3 => exact h3
        have hstc : St E g' a fr'' σ' := hst'.frame (E' := E) rfl rfl (held_frame hst'.so.obj hheld) hst.n ⟨hdok, hst.df.no⟩
        have hfin := hrest.go g' _ ((hstc.le frLe_refl hle).put hk1 h2)
        rcases he with rfl | rfl
        · exact ⟨hd0, v, h1, hfin⟩
        · exact ⟨hd0, v, h1, hfin⟩⟩

end Go.Proofs.Ytpclhpncmlbccaa

/- The abstract calculus: ranges over functions, yield. No program is named. -/
namespace Go.Proofs.Ytpclhpncmlbccaa
open Go.RowKit Go.Lib

variable {E : Env} {fr : Fr} {σ : Sto} {K : Post}

theorem St.addObj {g g' : G} {a : Act} (h : St E g a fr σ) (id : Nat) {ob : AO} (hf : fr.has id = false) (hs : σ.has id = false) (hold : Old (fun _ => False) g g') (hwf : Wf g') (hloc : ∀ k, k ≠ id → g'.loc k = g.loc k) (hob : RelO g' id ob)
    (hnew : ∀ b, ob.own (g'.loc id) b → g.w.heap.size ≤ b) : St E g' a fr ((id, ob) :: σ) := by
  have hget : ∀ o ob', Sto.get ((id, ob) :: σ) o = some ob' → (o = id ∧ ob' = ob) ∨ (o ≠ id ∧ σ.get o = some ob') := by
    intro o ob' hg
    rw [Sto.get_cons] at hg
    split at hg
    · rename_i hk; cases hg; exact .inl ⟨hk.symm, rfl⟩
    · rename_i hk; exact .inr ⟨Ne.symm hk, hg⟩
  refine ⟨fun d => (h.fr d).mono hold.ext fun k hk => hloc k ?_, h.n, h.df.mono hold.ext, ⟨?_, ?_, ?_, h.so.old.trans (hold.mono (by intro b _ hf; exact hf.elim)), hwf⟩⟩
  · rintro rfl; rw [Fr.has_get hk] at hf; cases hf
  · intro o ob' hg
    rcases hget o ob' hg with ⟨rfl, rfl⟩ | ⟨hne, hg1⟩
    · exact hob
    · refine (h.so.obj o ob' hg1).mono hold.ext (hloc o hne) (fun k hk => hloc k ?_) fun b hb => hold.block b ((h.so.obj o ob' hg1).block_lt hb) (by simp)
      rintro rfl; rw [Sto.has_get hg1 hk] at hs; cases hs
  · intro o o' ob1 ob2 b h1 h2 h3 h4
    rcases hget o ob1 h1 with ⟨rfl, rfl⟩ | ⟨hne, hg⟩ <;> rcases hget o' ob2 h2 with ⟨rfl, rfl⟩ | ⟨hne', hg'⟩
    · rfl
    · rw [hloc o' hne'] at h4
      have := (h.so.obj o' ob2 hg').block_lt h4
      have := hnew b h3
      omega
    · rw [hloc o hne] at h3
      have := (h.so.obj o ob1 hg).block_lt h3
      have := hnew b h4
      omega
    · rw [hloc o hne] at h3; rw [hloc o' hne'] at h4
      exact h.so.apart o o' ob1 ob2 b hg hg' h3 h4
  · intro o ob1 b h1 h2
    rcases hget o ob1 h1 with ⟨rfl, rfl⟩ | ⟨hne, hg⟩
    · exact .inl (Nat.le_trans h.so.old.ext.size (hnew b h2))
    · rw [hloc o hne] at h2; exact h.so.mine o ob1 b hg h2

/-- the record of a range is set -/
theorem St.lpset {g : G} {a : Act} {o b : Nat} {L L' : Loop} (h : St E g a fr σ) (ho : σ.get o = some (.lp b L)) : g.w.heap[b]? = some (.loop L) ∧ St E ⟨{ g.w with heap := g.w.heap.setIfInBounds b (.loop L') }, g.u, g.loc⟩ a fr (σ.upd o (.lp b L')) := by
  cases h.so.obj o _ ho with
  | lp hl hb =>
    refine ⟨hb, ?_⟩
    have hbl := blk_lt hb
    generalize hw : ({ g.w with heap := g.w.heap.setIfInBounds b (.loop L') } : World) = w'
    have hheap : ∀ k, k ≠ b → w'.heap[k]? = g.w.heap[k]? := fun k hk => by subst hw; exact Array.getElem?_setIfInBounds_ne (Ne.symm hk)
    have hnew : w'.heap[b]? = some (.loop L') := by subst hw; exact Array.getElem?_setIfInBounds_self_of_lt hbl
    have hsz : w'.heap.size = g.w.heap.size := by subst hw; simp
    have hx : Ext g.w g.u w' g.u := ⟨Nat.le_of_eq hsz.symm, fun _ _ => Nat.le_refl _, fun k i hk hi => by
      by_cases hkb : k = b
      · subst hkb; simp [World.cell?, hb, hnew]
      · simp only [World.cell?]; rw [hheap k hkb], fun r hr => (hheap r (by rintro rfl; rw [hb] at hr; cases hr)).trans hr⟩
    have hget := Sto.get_upd (ob := .lp b L') ho
    have hsome : ∀ k ob, (σ.upd o (.lp b L')).get k = some ob → ∃ ob', σ.get k = some ob' ∧ ∀ l, ob'.own l = ob.own l := by
      intro k ob hk
      rw [hget] at hk
      split at hk
      · rename_i hko; cases hk; exact ⟨.lp b L, hko ▸ ho, fun _ => rfl⟩
      · exact ⟨_, hk, fun _ => rfl⟩
    refine ⟨fun d => (h.fr d).mono (g' := ⟨w', g.u, g.loc⟩) hx (fun _ _ => rfl), h.n, h.df.mono hx, ⟨?_, fun k k' ob ob' b' h1 h2 => ?_, fun k ob b' h1 => ?_, ?_, ?_⟩⟩
    · intro k ob hk
      rw [hget] at hk
      split at hk
      · rename_i hko; subst hko; cases hk; exact .lp hl hnew
      · rename_i hko
        refine (h.so.obj k ob hk).mono (g' := ⟨w', g.u, g.loc⟩) hx rfl (fun _ _ => rfl) fun b' hb' => ⟨hheap b' ?_, rfl⟩
        rintro rfl
        exact hko (h.so.apart k o ob _ b' hk ho hb' (by rw [hl]; rfl))
    · obtain ⟨_, e1, q1⟩ := hsome k _ h1
      obtain ⟨_, e2, q2⟩ := hsome k' _ h2
      rw [← q1, ← q2]
      exact h.so.apart k k' _ _ b' e1 e2
    · obtain ⟨_, e1, q1⟩ := hsome k _ h1
      rw [← q1]
      exact h.so.mine k _ b' e1
    · refine h.so.old.trans ⟨by subst hw; rfl, by subst hw; rfl, by subst hw; rfl, hx, fun k hk hs => ⟨hheap k ?_, rfl⟩⟩
      rintro rfl
      rcases h.so.mine o _ k ho (by rw [hl]; rfl) with h1 | h1
      · exact hs (.inr h1)
      · exact hs (.inl h1)
    · intro k hk
      exact h.so.wf k (by rw [← hsz]; exact hk)
theorem run_getLoop {P : Program} {w : World} {b : Nat} {L : Loop} (h : w.heap[b]? = some (.loop L)) : (Instr.getLoop b).run P w = .ok L w := by
  simp [Instr.getLoop, getObj, Sem.run, h]
theorem run_setLoop {P : Program} {w : World} {b : Nat} {L L' : Loop} (h : w.heap[b]? = some (.loop L)) : (setObj b (.loop L')).run P w = .ok () { w with heap := w.heap.setIfInBounds b (.loop L') } := by
  simp [setObj, Sem.run, h]

theorem has_holds {lid base : Nat} {T : Array Value} {keep : Fr} (hk : Keep fr keep) (hfr : fr.has lid = false) : Sto.has lid (holds base T keep ++ σ) = σ.has lid := by
  induction hk with
  | nil => rfl
  | @cons k c l h hr ih =>
    have hc : c.has lid = false := by
      cases hh : c.has lid with
      | false => rfl
      | true => rw [Fr.has_get (fr := fr) (d := k) (by rw [h]; exact hh)] at hfr; cases hfr
    show (AO.has lid (.hold c _) || Sto.has lid (holds base T l ++ σ)) = _
    rw [ih]
    simp [AO.has, hc]

/-- **a range over a function, entered in place** -/
theorem awp_range {fx : Operand} {ps : Array Tmp} {assign body : Code} {f0 : FuncId} {fn0 : Func} {c0 : Code} {cap args : List AV} (base lid sid : Nat) (keep : Fr) (hnd : E.nd = false) (hrd : E.rd = none) (hf : fr.ev fx = .fn (.func f0) [] cap) (hok : FnOk E.P f0 fn0 c0)
    (hres : fn0.results = #[]) (hN : Nat.ble (cap.length + 1) fn0.ntmps = true) (hfr : fr.has lid = false) (hso : σ.has lid = false) (hcap : AV.hasL lid cap = false) (hk : Keep fr keep)
    (h : ∀ (T : Array Value) (b fid dfb : Nat) (ds : List Deferred), T.size = E.N → AWP ⟨E.P, none, E.g0, fn0.ntmps, true, E.gl, E.S, E.sg⟩ c0 (frameFrom 0 (.fn (.yield b) [] [] :: cap)) ((sid, .sus E.g0.w.heap.size ds) :: (lid, .lp b ⟨.ready, none, fid, T, ps, assign, body, dfb⟩) :: (holds base T keep ++ σ))
      (fun e _ σ' => (e = .ret ∨ e = .normal) ∧ ∃ L' fr'' σ'', σ'.get lid = some (.lp b L') ∧ (L'.state == .busy) = false ∧ Held (σ'.upd lid (.lp b { L' with state := .exhausted })) base T fr'' ∧ (σ'.upd lid (.lp b { L' with state := .exhausted })).get sid = some (.sus E.g0.w.heap.size ds) ∧
        StoLe (σ'.upd lid (.lp b { L' with state := .exhausted })) σ'' ∧ (match L'.pending with | none => K .normal fr'' σ'' | some c => AWP E c fr'' σ'' K))) :
    AWP E (.rangeFunc fx ps assign body) fr σ K :=
  ⟨fun g a hst => by
    refine wpIn_rangeFunc fun fid _ => ?_
    have hfv := hst.ev fx
    rw [hf] at hfv
    generalize hev : a.eval fx = fv at hfv
    cases hfv with
    | @fn _ _ _ firstV capV l1 l2 r1 r2 =>
      have hfirst : firstV = #[] := Array.eq_empty_of_size_eq_zero (by simpa using l1)
      subst hfirst
      generalize hL : (⟨.ready, none, fid, a.tmps, ps, assign, body, g.w.heap.size⟩ : Loop) = L
      have e1 : (Instr.enterLoop fid a.tmps ps assign body (fen E.rd).round).run E.P g.w = .ok (g.w.heap.size + 1, [⟨.collected g.w.heap.size, #[]⟩]) ((g.w.alloc (.deferred (some []))).alloc (.loop L)) := by
        rw [hrd, ← hL]
        simp [fen, Instr.enterLoop, newObj, Sem.run, World.alloc_eq]
      have e2 : (resolve a.eval (rangeCall fx (g.w.heap.size + 1)) 0).run E.P ((g.w.alloc (.deferred (some []))).alloc (.loop L)) = .ok ⟨.fn (.func f0) capV, #[.func (.yield (g.w.heap.size + 1)) #[] #[]]⟩ ((g.w.alloc (.deferred (some []))).alloc (.loop L)) := by
        have h1 : (#[Operand.const (Value.func (.yield (g.w.heap.size + 1)) #[] #[])].map a.eval) = #[.func (.yield (g.w.heap.size + 1)) #[] #[]] := by simp [Act.eval]
        simp only [resolve, rangeCall, h1, hev, Deferred.ofValue, Sem.run_pure]
        rfl
      have e3 : (invoke (.fn (.func f0) capV) #[.func (.yield (g.w.heap.size + 1)) #[] #[]]).run E.P ((g.w.alloc (.deferred (some []))).alloc (.loop L)) = .ok (.enter f0 (#[.func (.yield (g.w.heap.size + 1)) #[] #[]] ++ capV)) ((g.w.alloc (.deferred (some []))).alloc (.loop L)) := run_callFunc hok _ _
      refine ⟨_, _, _, _, _, f0, _, _, e1, e2, fun _ _ => trivial, e3, fun h => by simp [fen] at h, ?_⟩
      generalize hw1 : (g.w.alloc (.deferred (some []))).alloc (.loop L) = w1
      have hs1 : w1.heap.size = g.w.heap.size + 2 := by subst hw1; simp
      have hold1 : ∀ k, k < g.w.heap.size → w1.heap[k]? = g.w.heap[k]? := by
        intro k hk
        subst hw1
        rw [Below.heap_alloc _ _ _ (by simp; omega), Below.heap_alloc _ _ _ hk]
      have hdf1 : w1.heap[g.w.heap.size]? = some (.deferred (some [])) := by
        subst hw1
        rw [Below.heap_alloc _ _ _ (by simp)]
        exact heap_alloc_new _ _
      have hlp1 : w1.heap[g.w.heap.size + 1]? = some (.loop L) := by
        subst hw1
        have := heap_alloc_new (g.w.alloc (.deferred (some []))) (.loop L)
        simpa using this
      have hold : Old (fun _ => False) g ⟨w1, g.u, fun k => if k = lid then .map (g.w.heap.size + 1) else g.loc k⟩ := by
        refine ⟨by subst hw1; rfl, by subst hw1; rfl, by subst hw1; rfl, ⟨by show _ ≤ w1.heap.size; omega, fun _ _ => Nat.le_refl _, fun k i hk _ => ?_, fun r hr => (hold1 r (blk_lt hr)).trans hr⟩, fun k hk _ => ⟨hold1 k hk, rfl⟩⟩
        simp only [World.cell?]; rw [hold1 k hk]
      have hwf : Wf ⟨w1, g.u, fun k => if k = lid then .map (g.w.heap.size + 1) else g.loc k⟩ := fun k hk => hst.so.wf k (by have : w1.heap.size ≤ k := hk; omega)
      have hst0 := (hst.addHolds base hk)
      have hsoh : Sto.has lid (holds base a.tmps keep ++ σ) = false := by rw [has_holds hk hfr]; exact hso
      have hst1 := hst0.addObj lid (ob := .lp (g.w.heap.size + 1) L) hfr hsoh hold hwf (fun k hk => if_neg hk) (.lp (if_pos rfl) hlp1) (fun b hb => by
        simp only [AO.own, if_true, Loc.block] at hb
        cases hb; omega)
      have hdok : Dok E.g0.w.heap.size w1 (⟨.collected g.w.heap.size, #[]⟩ :: a.defers) := by
        obtain ⟨bs, h1, h2, h3⟩ := hst.df.ok
        refine ⟨g.w.heap.size :: bs, by rw [h1]; rfl, List.nodup_cons.2 ⟨fun hx => ?_, h2⟩, fun r hr => ?_⟩
        · have := blk_lt (h3 _ hx).2; omega
        · rcases List.mem_cons.1 hr with rfl | hr
          · exact ⟨hst.so.old.ext.size, hdf1⟩
          · exact ⟨(h3 r hr).1, (hold1 r (blk_lt (h3 r hr).2)).trans (h3 r hr).2⟩
      have hst2 := hst1.addSus sid E.g0.w.heap.size (ds := ⟨.collected g.w.heap.size, #[]⟩ :: a.defers) hdok
      have hN := Nat.le_of_ble_eq_true hN
      refine callsIn_of_wp hok.f hok.b trivial ?_ hrd
      subst hL
      have hrdE : (fen E.rd) = fen none := by rw [hrd]
      rw [hrdE]
      refine wpIn_mono ((h a.tmps (g.w.heap.size + 1) fid g.w.heap.size (⟨.collected g.w.heap.size, #[]⟩ :: a.defers) hst.n).go ⟨w1, g.u, fun k => if k = lid then .map (g.w.heap.size + 1) else g.loc k⟩ _ (hst2.frame (E' := ⟨E.P, none, E.g0, fn0.ntmps, true, E.gl, E.S, E.sg⟩) rfl rfl (fun d => ?_) (by simp [l2]; omega) ⟨Dok.nil _ _, fun _ => rfl⟩)) ?_
      · rw [frameFrom_get]
        simp only [Nat.zero_le, if_true, Nat.sub_zero]
        cases d with
        | zero =>
          simp only [List.getElem?_cons_zero, Option.getD_some]
          have hval : ((#[Value.func (.yield (g.w.heap.size + 1)) #[] #[]] ++ capV) ++ Array.replicate (fn0.ntmps - (#[Value.func (.yield (g.w.heap.size + 1)) #[] #[]] ++ capV).size) undef).getD 0 undef = .func (.yield (g.w.heap.size + 1)) #[] #[] := by
            rw [Array.getD_eq_getD_getElem?, Array.getElem?_append_left (by simp; omega), Array.getElem?_append_left (by simp)]
            rfl
          rw [hval]
          exact .fn rfl rfl (fun i c h => by simp at h) (fun i c h => by simp at h)
        | succ d =>
          simp only [List.getElem?_cons_succ]
          cases hc : cap[d]? with
          | none => exact .any _
          | some c' =>
            have hlt : d < capV.size := by rw [l2]; exact (List.getElem?_eq_some_iff.1 hc).1
            have := (r2 d c' hc).mono hold.ext (fun k hkk => if_neg (by rintro rfl; rw [AV.hasL_of hc hkk] at hcap; cases hcap))
            rw [Array.getD_eq_getD_getElem?, Array.getElem?_append_left (by simp; omega), Array.getElem?_append_right (by simp)]
            simpa [Array.getD_eq_getD_getElem?] using this
      · rintro e a2 w' ⟨g', fr', σ', rfl, hst', he, L', fr'', σ'', hlp, hbusy, hheld, hsus, hle, hcont⟩
        have hd0 : a2.defers = [] := hst'.df.no rfl
        obtain ⟨hb', hst4⟩ := hst'.lpset (L' := { L' with state := .exhausted }) hlp
        have hend : (Instr.endLoop (g.w.heap.size + 1)).run E.P g'.w = .ok L'.pending { g'.w with heap := g'.w.heap.setIfInBounds (g.w.heap.size + 1) (.loop { L' with state := .exhausted }) } := by
          simp only [Instr.endLoop, Sem.run_bind, run_getLoop hb', Result.andThen_ok]
          rw [if_neg (by rw [hbusy]; simp)]
          simp [run_setLoop hb']
        have hresrun : (results fn0 a2.tmps).run E.P g'.w = .ok (.tuple #[]) g'.w := by
          simp [results, hres]
        have hdok4 : Dok E.g0.w.heap.size { g'.w with heap := g'.w.heap.setIfInBounds (g.w.heap.size + 1) (.loop { L' with state := .exhausted }) } (⟨.collected g.w.heap.size, #[]⟩ :: a.defers) := by
          cases hst4.so.obj sid _ hsus with
          | sus h3 => exact h3
        have hstc : St E _ { a with defers := [⟨.collected g.w.heap.size, #[]⟩] ++ a.defers } fr'' _ := hst4.frame (E' := E) rfl rfl (held_frame hst4.so.obj hheld) hst.n ⟨hdok4, fun hx => by rw [hnd] at hx; cases hx⟩
        have hfin : rangePost (fen none) 0 E.P (g.w.heap.size + 1) (Ends E K) { a with defers := [⟨.collected g.w.heap.size, #[]⟩] ++ a.defers } (.returned (.tuple #[])) g'.w := by
          refine ⟨L'.pending, _, hend, ?_⟩
          have aux : ∀ pd : Option Code, (match pd with | none => K .normal fr'' σ'' | some c => AWP E c fr'' σ'' K) → (match pd with
              | none => Ends E K .normal { a with defers := [⟨.collected g.w.heap.size, #[]⟩] ++ a.defers } { g'.w with heap := g'.w.heap.setIfInBounds (g.w.heap.size + 1) (.loop { L' with state := .exhausted }) }
              | some c => c.wpIn (fen none) 0 E.P (Ends E K) { a with defers := [⟨.collected g.w.heap.size, #[]⟩] ++ a.defers } { g'.w with heap := g'.w.heap.setIfInBounds (g.w.heap.size + 1) (.loop { L' with state := .exhausted }) }) := by
            intro pd hc
            cases pd with
            | none => exact ⟨_, fr'', σ'', rfl, hstc.le frLe_refl hle, hc⟩
            | some c =>
              have := hc.go _ _ (hstc.le frLe_refl hle)
              rw [hrd] at this
              exact this
          exact aux _ hcont
        rcases he with rfl | rfl
        · exact ⟨hd0, _, hresrun, hfin⟩
        · exact ⟨hd0, _, hresrun, hfin⟩⟩

end Go.Proofs.Ytpclhpncmlbccaa

/- The abstract calculus: yield, the body of a range over a function run in a round. No program is named. -/
namespace Go.Proofs.Ytpclhpncmlbccaa
open Go.RowKit Go.Lib

variable {E : Env} {fr : Fr} {σ : Sto} {K : Post}

def setFr : List Nat → List AV → Fr → Fr
  | p :: ps, c :: cs, fr => setFr ps cs ((p, c) :: fr)
  | _, _, fr => fr
def setT : List Nat → List Value → Array Value → Array Value
  | p :: ps, v :: vs, t => setT ps vs (t.setIfInBounds p v)
  | _, _, t => t
theorem setT_eq (ps : List Nat) (vs : List Value) (t : Array Value) : (ps.zip vs).foldl (fun t (x : Nat × Value) => t.setIfInBounds x.1 x.2) t = setT ps vs t := by
  induction ps generalizing vs t with
  | nil => simp [setT]
  | cons p ps ih =>
    cases vs with
    | nil => simp [setT]
    | cons v vs => simp only [List.zip_cons_cons, List.foldl_cons]; rw [ih]; rfl
theorem setT_size (ps : List Nat) (vs : List Value) (t : Array Value) : (setT ps vs t).size = t.size := by
  induction ps generalizing vs t with
  | nil => simp [setT]
  | cons p ps ih =>
    cases vs with
    | nil => simp [setT]
    | cons v vs => simp only [setT]; rw [ih]; simp
theorem setT_rel {g : G} {ps : List Nat} {cs : List AV} {vs : List Value} {t : Array Value} {fr : Fr} (hp : ∀ p ∈ ps, p < t.size) (hl : vs.length = cs.length) (hc : ∀ (i : Nat) (c : AV), cs[i]? = some c → Rel g c (vs.getD i undef)) (h : ∀ d, Rel g (fr.get d) (t.getD d undef)) :
    ∀ d, Rel g ((setFr ps cs fr).get d) ((setT ps vs t).getD d undef) := by
  induction ps generalizing cs vs t fr with
  | nil => intro d; simpa [setT, setFr] using h d
  | cons p ps ih =>
    cases cs with
    | nil =>
      cases vs with
      | nil => intro d; simpa [setT, setFr] using h d
      | cons v vs => simp at hl
    | cons c cs =>
      cases vs with
      | nil => simp at hl
      | cons v vs =>
        refine ih (cs := cs) (vs := vs) (t := t.setIfInBounds p v) (fr := (p, c) :: fr) (fun q hq => by simpa using hp q (List.mem_cons_of_mem _ hq)) (by simpa using hl) (fun i c' hi => by simpa using hc (i + 1) c' (by simpa using hi)) fun d => ?_
        rw [Fr.get_cons, getD_set_eq]
        by_cases hd : p = d
        · rw [if_pos hd, if_pos ⟨hd, hp p (List.mem_cons_self ..)⟩]
          simpa using hc 0 c rfl
        · rw [if_neg hd, if_neg (fun x => hd x.1)]
          exact h d

/-- how a round's body is left -/
inductive Jump : Exit → Option Code → Prop
  | end : Jump .normal none
  | ret : Jump .ret (some .ret)
  | exit (id : Nat) : Jump (.exit id) (some (.exit id))

/-- **yield called**: the loop's body is run in a round's frame -/
theorem awpl_yield {gu : Option (Nat × Bool)} {ops rest} {k b NN : Nat} {fy : Operand} {xs : List Operand} {ats : Array TypeId} {ty : TypeId} {pos : String} {af : Array Edge} {L : Loop} {args : List AV} {ps : List Nat} {frO : Fr} (base base2 lid sid2 : Nat) (keep : Fr)
    (hw : Wanted E ops ⟨some k, .call ⟨.value fy, xs.toArray, ats⟩, ty, pos, af, gu⟩ fr σ) (hf : fr.ev fy = .fn (.yield b) [] []) (hl : σ.get lid = some (.lp b L)) (hready : L.state = .ready) (hN : Nat.ble (k + 1) E.N = true) (hNN : L.tmps.size = NN) (hps : L.params = ps.toArray) (ha : xs.map fr.ev = args) (hlen : ps.length = args.length) (hlt : (ps.all fun p => Nat.blt p NN) = true) (hk : Keep fr keep)
    (hheld : Held σ base L.tmps frO)
    (h : ∀ (T2 : Array Value) (ds2 : List Deferred), T2.size = E.N → AWP ⟨E.P, some b, E.g0, NN, true, E.gl, E.S, E.sg⟩ L.assign (setFr ps args frO) ((sid2, .sus E.g0.w.heap.size ds2) :: (holds base2 T2 keep ++ σ))
      (fun e fr1 σ1 => e = .normal ∧ ∃ L1, σ1.get lid = some (.lp b L1) ∧ L1.state = .ready ∧
        AWP ⟨E.P, some b, E.g0, NN, true, E.gl, E.S, E.sg⟩ L.body fr1 (σ1.upd lid (.lp b { L1 with state := .busy })) (fun e2 _ σ2 => ∃ jump L2 fr'' σ'', Jump e2 jump ∧ σ2.get lid = some (.lp b L2) ∧
          Held (σ2.upd lid (.lp b { L2 with state := if jump.isNone then .ready else .done, pending := jump })) base2 T2 fr'' ∧
          (σ2.upd lid (.lp b { L2 with state := if jump.isNone then .ready else .done, pending := jump })).get sid2 = some (.sus E.g0.w.heap.size ds2) ∧
          StoLe (σ2.upd lid (.lp b { L2 with state := if jump.isNone then .ready else .done, pending := jump })) σ'' ∧ AWPL E ops rest ((k, .pv (.b (.bool jump.isNone))) :: fr'') σ'' K))) :
    AWPL E ops (⟨some k, .call ⟨.value fy, xs.toArray, ats⟩, ty, pos, af, gu⟩ :: rest) fr σ K :=
  ⟨fun g a hst => by
    have hk1 := Nat.le_of_ble_eq_true hN
    have hw := hw.go g a hst
    simp only [wpListIn, hw, if_true]
    refine ⟨fun _ _ => trivial, ?_⟩
    have hfv := hst.ev fy
    rw [hf] at hfv
    generalize hev : a.eval fy = fv at hfv
    cases hfv with
    | @fn _ _ _ firstV capV l1 l2 r1 r2 =>
      have hfirst : firstV = #[] := Array.eq_empty_of_size_eq_zero (by simpa using l1)
      have hcap : capV = #[] := Array.eq_empty_of_size_eq_zero (by simpa using l2)
      subst hfirst; subst hcap
      have hb : g.w.heap[b]? = some (.loop L) := by
        cases hst.so.obj lid _ hl with
        | lp _ h => exact h
      have hrun : (execOp a.eval ⟨some k, .call ⟨.value fy, xs.toArray, ats⟩, ty, pos, af, gu⟩).run E.P g.w = .ok (.round b L.fn (setT ps (xs.map a.eval) L.tmps) L.assign L.body) g.w := by
        show Sem.run E.P (do let d ← resolve a.eval ⟨.value fy, xs.toArray, ats⟩ ty; invoke d.target d.args) g.w = _
        simp only [resolve, hev, Deferred.ofValue, Sem.run_bind, Sem.run_pure, Result.andThen_ok]
        have := run_yield (P := E.P) (args := xs.toArray.map a.eval) hb (by simp [hps, hlen, ← ha])
        have e2 : invoke (.fn (.yield b) #[]) (#[] ++ xs.toArray.map a.eval) = Instr.yield b (xs.toArray.map a.eval) := by
          simp [invoke]
        rw [e2, this, hps]
        congr 2
        rw [← setT_eq]
        simp [← Array.foldl_toList]
      rw [Oper.semAt_plain _ _ _ (fun c => by simp), hrun, Oper.uponIn_round]
      refine ⟨fun h => by simp [fen] at h, ?_⟩
      refine roundIn_of_wpIn trivial ?_
      have hst1 := (hst.addHolds base2 hk).addSus sid2 E.g0.w.heap.size hst.df.ok
      have hrel : ∀ d, Rel g ((setFr ps args frO).get d) ((setT ps (xs.map a.eval) L.tmps).getD d undef) := by
        refine setT_rel (fun p hp => ?_) (by simp [← ha]) (fun i c hi => ?_) (held_frame hst.so.obj hheld)
        · rw [hNN]; exact Nat.le_of_ble_eq_true (List.all_eq_true.1 hlt p hp)
        · subst ha
          simp only [List.getElem?_map, Option.map_eq_some_iff] at hi
          obtain ⟨x, hx, rfl⟩ := hi
          have := hst.ev x
          simpa [hx] using this
      refine wpIn_mono ((h a.tmps a.defers hst.n).go g { tmps := setT ps (xs.map a.eval) L.tmps, defers := [] } (hst1.frame (E' := ⟨E.P, some b, E.g0, NN, true, E.gl, E.S, E.sg⟩) rfl rfl hrel (by rw [← hNN]; exact setT_size ..) ⟨Dok.nil _ _, fun _ => rfl⟩)) ?_
      rintro e a1 w1 ⟨g1, fr1, σ1, rfl, hs1, rfl, L1, hl1, hr1, hbody⟩
      obtain ⟨hb1, hs1'⟩ := hs1.lpset (L' := { L1 with state := .busy }) hl1
      have hbr : (Instr.beginRound b).run E.P g1.w = .ok () { g1.w with heap := g1.w.heap.setIfInBounds b (.loop { L1 with state := .busy }) } := by
        simp only [Instr.beginRound, Sem.run_bind, run_getLoop hb1, Result.andThen_ok, run_setLoop hb1, hr1]
        rfl
      refine ⟨_, hbr, wpIn_mono (hbody.go _ a1 hs1') ?_⟩
      rintro e2 a2 w2 ⟨g2, fr2, σ2, rfl, hs2, jump, L2, fr'', σ'', hj, hl2, hh2, hsus, hle, hrest⟩
      obtain ⟨hb2, hs2'⟩ := hs2.lpset (L' := { L2 with state := if jump.isNone then .ready else .done, pending := jump }) hl2
      have hend : (Instr.endRound b jump).run E.P g2.w = .ok (.bool jump.isNone) { g2.w with heap := g2.w.heap.setIfInBounds b (.loop { L2 with state := if jump.isNone then .ready else .done, pending := jump }) } := by
        simp only [Instr.endRound, Sem.run_bind, run_getLoop hb2, Result.andThen_ok, run_setLoop hb2]
        rfl
      have hdok : Dok E.g0.w.heap.size { g2.w with heap := g2.w.heap.setIfInBounds b (.loop { L2 with state := if jump.isNone then .ready else .done, pending := jump }) } a.defers := by
        cases hs2'.so.obj sid2 _ hsus with
        | sus h3 => exact h3
      have hstc : St E _ a fr'' _ := hs2'.frame (E' := E) rfl rfl (held_frame hs2'.so.obj hh2) hst.n ⟨hdok, hst.df.no⟩
      have hfin := hrest.go _ _ ((hstc.le frLe_refl hle).put hk1 (.pv (.b rfl)))
      cases hj with
      | «end» => exact ⟨_, _, hend, hfin⟩
      | ret => exact ⟨_, _, hend, hfin⟩
      | exit id => exact ⟨_, _, hend, hfin⟩⟩

end Go.Proofs.Ytpclhpncmlbccaa

/- The abstract calculus: function values, min, max, literals of bytes, append onto nil in any order. No program is named. -/
namespace Go.Proofs.Ytpclhpncmlbccaa
open Go.RowKit Go.Lib

section
variable {P : Program} {ρ : Operand → AV} {σ : Sto} {dst : Option Tmp} {ty : TypeId} {pos : String} {af : Array Edge} {gu : Option (Nat × Bool)}
theorem ev_makeFunc {f : Fn} {xs ys : List Operand} {c1 c2 : List AV} (h1 : xs.map ρ = c1) (h2 : ys.map ρ = c2) : EvQ P ⟨dst, .makeFunc f xs.toArray ys.toArray, ty, pos, af, gu⟩ ρ σ (.fn f c1 c2) :=
  ⟨fun c => by simp, fun g ρv h _ => by
    subst h1; subst h2
    refine ⟨.func f (xs.toArray.map ρv) (ys.toArray.map ρv), rfl, .fn (by simp) (by simp) (fun i c hi => ?_) (fun i c hi => ?_)⟩
    · simp only [List.getElem?_map, Option.map_eq_some_iff] at hi
      obtain ⟨x, hx, rfl⟩ := hi
      have := h x (by simp [Op.operands]; exact .inl (List.mem_of_getElem? hx))
      simpa [hx] using this
    · simp only [List.getElem?_map, Option.map_eq_some_iff] at hi
      obtain ⟨x, hx, rfl⟩ := hi
      have := h x (by simp [Op.operands]; exact .inr (List.mem_of_getElem? hx))
      simpa [hx] using this⟩
theorem ev_min {k : IntKind} {a b : Int} {x y : Operand} {ats : Array TypeId} (hx : ρ x = .pv (.b (.int k a))) (hy : ρ y = .pv (.b (.int k b))) : EvQ P ⟨dst, .call ⟨.builtin .min, #[x, y], ats⟩, ty, pos, af, gu⟩ ρ σ (.pv (.b (.int k (min a b)))) :=
  ⟨fun c => by simp, fun g ρv h _ => by
    have h1 := h x (by simp [Op.operands, Call.operands])
    have h2 := h y (by simp [Op.operands, Call.operands])
    rw [hx] at h1; rw [hy] at h2
    have e1 := rel_b h1
    have e2 := rel_b h2
    refine ⟨.int k (min a b), ?_, .pv (.b rfl)⟩
    have : (if b < a then b else a) = min a b := by omega
    simp [execOp, resolve, Deferred.ofValue, invoke, builtin, Builtin.min_, Builtin.min2, e1, e2, go_sem, this]⟩
theorem ev_max {k : IntKind} {a b : Int} {x y : Operand} {ats : Array TypeId} (hx : ρ x = .pv (.b (.int k a))) (hy : ρ y = .pv (.b (.int k b))) : EvQ P ⟨dst, .call ⟨.builtin .max, #[x, y], ats⟩, ty, pos, af, gu⟩ ρ σ (.pv (.b (.int k (max a b)))) :=
  ⟨fun c => by simp, fun g ρv h _ => by
    have h1 := h x (by simp [Op.operands, Call.operands])
    have h2 := h y (by simp [Op.operands, Call.operands])
    rw [hx] at h1; rw [hy] at h2
    have e1 := rel_b h1
    have e2 := rel_b h2
    refine ⟨.int k (max a b), ?_, .pv (.b rfl)⟩
    have : (if a < b then b else a) = max a b := by omega
    simp [execOp, resolve, Deferred.ofValue, invoke, builtin, Builtin.max_, Builtin.max2, e1, e2, go_sem, this]⟩
end

theorem freeze_facts (w : World) (B n : Nat) : ∃ w', w' = w.freeze ⟨B, n, none⟩ 1 ∧ w'.heap.size = w.heap.size ∧ w'.os = w.os ∧ w'.tape = w.tape ∧ w'.output = w.output ∧ (∀ k, k ≠ B → w'.heap[k]? = w.heap[k]?) ∧ (∀ k i, w'.cell? ⟨k, i, none⟩ = w.cell? ⟨k, i, none⟩) ∧ (∀ r : Nat, w.heap[r]? = some (Obj.deferred (some [])) → w'.heap[r]? = some (Obj.deferred (some []))) := by
  refine ⟨_, rfl, by simp [World.freeze], by simp [World.freeze], by simp [World.freeze], by simp [World.freeze], fun k hk => ?_, fun k i => ?_, fun r hr => ?_⟩
  · simp only [World.freeze, Nat.one_ne_zero, if_false, Array.getElem?_modify]
    rw [if_neg (Ne.symm hk)]
  · simp only [World.cell?, World.freeze, Nat.one_ne_zero, if_false, Array.getElem?_modify]
    by_cases hk : B = k
    · rw [if_pos hk]
      cases hh : w.heap[k]? with
      | none => rfl
      | some o => cases o <;> rfl
    · rw [if_neg hk]
  · simp only [World.freeze, Nat.one_ne_zero, if_false, Array.getElem?_modify, hr]
    split <;> rfl
theorem run_markStringish (P : Program) (w : World) (B : Nat) (o : Nat := 0) : ∃ w', (markStringish ⟨B, o, none⟩).run P w = .ok () w' ∧ w'.heap.size = w.heap.size ∧ w'.os = w.os ∧ w'.tape = w.tape ∧ w'.output = w.output ∧ (∀ k, k ≠ B → w'.heap[k]? = w.heap[k]?) ∧ (∀ k i, w'.cell? ⟨k, i, none⟩ = w.cell? ⟨k, i, none⟩) ∧ (∀ r : Nat, w.heap[r]? = some (Obj.deferred (some [])) → w'.heap[r]? = some (Obj.deferred (some []))) := by
  cases hsh : w.shape? B with
  | none =>
    refine ⟨w, ?_, rfl, rfl, rfl, rfl, fun _ _ => rfl, fun _ _ => rfl, fun _ h => h⟩
    simp [markStringish, shape, Sem.run, hsh]
  | some p =>
    obtain ⟨w', e, h⟩ := freeze_facts w B p.2
    refine ⟨w', ?_, h⟩
    rw [e]
    simp [markStringish, shape, freeze, Sem.run, hsh]

variable {E : Env} {fr : Fr} {σ : Sto} {K : Post}
/-- a literal of bytes, converted to its own type -/
theorem awpl_litconv {ops rest} {k1 k2 : Nat} {o1 : Oper} {t e : TypeId} {l : List UInt8} {ss sb s1 s2 : Nat} {sz z : Value} {ty : TypeId} {pos : String} {af : Array Edge} {gu : Option (Nat × Bool)} (hd : o1.dst = some k1) (h1 : OpGN E o1 fr σ (.l cU l)) (ht : TyOk E.P t ss sb sz (.slice e)) (he : TyOk E.P e s1 s2 z (.int .u8))
    (hw1 : Wanted E ops o1 fr σ) (hw2 : Wanted E ops ⟨some k2, .convert t t (.tmp k1), ty, pos, af, gu⟩ ((k1, .l cU l) :: fr) σ) (hN : (Nat.ble (k1 + 1) E.N && Nat.ble (k2 + 1) E.N) = true)
    (h : AWPL E ops rest ((k2, .l cU l) :: (k1, .l cU l) :: fr) σ K) : AWPL E ops (o1 :: ⟨some k2, .convert t t (.tmp k1), ty, pos, af, gu⟩ :: rest) fr σ K :=
  ⟨fun g a hst => by
    simp only [Bool.and_eq_true] at hN
    have hN1 := Nat.le_of_ble_eq_true hN.1
    have hN2 := Nat.le_of_ble_eq_true hN.2
    simp only [wpListIn, hw1.go g a hst, if_true]
    refine h1.go g a _ _ (fun x _ => hst.ev x) hst.so fun g' v hold hwf hloc hv hn => ?_
    obtain ⟨n, cp, rfl⟩ := hn
    have hst1 : St E g' (a.put o1.dst (.slice (some ⟨g.w.heap.size, 0, none⟩) n cp)) ((k1, .l cU l) :: fr) σ := by rw [hd]; exact (hst.grow hold hwf (fun k _ => by rw [hloc])).put hN1 hv
    rw [hw2.go g' _ hst1]
    simp only [if_true]
    refine ⟨fun _ _ => trivial, ?_⟩
    have hev : (a.put o1.dst (.slice (some ⟨g.w.heap.size, 0, none⟩) n cp)).eval (.tmp k1) = .slice (some ⟨g.w.heap.size, 0, none⟩) n cp := by
      rw [hd]
      simp only [Act.put, Act.eval]
      rw [getD_set_eq, if_pos ⟨rfl, by rw [hst.n]; exact hN1⟩]
    obtain ⟨w2, hrun, hsz, hos, htp, hout, hblk, hcell, hdf⟩ := run_markStringish E.P g'.w g.w.heap.size
    have hrun2 : (execOp (a.put o1.dst (.slice (some ⟨g.w.heap.size, 0, none⟩) n cp)).eval ⟨some k2, .convert t t (.tmp k1), ty, pos, af, gu⟩).run E.P g'.w = .ok (.value (.slice (some ⟨g.w.heap.size, 0, none⟩) n cp)) w2 := by
      show Sem.run E.P (do let v ← convert t t _; pure (Next.value v)) g'.w = _
      rw [hev]
      simp only [convert, underlying, program, Sem.run_bind, Sem.run, ht.u, he.u, Result.andThen_ok, Sem.run_pure, beq_self_eq_true, hrun]
    rw [Oper.semAt_plain _ _ _ (fun c => by simp), hrun2, Oper.uponIn_value]
    have hx : Ext g'.w g'.u w2 g'.u := ⟨Nat.le_of_eq hsz.symm, fun _ _ => Nat.le_refl _, fun k i _ _ => hcell k i, hdf⟩
    have hold2 : Old (fun _ => False) g ⟨w2, g'.u, g'.loc⟩ := by
      refine ⟨hos.trans hold.os, htp.trans hold.tape, hout.trans hold.output, hold.ext.trans hx, fun k hk hs => ?_⟩
      obtain ⟨b1, b2⟩ := hold.block k hk hs
      exact ⟨(hblk k (by omega)).trans b1, b2⟩
    have hwf2 : Wf ⟨w2, g'.u, g'.loc⟩ := fun k hk => hwf k (by rw [← hsz]; exact hk)
    have hv2 : Rel ⟨w2, g'.u, g'.loc⟩ (.l cU l) (.slice (some ⟨g.w.heap.size, 0, none⟩) n cp) := hv.mono hx (fun _ _ => rfl)
    have hst2 : St E ⟨w2, g'.u, g'.loc⟩ (a.put o1.dst (.slice (some ⟨g.w.heap.size, 0, none⟩) n cp)) ((k1, .l cU l) :: fr) σ := by rw [hd]; exact (hst.grow hold2 hwf2 (fun k _ => by show g'.loc k = _; rw [hloc])).put hN1 hv2
    exact h.go _ _ (hst2.put hN2 hv2)⟩

section
variable {dst : Option Tmp} {ty t tx e : TypeId} {pos : String} {af : Array Edge} {gu : Option (Nat × Bool)} {α : Type} {F : α → List PV} {xs r' : List α} {x y : Operand} {nl : Option Bool} {ss sb size bytes lim : Nat} {sz zero : Value} {d : TypeDesc}
theorem rel_appended {g : G} {news : List Value} {v : Value} {w' : World} (hF : ∀ x, (F x).length = size) (hs : 0 < size) (hwf : Wf g) (hnews : News g.w g.u size F xs news) (hres : AppRes g.w e size (none, none) 0 xs.length news v w') :
    ∃ g' : G, g'.w = w' ∧ Old (fun _ => False) g g' ∧ Wf g' ∧ g'.loc = g.loc ∧ Rel g' (.l F xs) v := by
  cases hres with
  | same hm v hv =>
    subst hv
    have hx : xs = [] := List.eq_nil_of_length_eq_zero hm
    subst hx
    exact ⟨g, rfl, Old.refl _ g, hwf, rfl, .pv (.sl (a := none) (cap := 0) 1 0 0 (fun _ => undef) (fun x hx => by cases hx) (fun _ => ⟨rfl, rfl⟩) (by simp) (by simp) (by simp) (by simp) (fun i hi => by simp at hi) (fun i j e c hi => by simp at hi))⟩
  | room ho hle => cases ho
  | @fresh cap cells hc hle hm ht =>
    have hws : (g.w.drew.alloc (.cells cells e)).heap.size = g.w.heap.size + 1 := by simp
    have hblk : (g.w.drew.alloc (.cells cells e)).heap[g.w.heap.size]? = some (.cells cells e (0, 0)) := heap_alloc_new g.w.drew _
    have hother : ∀ q, q < g.w.heap.size → (g.w.drew.alloc (.cells cells e)).heap[q]? = g.w.heap[q]? := fun q hq => Below.heap_alloc g.w.drew _ _ hq
    generalize hw : g.w.drew.alloc (.cells cells e) = w' at hws hblk hother
    simp only [Nat.zero_add, Nat.zero_mul, oldPre, List.nil_append] at hle ht
    have hold : Old (fun _ => False) g ⟨w', fun q => if q = g.w.heap.size then xs.length * size else g.u q, g.loc⟩ := by
      refine ⟨by subst hw; rfl, by subst hw; rfl, by subst hw; rfl, ⟨by show _ ≤ w'.heap.size; omega, fun q hq => ?_, fun q i hq hi => ?_, ?_⟩, fun q hq _ => ⟨hother q hq, if_neg (by omega)⟩⟩
      · show g.u q ≤ if q = g.w.heap.size then _ else g.u q
        rw [if_neg (by omega)]; exact Nat.le_refl _
      · simp only [World.cell?]; rw [hother q hq]
      · intro r hr; exact (hother r (blk_lt hr)).trans hr
    have hwf2 : Wf ⟨w', fun q => if q = g.w.heap.size then xs.length * size else g.u q, g.loc⟩ := by
      intro q hq
      have hq : g.w.heap.size + 1 ≤ q := by rw [← hws]; exact hq
      show (if q = g.w.heap.size then _ else g.u q) = 0
      rw [if_neg (by omega)]
      exact hwf q (by omega)
    have hle2 : xs.length * size ≤ cells.size := by rw [hc]; exact Nat.mul_le_mul_right _ hle
    refine ⟨⟨w', _, g.loc⟩, rfl, hold, hwf2, rfl, ?_⟩
    rw [Nat.zero_add]
    refine rel_new (g := g) (out := cells) (F := F) (size := size) hF hle2 hle ?_ ?_ ?_ ?_
    · show w'.heap[g.w.heap.size]? ≠ none
      rw [hblk]; simp
    · intro i hi
      exact cell_of_heap hblk hi
    · show (if g.w.heap.size = g.w.heap.size then _ else _) = _
      rw [if_pos rfl]
    · intro i j c0 c hi hj
      obtain ⟨v, hv, hrel⟩ := hnews.rel i j c0 c hi hj
      rw [← ht] at hv
      have hlt := (List.getElem?_eq_some_iff.1 hv).1
      rw [List.getElem?_take] at hv
      split at hv
      · have : cells.getD (i * size + j) undef = v := by
          rw [Array.getD_eq_getD_getElem?, ← Array.getElem?_toList, hv]; rfl
        rw [this]
        exact hrel.mono hold.ext
      · cases hv
theorem opG_append0 (hx : fr.ev x = .pv (.sl (some true) [])) (hy : fr.ev y = .pv (.sl nl (xs.map F))) (ht : TyOk E.P t ss sb sz (.slice e)) (he : TyOk E.P e size bytes zero d)
    (hzz : Nat.beq zero.cells.size size = true) (hs : Nat.ble 1 size = true) (hF : ∀ x, (F x).length = size) (hlim : (Nat.ble (lim * bytes) 140737488355328 && Nat.ble lim 9223372036854775807) = true) (h : app lim [] xs = some r') :
    OpG E ⟨dst, .call ⟨.builtin .append, #[x, y], #[t, t]⟩, ty, pos, af, gu⟩ fr σ (.l F r') :=
  ⟨fun g a K Q hx0 hso hK => by
    obtain ⟨hle, hr'⟩ := app_spec h
    simp only [Bool.and_eq_true] at hlim
    have hl1 := Nat.le_of_ble_eq_true hlim.1
    have hl2 := Nat.le_of_ble_eq_true hlim.2
    have hzz := Nat.eq_of_beq_eq_true hzz
    have hs := Nat.le_of_ble_eq_true hs
    refine ⟨fun _ _ => trivial, ?_⟩
    rw [Oper.semAt_plain _ _ _ (fun c => by simp)]
    have h1 := hx0 x (by simp [Op.operands, Call.operands])
    have h2 := hx0 y (by simp [Op.operands, Call.operands])
    rw [hx] at h1
    rw [hy] at h2
    have ev := rel_nil h1
    have hr2 : r' = xs := by simpa using hr'
    subst hr2
    have hlb : (0 + r'.length) * bytes ≤ 140737488355328 := by
      simp only [List.length_nil] at hle
      exact Nat.le_trans (Nat.mul_le_mul_right _ hle) hl1
    cases h2 with
    | pv h2 =>
      rcases news_of hF h2 with ⟨e2, rfl⟩ | ⟨a0, c, news, e2, hnews, hcells⟩
      · obtain ⟨v', w', hrun, hres⟩ := app_res_none (P := E.P) (w := g.w) (ty := ty) (old := (none, none)) (n := 0) ht he rfl
        rw [run_append_op (x := x) (y := y) (w := g.w) (by rw [ev, e2]; exact hrun), Oper.uponIn_value]
        obtain ⟨g', rfl, q1, q2, q3, q4⟩ := rel_appended (F := F) (xs := []) (news := []) hF (by omega) hso.wf ⟨by simp, by simp, fun i j x c hi => by simp at hi⟩ hres
        exact hK g' _ q1 q2 q3 q4
      · obtain ⟨v', w', hrun, hres⟩ := app_res_slice (P := E.P) (w := g.w) (ty := ty) (c := c) (old := (none, none)) (n := 0) ht he hzz (by omega) rfl hnews.len hcells hnews.one hlb (by unfold maxLen; simp only [List.length_nil] at hle; omega)
        rw [run_append_op (x := x) (y := y) (w := g.w) (by rw [ev, e2]; exact hrun), Oper.uponIn_value]
        obtain ⟨g', rfl, q1, q2, q3, q4⟩ := rel_appended (F := F) hF (by omega) hso.wf hnews hres
        exact hK g' _ q1 q2 q3 q4⟩
end

end Go.Proofs.Ytpclhpncmlbccaa

/- The abstract calculus: calls in place, ranges over functions, yield: the forms that the generator uses. No program is named. -/
namespace Go.Proofs.Ytpclhpncmlbccaa
open Go.RowKit Go.Lib

variable {E : Env} {fr : Fr} {σ : Sto} {K : Post}

def busy (L : Loop) : Loop := { L with state := .busy }
def stop (L : Loop) (c : Code) : Loop := { L with state := .done, pending := some c }

/-- the end of a call in place -/
def InlK (E : Env) (ops : Array Oper) (rest : List Oper) (k : Nat) (fn : Func) (base sid : Nat) (T : Array Value) (ds : List Deferred) (K : Post) : Post := fun e fr' σ' => (e = .ret ∨ e = .normal) ∧ ∃ fr2 σ2 cs fr'' σ'', FrLe fr' fr2 ∧ StoLe σ' σ2 ∧ ResL E.P fr2 σ2 fn.results.toList cs ∧ Held σ2 base T fr'' ∧ σ2.get sid = some (.sus E.g0.w.heap.size ds) ∧ StoLe σ2 σ'' ∧ AWPL E ops rest ((k, retAV cs) :: fr'') σ'' K
theorem inlK {ops : Array Oper} {rest : List Oper} {k : Nat} {fn : Func} {base sid : Nat} {T : Array Value} {ds : List Deferred} {e : Exit} {fr' fr2 fr'' : Fr} {σ' σ2 σ'' : Sto} {cs : List AV} (he : e = .ret ∨ e = .normal) (hf : FrLe fr' fr2) (hs : StoLe σ' σ2) (hr : ResL E.P fr2 σ2 fn.results.toList cs) (hh : Held σ2 base T fr'') (hsu : σ2.get sid = some (.sus E.g0.w.heap.size ds)) (hle : StoLe σ2 σ'')
    (h : AWPL E ops rest ((k, retAV cs) :: fr'') σ'' K) : InlK E ops rest k fn base sid T ds K e fr' σ' := ⟨he, fr2, σ2, cs, fr'', σ'', hf, hs, hr, hh, hsu, hle, h⟩
theorem ResL.le {P : Program} {fr fr' : Fr} {σ σ' : Sto} {rvs : List ResultVar} {cs : List AV} (hf : FrLe fr fr') (hs : StoLe σ σ') (h : ResL P fr' σ' rvs cs) : ResL P fr σ rvs cs := by
  induction h with
  | nil => exact .nil
  | cons h _ ih => exact .cons (res1_le hf hs h) ih
theorem Held.le {base : Nat} {T : Array Value} {l : Fr} {σ' : Sto} (hs : StoLe σ σ') (h : Held σ' base T l) : Held σ base T l := by
  induction h with
  | nil => exact .nil
  | cons h _ ih =>
    refine .cons ?_ ih
    rcases hs _ _ h with h1 | ⟨cs, _, h1⟩
    · exact h1
    · cases h1
theorem stoLe_sus {σ' : Sto} {o B : Nat} {ds : List Deferred} (hs : StoLe σ σ') (h : σ'.get o = some (.sus B ds)) : σ.get o = some (.sus B ds) := by
  rcases hs _ _ h with h1 | ⟨cs, _, h1⟩
  · exact h1
  · cases h1
theorem stoLe_lp {σ' : Sto} {o b : Nat} {L : Loop} (hs : StoLe σ σ') (h : σ'.get o = some (.lp b L)) : σ.get o = some (.lp b L) := by
  rcases hs _ _ h with h1 | ⟨cs, _, h1⟩
  · exact h1
  · cases h1

theorem awpl_inl {gu : Option (Nat × Bool)} {ops rest} {k f : Nat} {fn : Func} {c : Code} {fx : Operand} {xs : List Operand} {ats : Array TypeId} {ty : TypeId} {pos : String} {af : Array Edge} {first cap args : List AV} (base sid : Nat) (keep : Fr) (hw : Wanted E ops ⟨some k, .call ⟨.value fx, xs.toArray, ats⟩, ty, pos, af, gu⟩ fr σ) (hf : fr.ev fx = .fn (.func f) first cap) (hok : FnOk E.P f fn c)
    (hN : (Nat.ble (k + 1) E.N && Nat.ble args.length fn.ntmps) = true) (ha : first ++ xs.map fr.ev ++ cap = args) (hk : Keep fr keep)
    (h : ∀ (T : Array Value) (ds : List Deferred), T.size = E.N → AWP ⟨E.P, none, E.g0, fn.ntmps, true, E.gl, E.S, E.sg⟩ c (frameFrom 0 args) ((sid, .sus E.g0.w.heap.size ds) :: (holds base T keep ++ σ)) (InlK E ops rest k fn base sid T ds K)) :
    AWPL E ops (⟨some k, .call ⟨.value fx, xs.toArray, ats⟩, ty, pos, af, gu⟩ :: rest) fr σ K :=
  awpl_inline base sid keep hw hf hok hN ha hk fun T ds hT => awp_mono (h T ds hT) fun e fr' σ' ⟨he, fr2, σ2, cs, fr'', σ'', hf, hs, hr, hh, hsu, hle, h⟩ =>
    ⟨he, cs, fr'', σ'', hr.le hf hs, hh.le hs, stoLe_sus hs hsu, stoLe_trans hs hle, h⟩

/-- what comes after a range -/
inductive LoopEnd (E : Env) (K : Post) (L : Loop) (fr : Fr) (σ : Sto) : Loop → Prop
  | off (h : K .normal fr σ) : LoopEnd E K L fr σ L
  | jump {c : Code} (h : AWP E c fr σ K) : LoopEnd E K L fr σ (stop L c)
/-- the end of an iterator -/
def ItrK (E : Env) (base sid lid b : Nat) (L : Loop) (T : Array Value) (ds : List Deferred) (K : Post) : Post := fun e fr' σ' => (e = .ret ∨ e = .normal) ∧ ∃ σ2 L' fr'' σ'', StoLe σ' σ2 ∧ σ2.get lid = some (.lp b L') ∧ Held σ2 base T fr'' ∧ σ2.get sid = some (.sus E.g0.w.heap.size ds) ∧ StoLe σ2 σ'' ∧ σ''.get lid = none ∧ LoopEnd E K L fr'' σ'' L'
theorem itrK {base sid lid b : Nat} {L L' : Loop} {T : Array Value} {ds : List Deferred} {e : Exit} {fr' fr'' : Fr} {σ' σ2 σ'' : Sto} (he : e = .ret ∨ e = .normal) (hs : StoLe σ' σ2) (hl : σ2.get lid = some (.lp b L')) (hh : Held σ2 base T fr'') (hsu : σ2.get sid = some (.sus E.g0.w.heap.size ds)) (hle : StoLe σ2 σ'') (hn : σ''.get lid = none)
    (h : LoopEnd E K L fr'' σ'' L') : ItrK E base sid lid b L T ds K e fr' σ' := ⟨he, σ2, L', fr'', σ'', hs, hl, hh, hsu, hle, hn, h⟩

theorem Held.upd {base lid b : Nat} {T : Array Value} {l : Fr} {L L' : Loop} (hl : σ.get lid = some (.lp b L)) (h : Held σ base T l) : Held (σ.upd lid (.lp b L')) base T l := by
  induction h with
  | nil => exact .nil
  | cons h _ ih =>
    refine .cons ?_ ih
    rw [Sto.get_upd hl]
    split
    · rename_i he; rw [he, hl] at h; cases h
    · exact h

theorem awp_rangef {fx : Operand} {ps : Array Tmp} {assign body : Code} {f0 : FuncId} {fn0 : Func} {c0 : Code} {cap : List AV} (base lid sid : Nat) (keep : Fr) (hnd : E.nd = false) (hrd : E.rd = none) (hf : fr.ev fx = .fn (.func f0) [] cap) (hok : FnOk E.P f0 fn0 c0)
    (hres : fn0.results = #[]) (hN : Nat.ble (cap.length + 1) fn0.ntmps = true) (hfr : fr.has lid = false) (hso : σ.has lid = false) (hcap : AV.hasL lid cap = false) (hk : Keep fr keep)
    (h : ∀ (T : Array Value) (b : Nat) (L : Loop) (ds : List Deferred), T.size = E.N → L.state = .ready → L.pending = none → L.tmps = T → L.params = ps → L.assign = assign → L.body = body →
      AWP ⟨E.P, none, E.g0, fn0.ntmps, true, E.gl, E.S, E.sg⟩ c0 (frameFrom 0 (.fn (.yield b) [] [] :: cap)) ((sid, .sus E.g0.w.heap.size ds) :: (lid, .lp b L) :: (holds base T keep ++ σ)) (ItrK E base sid lid b L T ds K)) :
    AWP E (.rangeFunc fx ps assign body) fr σ K := by
  refine awp_range (args := []) base lid sid keep hnd hrd hf hok hres hN hfr hso hcap hk fun T b fid dfb ds hT => awp_mono (h T b ⟨.ready, none, fid, T, ps, assign, body, dfb⟩ ds hT rfl rfl rfl rfl rfl rfl) ?_
  rintro e fr' σ' ⟨he, σ2, L', fr'', σ'', hs, hl, hh, hsu, hle, hn, hend⟩
  have hl' := stoLe_lp hs hl
  have hle' := stoLe_trans hs hle
  refine ⟨he, L', fr'', σ'', hl', ?_, (hh.le hs).upd hl', ?_, ?_, ?_⟩
  · cases hend <;> rfl
  · rw [Sto.get_upd hl']
    split
    · rename_i hx; rw [hx, hl] at hsu; cases hsu
    · exact stoLe_sus hs hsu
  · intro o ob ho
    have hne : o ≠ lid := by rintro rfl; rw [hn] at ho; cases ho
    rw [Sto.get_upd hl', if_neg hne]
    exact hle' o ob ho
  · cases hend with
    | off h => exact h
    | jump h => exact h

/-- how a round ends -/
inductive RoundEnd (L : Loop) : Exit → Loop → Bool → Prop
  | off : RoundEnd L .normal L true
  | ret : RoundEnd L .ret (stop L .ret) false
  | exit (id : Nat) : RoundEnd L (.exit id) (stop L (.exit id)) false
def RndK (E : Env) (ops : Array Oper) (rest : List Oper) (k base2 sid2 lid b : Nat) (L : Loop) (T2 : Array Value) (ds2 : List Deferred) (K : Post) : Post := fun e _ σ' => ∃ L' t σ2 fr'' σ'', RoundEnd L e L' t ∧ StoLe σ' σ2 ∧ σ2.get lid = some (.lp b (busy L)) ∧ Held σ2 base2 T2 fr'' ∧ σ2.get sid2 = some (.sus E.g0.w.heap.size ds2) ∧ StoLe (σ2.upd lid (.lp b L')) σ'' ∧ AWPL E ops rest ((k, .pv (.b (.bool t))) :: fr'') σ'' K
theorem rndK {ops : Array Oper} {rest : List Oper} {k base2 sid2 lid b : Nat} {L L' : Loop} {t : Bool} {T2 : Array Value} {ds2 : List Deferred} {e : Exit} {fr' fr'' : Fr} {σ' σ2 σ'' : Sto} (hr : RoundEnd L e L' t) (hs : StoLe σ' σ2) (hl : σ2.get lid = some (.lp b (busy L))) (hh : Held σ2 base2 T2 fr'') (hsu : σ2.get sid2 = some (.sus E.g0.w.heap.size ds2)) (hle : StoLe (σ2.upd lid (.lp b L')) σ'')
    (h : AWPL E ops rest ((k, .pv (.b (.bool t))) :: fr'') σ'' K) : RndK E ops rest k base2 sid2 lid b L T2 ds2 K e fr' σ' := ⟨L', t, σ2, fr'', σ'', hr, hs, hl, hh, hsu, hle, h⟩
/-- the loop's variables are set: the body begins -/
def AsgK (E2 : Env) (lid b : Nat) (L : Loop) (body : Code) (K : Post) : Post := fun e fr1 σ1 => e = .normal ∧ ∃ fr2 σ2, FrLe fr1 fr2 ∧ StoLe σ1 σ2 ∧ σ2.get lid = some (.lp b L) ∧ AWP E2 body fr2 (σ2.upd lid (.lp b (busy L))) K
theorem asgK {E2 : Env} {lid b : Nat} {L : Loop} {body : Code} {fr1 fr2 : Fr} {σ1 σ2 : Sto} (hf : FrLe fr1 fr2) (hs : StoLe σ1 σ2) (hl : σ2.get lid = some (.lp b L)) (h : AWP E2 body fr2 (σ2.upd lid (.lp b (busy L))) K) : AsgK E2 lid b L body K .normal fr1 σ1 := ⟨rfl, fr2, σ2, hf, hs, hl, h⟩

theorem stoLe_upd {σ' : Sto} {lid b : Nat} {L L' : Loop} (hs : StoLe σ σ') (hl : σ'.get lid = some (.lp b L)) : StoLe (σ.upd lid (.lp b L')) (σ'.upd lid (.lp b L')) := by
  intro o ob ho
  rw [Sto.get_upd hl] at ho
  rw [Sto.get_upd (stoLe_lp hs hl)]
  split at ho
  · rename_i he; rw [if_pos he]; exact .inl ho
  · rename_i he; rw [if_neg he]; exact hs o ob ho

theorem awpl_yieldf {gu : Option (Nat × Bool)} {ops rest} {k b NN : Nat} {fy : Operand} {xs : List Operand} {ats : Array TypeId} {ty : TypeId} {pos : String} {af : Array Edge} {L : Loop} {args : List AV} {ps : List Nat} {T : Array Value} {assign body : Code} (base base2 lid sid2 : Nat) (frO keep : Fr)
    (hw : Wanted E ops ⟨some k, .call ⟨.value fy, xs.toArray, ats⟩, ty, pos, af, gu⟩ fr σ) (hf : fr.ev fy = .fn (.yield b) [] []) (hl : σ.get lid = some (.lp b L)) (hready : L.state = .ready) (hpend : L.pending = none) (hT : L.tmps = T) (hps : L.params = ps.toArray) (hasg : L.assign = assign) (hbody : L.body = body) (hNN : T.size = NN) (hN : Nat.ble (k + 1) E.N = true) (ha : xs.map fr.ev = args) (hlen : ps.length = args.length) (hlt : (ps.all fun p => Nat.blt p NN) = true) (hk : Keep fr keep)
    (hheld : Held σ base T frO)
    (h : ∀ (T2 : Array Value) (ds2 : List Deferred), T2.size = E.N → AWP ⟨E.P, some b, E.g0, NN, true, E.gl, E.S, E.sg⟩ assign (setFr ps args frO) ((sid2, .sus E.g0.w.heap.size ds2) :: (holds base2 T2 keep ++ σ))
      (AsgK ⟨E.P, some b, E.g0, NN, true, E.gl, E.S, E.sg⟩ lid b L body (RndK E ops rest k base2 sid2 lid b L T2 ds2 K))) :
    AWPL E ops (⟨some k, .call ⟨.value fy, xs.toArray, ats⟩, ty, pos, af, gu⟩ :: rest) fr σ K := by
  subst hT hasg hbody
  refine awpl_yield base base2 lid sid2 keep hw hf hl hready hN hNN hps ha hlen hlt hk hheld fun T2 ds2 hT2 => awp_mono (h T2 ds2 hT2) ?_
  rintro e fr1 σ1 ⟨rfl, fr2, σ2, hf2, hs2, hl2, hb⟩
  refine ⟨rfl, L, stoLe_lp hs2 hl2, hready, awp_mono (awp_le hf2 (stoLe_upd hs2 hl2) hb) ?_⟩
  rintro e2 fr3 σ3 ⟨L', t, σ4, fr'', σ'', hr, hs4, hl4, hh, hsu, hle, hrest⟩
  have hl3 := stoLe_lp hs4 hl4
  have hend : ∃ jump, Jump e2 jump ∧ jump.isNone = t ∧ { (busy L) with state := if jump.isNone then .ready else .done, pending := jump } = L' := by
    cases hr with
    | off => refine ⟨none, .end, rfl, ?_⟩; cases L; simp only at hready hpend; subst hready; subst hpend; rfl
    | ret => exact ⟨_, .ret, rfl, rfl⟩
    | exit id => exact ⟨_, .exit id, rfl, rfl⟩
  obtain ⟨jump, hj, rfl, hL⟩ := hend
  refine ⟨jump, busy L, fr'', σ'', hj, hl3, ?_, ?_, ?_, hrest⟩
  · exact (hh.le hs4).upd hl3
  · rw [Sto.get_upd hl3]
    split
    · rename_i hx; rw [hx, hl4] at hsu; cases hsu
    · exact stoLe_sus hs4 hsu
  · rw [hL]
    exact stoLe_trans (stoLe_upd hs4 hl4) hle

end Go.Proofs.Ytpclhpncmlbccaa

/- The abstract calculus: regions that draw their order, explored: one state for each set of operations that may have come up. No program is named. -/
namespace Go.Proofs.Ytpclhpncmlbccaa
open Go.RowKit Go.Lib

variable {E : Env} {fr : Fr} {σ : Sto} {K : Post}

abbrev Node := List Bool × Fr × Sto
/-- may it come up now? -/
def readyB (l : List Oper) (D : List Bool) (i : Nat) : Bool := match l[i]? with
  | some o => !(D.getD i false) && o.after.toList.all fun e => !Region.binds .any e || D.getD e.on false
  | none => false
def readyL (l : List Oper) (D : List Bool) : List Nat := (List.range l.length).filter (readyB l D)

inductive StepOk (E : Env) (l : List Oper) (all : List Node) (D : List Bool) (fr : Fr) (σ : Sto) (i : Nat) : Prop
  | yes {o : Oper} {fr' fr2 : Fr} {σ' σ2 : Sto} (j : Nat) (ho : l[i]? = some o) (hw : Wanted E l.toArray o fr σ) (hop : OpTo E o fr σ fr' σ') (hn : all[j]? = some (D.set i true, fr2, σ2)) (hf : FrLe fr' fr2) (hs : StoLe σ' σ2)
  | no {o : Oper} {fr2 : Fr} {σ2 : Sto} (j : Nat) (ho : l[i]? = some o) (hg : GuardNo l.toArray fr o) (hn : all[j]? = some (D.set i true, fr2, σ2)) (hf : FrLe ((o.dst.map fun d => (d, AV.tup [])).toList ++ fr) fr2) (hs : StoLe σ σ2)
inductive StepsOk (E : Env) (l : List Oper) (all : List Node) (D : List Bool) (fr : Fr) (σ : Sto) : List Nat → Prop
  | nil : StepsOk E l all D fr σ []
  | cons {i : Nat} {is : List Nat} (h : StepOk E l all D fr σ i) (r : StepsOk E l all D fr σ is) : StepsOk E l all D fr σ (i :: is)
inductive NodeOk (E : Env) (l : List Oper) (K : Post) (all : List Node) : Node → Prop
  | full {D : List Bool} {fr : Fr} {σ : Sto} (hD : readyL l D = []) (h : K .normal fr σ) : NodeOk E l K all (D, fr, σ)
  | step {D : List Bool} {fr : Fr} {σ : Sto} (is : List Nat) (hD : readyL l D = is) (hn : D.all id = false) (h : StepsOk E l all D fr σ is) : NodeOk E l K all (D, fr, σ)
inductive NodesOk (E : Env) (l : List Oper) (K : Post) (all : List Node) : List Node → Prop
  | nil : NodesOk E l K all []
  | cons {nd : Node} {r : List Node} (h : NodeOk E l K all nd) (hr : NodesOk E l K all r) : NodesOk E l K all (nd :: r)

theorem StepsOk.get {l : List Oper} {all : List Node} {D : List Bool} {is : List Nat} (h : StepsOk E l all D fr σ is) {i : Nat} (hi : i ∈ is) : StepOk E l all D fr σ i := by
  induction h with
  | nil => cases hi
  | cons h _ ih =>
    rcases List.mem_cons.1 hi with rfl | hi
    · exact h
    · exact ih hi
theorem NodesOk.get {l : List Oper} {all r : List Node} (h : NodesOk E l K all r) {nd : Node} (hi : nd ∈ r) : NodeOk E l K all nd := by
  induction h with
  | nil => cases hi
  | cons h _ ih =>
    rcases List.mem_cons.1 hi with rfl | hi
    · exact h
    · exact ih hi
theorem wanted_no {ops : Array Oper} {o : Oper} {g : G} {a : Act} (hs : St E g a fr σ) (h : GuardNo ops fr o) : Region.wanted o (yielded ops a.tmps) = false := by
  cases h with
  | @no j d want t hg hj hv ht =>
    have hy := yielded_of hs hj hv
    cases want <;> simp_all [Region.wanted]
  | @none j d want hg hj hv =>
    have hy : yielded ops a.tmps j = Option.none := by
      have h1 := hs.fr d
      rw [hv] at h1
      unfold yielded
      rw [hj]
      simp only [Option.bind_some]
      cases hx : a.tmps[d]? with
      | none => rfl
      | some x =>
        rw [Array.getD_eq_getD_getElem?, hx] at h1
        simp only [Option.getD_some] at h1
        cases h1
        rfl
    simp [Region.wanted, hg, hy]

theorem awp_explore {id : Nat} {l : List Oper} (all : List Node) {D0 : List Bool} {fr0 : Fr} {σ0 : Sto} (hmix : E.P.follows .mixedOrders = true) (hback : leadsBack .any l.toArray = true) (h0 : all[0]? = some (D0, fr0, σ0)) (hD0 : D0 = List.replicate l.length false) (hf : FrLe fr fr0) (hs : StoLe σ σ0) (h : NodesOk E l K all all) :
    AWP E (.region id l.toArray true) fr σ K :=
  ⟨fun g a hst => by
    refine wpIn_region_inv hmix hback (fun D a w => ∃ nd ∈ all, nd.1.length = l.length ∧ (∀ i, i < l.length → D i = nd.1.getD i false) ∧ ∃ g, g.w = w ∧ St E g a nd.2.1 nd.2.2) ?_ ?_ ?_
    · refine ⟨_, List.mem_of_getElem? h0, by subst hD0; simp, fun i hi => by subst hD0; simp [List.getD_eq_getElem?_getD, hi], ⟨g.w.drew, g.u, g.loc⟩, rfl, (hst.le hf hs).drew⟩
    · rintro D a w ⟨⟨D', fr', σ'⟩, hm, hl, hD, g, rfl, hst'⟩ hall
      cases h.get hm with
      | full _ hk => exact ⟨g, fr', σ', rfl, hst', hk⟩
      | step is _ hn _ =>
        exfalso
        have : D'.all _root_.id = true := by
          rw [List.all_eq_true]
          intro x hx
          obtain ⟨i, hi, rfl⟩ := List.mem_iff_getElem.1 hx
          have h1 := hD i (by rw [← hl]; exact hi)
          rw [hall i (by simp; rw [← hl]; exact hi)] at h1
          simp only [List.getD_eq_getElem?_getD, List.getElem?_eq_getElem hi, Option.getD_some] at h1
          simp [← h1]
        rw [this] at hn; cases hn
    · rintro D a w i o ⟨⟨D', fr', σ'⟩, hm, hl, hD, g, rfl, hst'⟩ ho hDi hae
      have ho' : l[i]? = some o := by simpa using ho
      have hil : i < l.length := (List.getElem?_eq_some_iff.1 ho').1
      have hready : i ∈ readyL l D' := by
        simp only [readyL, List.mem_filter, List.mem_range]
        refine ⟨hil, ?_⟩
        unfold readyB
        rw [ho']
        simp only [Bool.and_eq_true, Bool.not_eq_true', List.all_eq_true, Bool.or_eq_true]
        refine ⟨by rw [← hD i hil]; exact hDi, fun e he => ?_⟩
        cases hb : Region.binds .any e with
        | false => exact .inl rfl
        | true =>
          refine .inr ?_
          have h1 := hae e (by simpa using he) hb
          have hlt := leadsBack_spec hback ho e (by simpa using he) hb
          rw [← hD e.on (by omega)]
          exact h1
      have hstep : StepOk E l all D' fr' σ' i := by
        cases h.get hm with
        | full hD hk => rw [hD] at hready; cases hready
        | step is hD _ hs => rw [hD] at hready; exact hs.get hready
      have hnext : ∀ k, k < l.length → upd D i k = (D'.set i true).getD k false := by
        intro k hk
        unfold upd
        simp only [List.getD_eq_getElem?_getD, List.getElem?_set]
        by_cases hki : k = i
        · subst hki; simp [hl, hk]
        · rw [if_neg hki, if_neg (Ne.symm hki), ← List.getD_eq_getElem?_getD]; exact hD k hk
      cases hstep with
      | @yes o' fr2' fr2 σ2' σ2 j ho2 hw hop hn hf2 hs2 =>
        rw [ho'] at ho2; cases ho2
        unfold wpOpIn
        rw [ho]
        simp only [hw.go g a hst', if_true]
        exact hop.go g a _ _ hst' fun g' a' hst2 => ⟨_, List.mem_of_getElem? hn, by simp [hl], hnext, g', rfl, hst2.le hf2 hs2⟩
      | @no o' fr2 σ2 j ho2 hg hn hf2 hs2 =>
        rw [ho'] at ho2; cases ho2
        unfold wpOpIn
        rw [ho]
        simp only [wanted_no hst' hg]
        exact ⟨fun _ _ => trivial, _, List.mem_of_getElem? hn, by simp [hl], hnext, g, rfl, hst'.putUndef.le hf2 hs2⟩⟩

end Go.Proofs.Ytpclhpncmlbccaa

/- The abstract calculus: literals as owned rows, their conversion to their own type. No program is named. -/
namespace Go.Proofs.Ytpclhpncmlbccaa
open Go.RowKit Go.Lib

variable {E : Env} {fr : Fr} {σ : Sto} {K : Post}
section
variable {ty : TypeId} {pos : String} {af : Array Edge} {gu : Option (Nat × Bool)}
variable {α : Type} {F : α → List PV} {l : List α} {size bytes sb ss k n : Nat} {e t : TypeId} {zero sz : Value} {d : TypeDesc}
theorem opTo_litrow {k : Nat} {ps : List (Nat × Operand)} (r : Nat) (hN : Nat.ble (k + 1) E.N = true) (hfr : fr.has r = false) (hsr : σ.has r = false) (ht : TyOk E.P t ss sb sz (.slice e)) (he : TyOk E.P e size bytes zero d) (hzs : (Nat.beq zero.cells.size size && Nat.ble 1 size && zero.cells.toList.all cellV) = true) (hF : ∀ x, (F x).length = size) (hln : Nat.beq l.length n && Nat.ble (n * size) 16777216)
    (hc : fillA (fun i => some (i * size, size)) (List.replicate (n * size) .any) (ps.map fun p => (p.1, (fr.ev p.2).weak)) = some (l.flatMap fun x => (F x).map AV.pv)) :
    OpTo E ⟨some k, .buildSlice t n ps.toArray, ty, pos, af, gu⟩ fr σ ((k, .hs r 0) :: fr) ((r, .row e true size (l.map F)) :: σ) :=
  ⟨fun g a K Q hst hK => by
    have hx0 : ∀ x ∈ (Op.buildSlice t n ps.toArray).operands, Rel g (fr.ev x) (a.eval x) := fun x _ => hst.ev x
    have hso := hst.so
    simp only [Bool.and_eq_true] at hzs hln
    have hz1 := Nat.eq_of_beq_eq_true hzs.1.1
    have hz2 := Nat.le_of_ble_eq_true hzs.1.2
    have hn1 := Nat.eq_of_beq_eq_true hln.1
    have hn2 := Nat.le_of_ble_eq_true hln.2
    subst hn1
    refine ⟨fun _ _ => trivial, ?_⟩
    rw [Oper.semAt_plain _ _ _ (fun c => by simp)]
    generalize hzero : (if l.length * size = 0 then #[] else zero.cells) = zc
    generalize harr : ((Array.range (l.length * size)).map (fun i => zc[i % zc.size]!)) = arr
    have hasz : arr.size = l.length * size := by rw [← harr]; simp
    have hacell : ∀ i, i < arr.size → cellV (arr.getD i undef) = true := by
      intro i hi
      rw [hasz] at hi
      have hne : l.length * size ≠ 0 := by omega
      rw [if_neg hne] at hzero
      subst hzero
      have hlt : i % zero.cells.size < zero.cells.size := Nat.mod_lt _ (by omega)
      have : arr.getD i undef = zero.cells[i % zero.cells.size] := by
        rw [← harr]; simp [hi, hlt]
      rw [this]
      have h3 := hzs.2
      rw [List.all_eq_true] at h3
      exact h3 _ (by simp)
    obtain ⟨out, h1, h2⟩ := fill_ok (g := g) (ps.map fun p => (p.1, (fr.ev p.2).weak)) (ps.map fun p => (p.1, a.eval p.2)) (List.replicate (l.length * size) .any) arr (l.flatMap fun x => (F x).map AV.pv)
      ⟨by simp [hasz], hacell, fun i c hi => by
        have := List.mem_of_getElem? hi
        rw [List.mem_replicate] at this
        rw [this.2]; exact .any _⟩ (by simp) (fun i p v hp hv => by
      simp only [List.getElem?_map, Option.map_eq_some_iff] at hp hv
      obtain ⟨q, hq, rfl⟩ := hp
      obtain ⟨q', hq', rfl⟩ := hv
      rw [hq] at hq'
      cases hq'
      exact ⟨rfl, rel_weak (hx0 q.2 (by simp only [Op.operands, List.mem_toArray, List.mem_map]; exact ⟨q, List.mem_of_getElem? hq, rfl⟩))⟩) hc
    have hrun : (execOp a.eval ⟨some k, .buildSlice t l.length ps.toArray, ty, pos, af, gu⟩).run E.P g.w = .ok (.value (.slice (some ⟨g.w.heap.size, 0, none⟩) l.length l.length)) (g.w.alloc (.cells out e)) := by
      show Sem.run E.P (do let v ← Instr.buildSlice t l.length (ps.toArray.map fun (i, x) => (i, a.eval x)); pure (Next.value v)) g.w = _
      have e1 : (ps.toArray.map fun (x : Nat × Operand) => (x.1, a.eval x.2)).toList = ps.map fun p => (p.1, a.eval p.2) := by simp
      have hgt : ¬ (l.length * size > 2 ^ 24) := by simp; omega
      by_cases h0 : l.length * size = 0
      · rw [if_pos h0] at hzero; subst hzero
        simp only [Instr.buildSlice, underlying, program, Sem.run_bind, Sem.run, ht.u, he.sizeOf, Result.andThen_ok, Sem.run_pure, if_neg hgt, if_pos h0, e1, harr, h1]
        rfl
      · rw [if_neg h0] at hzero; subst hzero
        simp only [Instr.buildSlice, underlying, program, Sem.run_bind, Sem.run, ht.u, he.sizeOf, Result.andThen_ok, Sem.run_pure, if_neg hgt, if_neg h0, he.zeroValue, e1, harr, h1]
        rfl
    rw [hrun, Oper.uponIn_value]
    have hosz : out.size = l.length * size := by rw [h2.n, flatMap_len hF]
    have hold := old_alloc g out e 0 r (.row g.w.heap.size 0 l.length size l.length)
    have hwf := wf_alloc hso.wf out e 0 r (.row g.w.heap.size 0 l.length size l.length)
    have hblk : (g.alloc out e 0 r (.row g.w.heap.size 0 l.length size l.length)).w.heap[g.w.heap.size]? = some (.cells out e (0, 0)) := heap_alloc_new _ _
    have hloc : (g.alloc out e 0 r (.row g.w.heap.size 0 l.length size l.length)).loc r = .row g.w.heap.size 0 l.length size l.length := if_pos rfl
    have hlen : l.length ≤ maxLen := by
      have : l.length * 1 ≤ l.length * size := Nat.mul_le_mul_left _ hz2
      unfold maxLen; omega
    have hst' := hst.addObj r (ob := .row e true size (l.map F)) hfr hsr hold hwf (fun q hq => if_neg hq) (.row (off := 0) (by rw [hloc]; simp) hblk (by rw [Nat.zero_add]; exact hosz) hlen (by simp) (fun x hx => by obtain ⟨y, _, rfl⟩ := List.mem_map.1 hx; exact hF y) (by show (if g.w.heap.size = g.w.heap.size then 0 else _) ≤ _; simp) (fun _ => if_pos rfl) (fun i j x c hi hj => by
        simp only [List.getElem?_map, Option.map_eq_some_iff] at hi
        obtain ⟨y, hy, rfl⟩ := hi
        have := h2.r _ _ (flatMap_get hF l i j y c hy hj)
        cases this with
        | pv h => rw [Nat.zero_add]; exact h.mono hold.ext)) (fun b hb => by
      simp only [AO.own, hloc, Loc.block] at hb
      cases hb; exact Nat.le_refl _)
    exact hK _ _ (hst'.put (Nat.le_of_ble_eq_true hN) (.hs hloc (fun _ => by simp)))⟩
end

def Sto.del (r : Nat) : Sto → Sto
  | [] => []
  | (k, a) :: s => bif Nat.beq k r then Sto.del r s else (k, a) :: Sto.del r s
theorem Sto.get_del (r : Nat) (σ : Sto) (o : Nat) : (Sto.del r σ).get o = if o = r then none else σ.get o := by
  induction σ with
  | nil => simp [Sto.del, Sto.get]
  | cons x s ih =>
    obtain ⟨k, a⟩ := x
    unfold Sto.del
    cases hb : Nat.beq k r with
    | true =>
      have := Nat.eq_of_beq_eq_true hb
      subst this
      simp only [cond_true, ih, Sto.get_cons]
      by_cases ho : o = k
      · simp [ho]
      · rw [if_neg ho, if_neg ho, if_neg (Ne.symm ho)]
    | false =>
      have hne : k ≠ r := by rintro rfl; simp at hb
      simp only [cond_false, Sto.get_cons, ih]
      by_cases ho : k = o
      · subst ho; simp [hne]
      · rw [if_neg ho, if_neg ho]
/-- an owned row leaves the store: its block may be marked, and is published -/
theorem St.loose {g : G} {a : Act} {r B : Nat} {ob : AO} {w2 : World} {u2 : Nat → Nat} (h : St E g a fr σ) (hr : σ.get r = some ob) (hB : ob.own (g.loc r) B) (hsz : w2.heap.size = g.w.heap.size) (hos : w2.os = g.w.os) (htp : w2.tape = g.w.tape) (hout : w2.output = g.w.output)
    (hheap : ∀ k, k ≠ B → w2.heap[k]? = g.w.heap[k]?) (hu : ∀ k, k ≠ B → u2 k = g.u k) (hx : Ext g.w g.u w2 u2) (hBl : B < g.w.heap.size) : St E ⟨w2, u2, g.loc⟩ a fr (Sto.del r σ) := by
  have hget : ∀ k ob', (Sto.del r σ).get k = some ob' → k ≠ r ∧ σ.get k = some ob' := by
    intro k ob' hk
    rw [Sto.get_del] at hk
    split at hk
    · cases hk
    · rename_i hne; exact ⟨hne, hk⟩
  refine ⟨fun d => (h.fr d).mono (g' := ⟨w2, u2, g.loc⟩) hx (fun _ _ => rfl), h.n, h.df.mono hx, ⟨?_, fun k k' o1 o2 b' h1 h2 => ?_, fun k o1 b' h1 => ?_, ?_, ?_⟩⟩
  · intro k ob' hk
    obtain ⟨hne, hk⟩ := hget k ob' hk
    have hb : ∀ b', ob'.own (g.loc k) b' → b' ≠ B := by
      rintro b' hb' rfl
      exact hne (h.so.apart k r ob' ob b' hk hr hb' hB)
    exact (h.so.obj k ob' hk).mono (g' := ⟨w2, u2, g.loc⟩) hx rfl (fun _ _ => rfl) fun b' hb' => ⟨hheap b' (hb b' hb'), hu b' (hb b' hb')⟩
  · exact h.so.apart k k' o1 o2 b' (hget k o1 h1).2 (hget k' o2 h2).2
  · exact h.so.mine k o1 b' (hget k o1 h1).2
  · refine h.so.old.trans ⟨hos, htp, hout, hx, fun k hk hs => ?_⟩
    have hne : k ≠ B := by
      rintro rfl
      rcases h.so.mine r ob k hr hB with h1 | h1
      · exact hs (.inr h1)
      · exact hs (.inl h1)
    exact ⟨hheap k hne, hu k hne⟩
  · intro k hk
    have hk : g.w.heap.size ≤ k := by rw [← hsz]; exact hk
    show u2 k = 0
    rw [hu k (by omega)]
    exact h.so.wf k hk

theorem opTo_convrow {k d0 : Nat} {t e : TypeId} {mu : Bool} {l : List UInt8} {r ss sb s1 s2 : Nat} {sz z : Value} {ty : TypeId} {pos : String} {af : Array Edge} {gu : Option (Nat × Bool)} (hx : fr.get d0 = .hs r 0) (ho : σ.get r = some (.row e mu 1 (l.map cU))) (hl0 : (Nat.ble 1 l.length) = true) (ht : TyOk E.P t ss sb sz (.slice e)) (he : TyOk E.P e s1 s2 z (.int .u8)) (hN : Nat.ble (k + 1) E.N = true) :
    OpTo E ⟨some k, .convert t t (.tmp d0), ty, pos, af, gu⟩ fr σ ((k, .l cU l) :: fr) (Sto.del r σ) :=
  ⟨fun g a K Q hst hK => by
    have hl0 := Nat.le_of_ble_eq_true hl0
    refine ⟨fun _ _ => trivial, ?_⟩
    have hv := hst.fr d0
    rw [hx] at hv
    have hob := hst.so.obj r _ ho
    generalize hval : a.tmps.getD d0 undef = v at hv
    generalize hes : l.map cU = es at hob
    have hlen : es.length = l.length := by subst hes; simp
    cases hob with
    | nil hl => simp at hlen; omega
    | @row _ _ _ _ B off cap vs hl hb hn hm hle hz hu hmu hr =>
      cases hv with
      | hsNil a hl2 => rw [hl] at hl2; cases hl2
      | @hs _ b' off' cap' size' n' ad hl2 ha =>
        rw [hl] at hl2
        cases hl2
        have had := ha (by omega)
        subst had
        simp only [Nat.mul_one] at hn hu hr hval
        obtain ⟨w2, hrun, hsz, hos, htp, hout, hblk, hcell, hdf⟩ := run_markStringish E.P g.w B off
        have hBl := blk_lt hb
        have hrun2 : (execOp a.eval ⟨some k, .convert t t (.tmp d0), ty, pos, af, gu⟩).run E.P g.w = .ok (.value (.slice (some ⟨B, off, none⟩) es.length cap)) w2 := by
          show Sem.run E.P (do let v ← convert t t (a.tmps.getD d0 undef); pure (Next.value v)) g.w = _
          rw [hval]
          simp only [convert, underlying, program, Sem.run_bind, Sem.run, ht.u, he.u, Result.andThen_ok, Sem.run_pure, beq_self_eq_true, hrun]
        rw [Oper.semAt_plain _ _ _ (fun c => by simp), hrun2, Oper.uponIn_value]
        have hxx : Ext g.w g.u w2 (fun q => if q = B then off + es.length else g.u q) := ⟨Nat.le_of_eq hsz.symm, fun q _ => by
          show g.u q ≤ if q = B then _ else _
          split
          · rename_i hq; subst hq; exact hu
          · exact Nat.le_refl _, fun q i _ _ => hcell q i, hdf⟩
        have hst2 := hst.loose (w2 := w2) (u2 := fun q => if q = B then off + es.length else g.u q) ho (by simp [AO.own, hl, Loc.block]) hsz hos htp hout hblk (fun q hq => if_neg hq) hxx hBl
        refine hK ⟨w2, _, g.loc⟩ _ (hst2.put (Nat.le_of_ble_eq_true hN) (.pv ?_))
        have key : RelP w2 (fun q => if q = B then off + es.length else g.u q) (.sl none es) (.slice (some ⟨B, off, none⟩) es.length cap) := by
          refine .sl 1 B off (fun i => vs.getD (off + i) undef) (fun x hx => by cases hx) (fun hx => by cases hx) hle hz (fun _ => rfl) (fun _ => ⟨by simp, by rw [hsz]; exact hBl⟩) (fun i hi => ?_) (fun i j x c hi hj => ?_)
          · rw [hcell]
            exact cell_of_heap hb (by omega)
          · have := (hr i j x c hi hj).mono hxx
            rw [Nat.mul_one, ← Nat.add_assoc]; exact this
        rw [← hes] at key ⊢
        exact key⟩

end Go.Proofs.Ytpclhpncmlbccaa

/- The abstract calculus: parts and elements of owned rows: rules. No program is named. -/
namespace Go.Proofs.Ytpclhpncmlbccaa
open Go.RowKit Go.Lib

variable {E : Env} {fr : Fr} {σ : Sto} {K : Post} {P : Program} {ρ : Operand → AV}
variable {dst : Option Tmp} {ty : TypeId} {pos : String} {af : Array Edge} {gu : Option (Nat × Bool)}

/-- an object of the store turns, where it lies -/
theorem St.objset {g g' : G} {a : Act} (h : St E g a fr σ) {r : Nat} {ob0 ob : AO} (hr : σ.get r = some ob0) (hx : Ext g.w g.u g'.w g'.u) (hl : g'.loc = g.loc)
    (hos : g'.w.os = g.w.os) (htape : g'.w.tape = g.w.tape) (hout : g'.w.output = g.w.output)
    (hb : ∀ b, b < g.w.heap.size → ¬ ob0.own (g.loc r) b → g'.w.heap[b]? = g.w.heap[b]? ∧ g'.u b = g.u b) (hwf : Wf g') (hob : RelO g' r ob)
    (hk : ∀ l, ob0.own l = ob.own l) : St E g' a fr (σ.upd r ob) := by
  have hget := Sto.get_upd (ob := ob) hr
  have hsome : ∀ k ob1, (σ.upd r ob).get k = some ob1 → ∃ ob', σ.get k = some ob' ∧ ∀ l, ob'.own l = ob1.own l := by
    intro k ob1 hk1
    rw [hget] at hk1
    split at hk1
    · rename_i hkr; cases hk1; exact ⟨ob0, hkr ▸ hr, hk⟩
    · exact ⟨_, hk1, fun _ => rfl⟩
  refine ⟨fun d => (h.fr d).mono hx (fun k _ => by rw [hl]), h.n, h.df.mono hx, ⟨?_, ?_, ?_, ?_, hwf⟩⟩
  · intro k ob1 hk1
    rw [hget] at hk1
    split at hk1
    · rename_i hkr; subst hkr; cases hk1; exact hob
    · rename_i hkr
      refine (h.so.obj k ob1 hk1).mono hx (by rw [hl]) (fun _ _ => by rw [hl]) fun b' hb' => hb b' ((h.so.obj k ob1 hk1).block_lt hb') fun hc => ?_
      exact hkr (h.so.apart k r ob1 _ b' hk1 hr hb' hc)
  · intro k k' ob1 ob2 b' h1 h2 h3 h4
    obtain ⟨_, e1, q1⟩ := hsome k ob1 h1
    obtain ⟨_, e2, q2⟩ := hsome k' ob2 h2
    rw [← q1, hl] at h3
    rw [← q2, hl] at h4
    exact h.so.apart k k' _ _ b' e1 e2 h3 h4
  · intro k ob1 b' h1 h2
    obtain ⟨_, e1, q1⟩ := hsome k ob1 h1
    rw [← q1, hl] at h2
    exact h.so.mine k _ b' e1 h2
  · refine h.so.old.trans ⟨hos, htape, hout, hx, fun k hk1 hs => hb k hk1 fun hc => ?_⟩
    rcases h.so.mine r _ k hr hc with h1 | h1
    · exact hs (.inr h1)
    · exact hs (.inl h1)

section
variable {α : Type} {F : α → List PV} {l : List α} {r size bytes sb ss k : Nat} {e t : TypeId} {mu : Bool} {zero sz : Value} {d : TypeDesc} {x y : Operand}

/-- row[lo:hi] of an owned row becomes the row -/
theorem opTo_hcut_ {lo hi : Option Operand} {p q : Int} {v : List α} (hN : Nat.ble (k + 1) E.N = true) (hx : fr.ev x = .hs r 0) (hr : σ.get r = some (.row e mu size (l.map F)))
    (hlo : lo = none ∧ p = 0 ∨ ∃ o k, lo = some o ∧ fr.ev o = .pv (.b (.int k p))) (hhi : hi = none ∧ q = l.length ∨ mu = true ∧ ∃ o k, hi = some o ∧ fr.ev o = .pv (.b (.int k q)))
    (ht : TyOk E.P t ss sb sz (.slice e)) (he : TyOk E.P e size bytes zero d) (hv : cut l p q = some v) :
    OpTo E ⟨some k, .slice t x lo hi none, ty, pos, af, gu⟩ fr σ ((k, .hs r 0) :: fr.clr r) ((σ.clr r).upd r (.row e mu size (v.map F))) :=
  ⟨fun g a K Q hst hK => by
    obtain ⟨h0, h01, h02, rfl⟩ := cut_spec hv
    refine ⟨fun _ _ => trivial, ?_⟩
    rw [Oper.semAt_plain _ _ _ (fun c => by simp)]
    have h1 := hst.ev x
    rw [hx] at h1
    have hob := hst.so.obj r _ hr
    have hlo' : lo.map a.eval = none ∧ p = 0 ∨ ∃ k, lo.map a.eval = some (.int k p) := by
      rcases hlo with ⟨rfl, rfl⟩ | ⟨o, k, rfl, ho⟩
      · exact .inl ⟨rfl, rfl⟩
      · have h2 := hst.ev o
        rw [ho] at h2
        exact .inr ⟨k, by simp [rel_b h2]⟩
    have hhi' : hi.map a.eval = none ∧ q = l.length ∨ ∃ k, hi.map a.eval = some (.int k q) := by
      rcases hhi with ⟨rfl, rfl⟩ | ⟨_, o, k, rfl, ho⟩
      · exact .inl ⟨rfl, rfl⟩
      · have h2 := hst.ev o
        rw [ho] at h2
        exact .inr ⟨k, by simp [rel_b h2]⟩
    have hrun : ∀ ad cap, a.eval x = .slice ad l.length cap → l.length ≤ cap → (execOp a.eval ⟨some k, .slice t x lo hi none, ty, pos, af, gu⟩).run E.P g.w =
        .ok (.value (.slice (if cap = p.toNat then ad else ad.map (·.add (p.toNat * size))) (q.toNat - p.toNat) (cap - p.toNat))) g.w := by
      intro ad cap ev hcap
      show Sem.run E.P (do let v ← Instr.sliceAt t (a.eval x) (lo.map a.eval) (hi.map a.eval) none; pure (Next.value v)) g.w = _
      have hb := run_sliceBounds (P := E.P) (w := g.w) (len := l.length) (cap := cap) (lo := lo.map a.eval) (hi := hi.map a.eval) (a := p) (b := q) hcap hlo' hhi' h0 h01 h02
      rw [ev]
      simp only [Instr.sliceAt, underlying, program, Sem.run_bind, Sem.run, ht.u, Result.andThen_ok, Sem.run_pure, Instr.slice, hb, he.sizeOf]
    have e1 : (q - p).toNat = q.toNat - p.toNat := by omega
    rw [e1] at hK
    generalize hls : l.map F = ls at hob
    cases hob with
    | nil hl =>
      obtain rfl : l = [] := by simpa using hls
      have hp : p.toNat = 0 := by simp at h02; omega
      have hq : q.toNat = 0 := by simp at h02; omega
      generalize h1v : a.eval x = vx at h1
      cases h1 with
      | hs h2 => rw [hl] at h2; cases h2
      | hsNil ax =>
        rw [hrun ax 0 h1v (by simp), Oper.uponIn_value]
        have := hst.row_upd (ob := .row e mu size ((List.take (q.toNat - p.toNat) (List.drop p.toNat ([] : List α))).map F)) hr (Ext.refl _ _) (fun _ _ => rfl) rfl rfl rfl (fun _ _ _ => ⟨rfl, rfl⟩) hst.so.wf (by simp; exact .nil hl) (fun b hb => .inl hb)
        refine hK g _ (this.put (Nat.le_of_ble_eq_true hN) ?_)
        simp only [hp, hq, if_true, Nat.sub_zero]
        exact .hsNil _ hl
    | @row _ _ _ _ b off cap vs hl hb hn hm hle hz hu hmu hrel =>
      subst hls
      simp only [List.length_map] at hl hle hu
      have hlen : ((l.drop p.toNat).take (q.toNat - p.toNat)).length = q.toNat - p.toNat := by simp; omega
      generalize hev : a.eval x = vx at h1
      cases h1 with
      | hsNil ax h2 => rw [hl] at h2; cases h2
      | @hs _ _ _ _ _ _ ad h2 ha =>
        rw [hl] at h2
        cases h2
        rw [hrun (some ad) cap hev hle, Oper.uponIn_value]
        have hst' := hst.row_upd (g' := ⟨g.w, g.u, fun k => if k = r then .row b (off + p.toNat) (cap - p.toNat) size (q.toNat - p.toNat) else g.loc k⟩) (ob := .row e mu size (((l.drop p.toNat).take (q.toNat - p.toNat)).map F)) hr (Ext.refl _ _) (fun k hk => if_neg hk) rfl rfl rfl (fun _ _ _ => ⟨rfl, rfl⟩) hst.so.wf
          (.row (off := off + p.toNat) (cap := cap - p.toNat) (by simp only [if_true]; rw [List.length_map, hlen]) hb (by rw [hn]; congr 1; omega) (by omega) (by rw [List.length_map, hlen]; omega)
            (fun z hz' => by obtain ⟨w, hw, rfl⟩ := List.mem_map.1 hz'; exact hz _ (List.mem_map_of_mem (List.mem_of_mem_drop (List.mem_of_mem_take hw))))
            (by
              show g.u b ≤ _
              rw [List.length_map, hlen]
              rcases hhi with ⟨_, rfl⟩ | ⟨hmu', _⟩
              · have : off + p.toNat + ((l.length : Int).toNat - p.toNat) = off + l.length := by omega
                rw [this]; exact hu
              · rw [hmu hmu']; omega) hmu (fun i j z c hi hj => by
              simp only [List.getElem?_map, Option.map_eq_some_iff] at hi
              obtain ⟨w, hw, rfl⟩ := hi
              have hpl : i < q.toNat - p.toNat := by have := (List.getElem?_eq_some_iff.1 hw).1; omega
              rw [List.getElem?_take_of_lt hpl, List.getElem?_drop] at hw
              have := hrel (p.toNat + i) j (F w) c (by simp [hw]) hj
              rw [← Nat.add_assoc] at this
              exact this)) (fun b' hb' => .inl (by simp only [if_true] at hb'; rw [hl]; exact hb'))
        refine hK ⟨g.w, g.u, fun k => if k = r then .row b (off + p.toNat) (cap - p.toNat) size (q.toNat - p.toNat) else g.loc k⟩ _ (hst'.put (Nat.le_of_ble_eq_true hN) ?_)
        split
        · exact .hs (if_pos rfl) (fun hc => by omega)
        · refine .hs (if_pos rfl) (fun hc => ?_)
          rw [ha (by omega)]; show Addr.add _ _ = _; rw [addr_add, Nat.add_mul]⟩
theorem opTo_hcutL {p : Int} {k1 : IntKind} {v : List α} (hN : Nat.ble (k + 1) E.N = true) (hx : fr.ev x = .hs r 0) (hr : σ.get r = some (.row e mu size (l.map F))) (hy : fr.ev y = .pv (.b (.int k1 p)))
    (ht : TyOk E.P t ss sb sz (.slice e)) (he : TyOk E.P e size bytes zero d) (hv : cut l p l.length = some v) :
    OpTo E ⟨some k, .slice t x (some y) none none, ty, pos, af, gu⟩ fr σ ((k, .hs r 0) :: fr.clr r) ((σ.clr r).upd r (.row e mu size (v.map F))) := opTo_hcut_ hN hx hr (.inr ⟨y, k1, rfl, hy⟩) (.inl ⟨rfl, rfl⟩) ht he hv
theorem opTo_hcutH {q : Int} {k1 : IntKind} {v : List α} (hN : Nat.ble (k + 1) E.N = true) (hx : fr.ev x = .hs r 0) (hr : σ.get r = some (.row e true size (l.map F))) (hy : fr.ev y = .pv (.b (.int k1 q)))
    (ht : TyOk E.P t ss sb sz (.slice e)) (he : TyOk E.P e size bytes zero d) (hv : cut l 0 q = some v) :
    OpTo E ⟨some k, .slice t x none (some y) none, ty, pos, af, gu⟩ fr σ ((k, .hs r 0) :: fr.clr r) ((σ.clr r).upd r (.row e true size (v.map F))) := opTo_hcut_ hN hx hr (.inl ⟨rfl, rfl⟩) (.inr ⟨rfl, y, k1, rfl, hy⟩) ht he hv
theorem opTo_hcutLH {p q : Int} {k1 k2 : IntKind} {z : Operand} {v : List α} (hN : Nat.ble (k + 1) E.N = true) (hx : fr.ev x = .hs r 0) (hr : σ.get r = some (.row e true size (l.map F))) (hy : fr.ev y = .pv (.b (.int k1 p))) (hz : fr.ev z = .pv (.b (.int k2 q)))
    (ht : TyOk E.P t ss sb sz (.slice e)) (he : TyOk E.P e size bytes zero d) (hv : cut l p q = some v) :
    OpTo E ⟨some k, .slice t x (some y) (some z) none, ty, pos, af, gu⟩ fr σ ((k, .hs r 0) :: fr.clr r) ((σ.clr r).upd r (.row e true size (v.map F))) := opTo_hcut_ hN hx hr (.inr ⟨y, k1, rfl, hy⟩) (.inr ⟨rfl, z, k2, rfl, hz⟩) ht he hv

/-- a row whose elements are written from now on no more -/
theorem St.unmu {g : G} {a : Act} {els : List (List PV)} (h : St E g a fr σ) (hr : σ.get r = some (.row e true size els)) : St E g a fr (σ.upd r (.row e false size els)) := by
  refine h.objset hr (Ext.refl _ _) rfl rfl rfl rfl (fun _ _ _ => ⟨rfl, rfl⟩) h.so.wf ?_ (fun _ => rfl)
  cases h.so.obj r _ hr with
  | nil h1 => exact .nil h1
  | row h1 h2 h3 h4 h5 h6 h7 h8 h9 => exact .row h1 h2 h3 h4 h5 h6 h7 (fun hc => by cases hc) h9
theorem awpl_unmu {ops : Array Oper} {ol : List Oper} {els : List (List PV)} (r : Nat) (hr : σ.get r = some (.row e true size els)) (h : AWPL E ops ol fr (σ.upd r (.row e false size els)) K) : AWPL E ops ol fr σ K :=
  ⟨fun g a hst => h.go g a (hst.unmu hr)⟩
theorem awp_unmu {c : Code} {els : List (List PV)} (r : Nat) (hr : σ.get r = some (.row e true size els)) (h : AWP E c fr (σ.upd r (.row e false size els)) K) : AWP E c fr σ K :=
  ⟨fun g a hst => h.go g a (hst.unmu hr)⟩

/-- the address of an element -/
theorem ev_hidx {n : Int} {kk : IntKind} {v : α} (hx : ρ x = .hs r 0) (hy : ρ y = .pv (.b (.int kk n))) (hr : σ.get r = some (.row e mu size (l.map F))) (ht : TyOk P t ss sb sz (.slice e)) (he : TyOk P e size bytes zero d) (hv : idx l n = some v) :
    EvQ P ⟨dst, .indexAddr t x y, ty, pos, af, gu⟩ ρ σ (.hp r n.toNat 0) :=
  ⟨fun c => by simp, fun g ρv h hs => by
    obtain ⟨h1, h2⟩ := ops2 (o := ⟨dst, .indexAddr t x y, ty, pos, af, gu⟩) (x := x) (y := y) rfl h
    rw [hx] at h1
    rw [hy] at h2
    have e2 := rel_b h2
    obtain ⟨hn0, hv⟩ := idx_spec hv
    have hlt : n.toNat < l.length := (List.getElem?_eq_some_iff.1 hv).1
    have hn2 : n < l.length := by omega
    obtain ⟨i, hi, hsz, hby, hzero⟩ := he.info
    obtain ⟨old, ho1, ev, ho3⟩ := (hs r _ hr).old h1
    obtain ⟨a0, old⟩ := old
    cases old with
    | none => rw [ho3.2] at hlt; simp at hlt
    | some o =>
      obtain ⟨b, off, cap, cur⟩ := o
      obtain ⟨ad, rfl, ha⟩ := ho1.2.2.2.2
      have ha := ha (by have := ho1.2.2.1; omega)
      subst ha
      refine ⟨.pointer (some ⟨b, (off + n.toNat) * size + 0, none⟩), ?_, .hp ho3.1 hlt⟩
      simp [execOp, Instr.indexAt, e2, ev, oldV, go_sem, asIntOf, underlying, ht.u, sizeOf, typeInfo, hi, hsz, hn0, hn2, addr_add, Nat.add_mul]⟩
theorem ev_fieldAddr_hp {i j f : Nat} {fs : Array Field} {fl : Field} {fsize fbytes : Nat} {fzero : Value} {fd : TypeDesc} (hx : ρ x = .hp r i j) (ht : P.underlying t = some (.struct fs)) (hf : fs[f]? = some fl) (hft : TyOk P fl.type fsize fbytes fzero fd) (hz : Nat.beq fsize 0 = false) :
    EvQ P ⟨dst, .fieldAddr t x f, ty, pos, af, gu⟩ ρ σ (.hp r i (j + fl.offset)) :=
  ⟨fun c => by simp, fun g ρv h _ => by
    have h1 := h x (by simp [Op.operands])
    rw [hx] at h1
    generalize hv : ρv x = v at h1
    cases h1 with
    | @hp _ _ _ b off cap size n hl hi =>
      have hz' : fsize ≠ 0 := by rintro rfl; simp at hz
      refine ⟨_, ?_, .hp (j := j + fl.offset) hl hi⟩
      simp [execOp, Instr.fieldAt, Instr.sureAddr, hv, go_sem, underlying, ht, hf, fieldPlace, hft.sizeOf, hz', addr_add, Nat.add_assoc]⟩
/-- where an element lies -/
theorem hp_cells {g : G} {i j : Nat} {v : α} {vp : Value} (hob : RelO g r (.row e mu size (l.map F))) (hv : l[i]? = some v) (hp : Rel g (.hp r i j) vp) :
    ∃ b off cap vs, vp = .pointer (some ⟨b, (off + i) * size + j, none⟩) ∧ g.loc r = .row b off cap size l.length ∧ g.w.heap[b]? = some (.cells vs e (0, 0)) ∧ vs.size = (off + cap) * size ∧ cap ≤ maxLen ∧ l.length ≤ cap ∧ (F v).length = size ∧ (mu = true → g.u b = 0) ∧
      g.u b ≤ (off + l.length) * size ∧ (∀ x ∈ l, (F x).length = size) ∧ ∀ i j x c, l[i]? = some x → (F x)[j]? = some c → RelP g.w g.u c (vs.getD ((off + i) * size + j) undef) := by
  generalize hls : l.map F = ls at hob
  have hlt : i < l.length := (List.getElem?_eq_some_iff.1 hv).1
  cases hob with
  | nil hl =>
    obtain rfl : l = [] := by simpa using hls
    simp at hlt
  | @row _ _ _ _ b off cap vs h1 h2 h3 h3' h4 h5 h6 h7 h9 =>
    subst hls
    simp only [List.length_map] at h1 h4 h6
    cases hp with
    | @hp _ _ _ b' off' cap' size' n' hl hi =>
      rw [h1] at hl
      cases hl
      exact ⟨b, off, cap, vs, rfl, h1, h2, h3, h3', h4, h5 _ (List.mem_map_of_mem (List.mem_of_getElem? hv)), h7, h6, fun x hx => h5 _ (List.mem_map_of_mem hx), fun i j x c hi hj => h9 i j (F x) c (by simp [hi]) hj⟩
theorem hp_lt {off i cap n size j s : Nat} (h1 : i < n) (h2 : n ≤ cap) (h3 : j + s ≤ size) : (off + i) * size + j + s ≤ (off + cap) * size := by
  have : (off + i + 1) * size ≤ (off + cap) * size := Nat.mul_le_mul_right _ (by omega)
  rw [Nat.add_mul (off + i)] at this; omega
section
variable {t' : TypeId} {size' bytes' : Nat} {zero' : Value} {d' : TypeDesc} {n : Int} {j : Nat} {v v' : α} {c : PV}
theorem ev_hload (hx : ρ x = .hp r n.toNat j) (hr : σ.get r = some (.row e mu size (l.map F))) (ht : TyOk P t' size' bytes' zero' d') (hd : dAgg d' = false) (hv : idx l n = some v) (hc : (F v)[j]? = some c) : EvQ P ⟨dst, .load t' x, ty, pos, af, gu⟩ ρ σ (.pv c) :=
  ⟨fun c => by simp, fun g ρv h hs => by
    have h1 := h x (by simp [Op.operands])
    rw [hx] at h1
    obtain ⟨hn0, hv⟩ := idx_spec hv
    obtain ⟨b, off, cap, vs, e1, e2, e3, e4, e5, e6, e7, e8, e9, e10, e11⟩ := hp_cells (hs r _ hr) hv h1
    have hj : j < size := by rw [← e7]; exact (List.getElem?_eq_some_iff.1 hc).1
    have hlt := (List.getElem?_eq_some_iff.1 hv).1
    refine ⟨_, run_load_op e1 (run_loadVar1 ht hd (cell_of_heap e3 ?_)), .pv (e11 _ _ _ _ hv hc)⟩
    rw [e4]
    exact hp_lt (s := 1) hlt e6 hj⟩
theorem ev_hloadN (hx : ρ x = .hp r n.toNat j) (hr : σ.get r = some (.row e mu size (l.map F))) (ht : TyOk P t' size' bytes' zero' d') (hd : dAgg d' = true) (hv : idx l n = some v) (hle : Nat.ble (j + size') (F v).length = true) : EvQ P ⟨dst, .load t' x, ty, pos, af, gu⟩ ρ σ (.agg ((((F v).drop j).take size').map .pv)) :=
  ⟨fun c => by simp, fun g ρv h hs => by
    have h1 := h x (by simp [Op.operands])
    rw [hx] at h1
    obtain ⟨hn0, hv⟩ := idx_spec hv
    have hle := Nat.le_of_ble_eq_true hle
    obtain ⟨b, off, cap, vs, e1, e2, e3, e4, e5, e6, e7, e8, e9, e10, e11⟩ := hp_cells (hs r _ hr) hv h1
    have hlt := (List.getElem?_eq_some_iff.1 hv).1
    have hrel : ∀ q, q < size' → ∃ c, (F v)[j + q]? = some c ∧ RelP g.w g.u c (vs.getD ((off + n.toNat) * size + (j + q)) undef) := by
      intro q hq
      have h2 : j + q < (F v).length := by omega
      exact ⟨_, List.getElem?_eq_getElem h2, e11 _ _ _ _ hv (List.getElem?_eq_getElem h2)⟩
    refine ⟨_, run_load_op e1 (run_loadVarN ht hd (f := fun q => vs.getD ((off + n.toNat) * size + (j + q)) undef) fun q hq => ?_), .agg (by simp; omega) (fun q hq => ?_) (fun q c hq => ?_)⟩
    · rw [Nat.add_assoc]
      refine cell_of_heap e3 ?_
      rw [e4]
      have := hp_lt (off := off) (s := 1) (j := j + q) (size := size) hlt e6 (by omega)
      omega
    · simp only [List.size_toArray, List.length_map, List.length_range] at hq
      rw [rangeGetD _ _ _ hq]
      obtain ⟨c, _, hr⟩ := hrel q hq
      exact hr.cellV
    · simp only [List.getElem?_map, Option.map_eq_some_iff] at hq
      obtain ⟨c', hc', rfl⟩ := hq
      have hq2 : q < size' := by have := (List.getElem?_eq_some_iff.1 hc').1; simp at this; omega
      rw [List.getElem?_take_of_lt hq2, List.getElem?_drop] at hc'
      rw [rangeGetD _ _ _ hq2]
      obtain ⟨c, hc, hr⟩ := hrel q hq2
      rw [hc'] at hc; cases hc
      exact .pv hr⟩
/-- an element, or a part of it, is written -/
theorem opTo_hstore {pcs : List PV} (hx : fr.ev x = .hp r n.toNat j) (hr : σ.get r = some (.row e true size (l.map F))) (hy : (fr.ev y).weak.cells = some (pcs.map .pv)) (ht : TyOk E.P t' size' bytes' zero' d') (hz : Nat.beq pcs.length size' = true)
    (hv : idx l n = some v) (hle : Nat.ble (j + pcs.length) (F v).length = true) (hF' : F v' = (F v).take j ++ pcs ++ (F v).drop (j + pcs.length)) :
    OpTo E ⟨none, .store t' x y, ty, pos, af, gu⟩ fr σ fr (σ.upd r (.row e true size ((l.set n.toNat v').map F))) :=
  ⟨fun g a K Q hst hK => by
    have hle := Nat.le_of_ble_eq_true hle
    have hz := Nat.eq_of_beq_eq_true hz
    refine ⟨fun _ _ => trivial, ?_⟩
    rw [Oper.semAt_plain _ _ _ (fun c => by simp)]
    have h1 := hst.ev x
    rw [hx] at h1
    obtain ⟨hn0, hv⟩ := idx_spec hv
    obtain ⟨b, off, cap, cur, e1, e2, e3, e4, e5, e6, e7, e8, e9, e10, e11⟩ := hp_cells (hst.so.obj r _ hr) hv h1
    obtain ⟨v1, v2, v3⟩ := rel_cells (rel_weak (hst.ev y)) hy
    have hlt := (List.getElem?_eq_some_iff.1 hv).1
    rw [List.length_map] at v1
    have hfit := hp_lt (off := off) (s := pcs.length) (j := j) (size := size) hlt e6 (by omega)
    have hu0 := e8 rfl
    have hone : ∀ u ∈ (a.eval y).cells.toList, u.oneCell' = true := by
      intro u hu
      obtain ⟨i, hi, rfl⟩ := List.getElem_of_mem hu
      have h0 := v2 i (by simpa using hi)
      rw [show (a.eval y).cells.getD i undef = (a.eval y).cells.toList[i] by simp [Array.getD, show i < (a.eval y).cells.size by simpa using hi]] at h0
      cases hcase : (a.eval y).cells.toList[i] <;> rw [hcase] at h0 <;> first | rfl | simp [cellV] at h0
    generalize hP : (off + n.toNat) * size + j = p at e1 hfit
    have hs := run_storeCells_at (P := E.P) b p e (a.eval y).cells.toList 0 cur g.w e3 (by simp; omega) hone
    simp only [Nat.add_zero] at hs
    generalize hcs : (cur.toList.take p ++ (a.eval y).cells.toList ++ cur.toList.drop (p + (a.eval y).cells.toList.length)) = cells at hs
    have hrun : (execOp a.eval ⟨none, .store t' x y, ty, pos, af, gu⟩).run E.P g.w = .ok .skip (g.w.setRow b cells.toArray) := by
      show Sem.run E.P (do Instr.storeAt t' (a.eval x) (a.eval y); pure Next.skip) g.w = _
      rw [e1]
      simp only [Instr.storeAt, Instr.sureAddr, storeVar, Sem.run_bind, Sem.run_pure, Result.andThen_ok, ht.sizeOf]
      rw [if_neg (by rw [v1, hz]; simp)]
      simp only [Sem.run_bind, Sem.run_pure, Result.andThen_ok, hs]
    rw [hrun, Oper.uponIn_skip]
    have hyl : (a.eval y).cells.toList.length = pcs.length := by simpa using v1
    have hclen : cells.length = cur.size := by rw [← hcs]; simp; omega
    have hget : ∀ q, q < cur.size → cells[q]? = if p ≤ q ∧ q < p + pcs.length then (a.eval y).cells.toList[q - p]? else cur.toList[q]? := by
      intro q hq
      rw [← hcs, List.append_assoc]
      rcases Nat.lt_or_ge q p with h2 | h2
      · rw [if_neg (by omega), List.getElem?_append_left (by simp; omega), List.getElem?_take_of_lt h2]
      · rw [List.getElem?_append_right (by simp; omega)]
        simp only [List.length_take, Array.length_toList, show min p cur.size = p by omega]
        rcases Nat.lt_or_ge q (p + pcs.length) with h3 | h3
        · rw [if_pos ⟨h2, h3⟩, List.getElem?_append_left (by omega)]
        · rw [if_neg (by omega), List.getElem?_append_right (by omega), List.getElem?_drop]
          congr 1
          omega
    have hheap : ∀ k, k ≠ b → (g.w.setRow b cells.toArray).heap[k]? = g.w.heap[k]? := fun k hk => by
      simp only [World.setRow, Array.getElem?_modify]; rw [if_neg (Ne.symm hk)]
    have hnewb := setRow_heap g.w b cur cells.toArray e _ e3
    have hsz : (g.w.setRow b cells.toArray).heap.size = g.w.heap.size := by simp [World.setRow]
    have hxx : Ext g.w g.u (g.w.setRow b cells.toArray) g.u := ⟨Nat.le_of_eq hsz.symm, fun _ _ => Nat.le_refl _, fun k i hk hi => by
      by_cases hkb : k = b
      · subst hkb; omega
      · simp only [World.cell?]; rw [hheap k hkb], fun r' hr' => (hheap r' (by rintro rfl; rw [e3] at hr'; cases hr')).trans hr'⟩
    refine hK ⟨g.w.setRow b cells.toArray, g.u, g.loc⟩ _ (St.put_none (hst.objset hr hxx rfl rfl rfl rfl (fun k hk hne => ⟨hheap k (by rintro rfl; exact hne (by rw [e2]; rfl)), rfl⟩) (wf_same hst.so.wf (Nat.le_of_eq hsz.symm) _) ?_ (fun _ => rfl)))
    have hFv' : (F v').length = size := by rw [hF']; simp; omega
    refine .row (off := off) (by rw [List.length_map, List.length_set]; exact e2) hnewb (by simp [hclen, e4]) e5 (by simpa using e6) (fun z hz' => ?_) (by show g.u b ≤ _; rw [hu0]; exact Nat.zero_le _) (fun _ => hu0) (fun i' j' z c hi' hj' => ?_)
    · obtain ⟨w, hw, rfl⟩ := List.mem_map.1 hz'
      rcases List.mem_or_eq_of_mem_set hw with h2 | rfl
      · exact e10 w h2
      · exact hFv'
    · simp only [List.getElem?_map, Option.map_eq_some_iff] at hi'
      obtain ⟨w, hw, rfl⟩ := hi'
      have hil : i' < l.length := by have := (List.getElem?_eq_some_iff.1 hw).1; simpa using this
      have hwF : (F w).length = size := by
        rcases List.mem_or_eq_of_mem_set (List.mem_of_getElem? hw) with h2 | rfl
        · exact e10 w h2
        · exact hFv'
      have hjs : j' < size := by rw [← hwF]; exact (List.getElem?_eq_some_iff.1 hj').1
      have hpos : (off + i') * size + j' < cur.size := by rw [e4]; exact hp_lt (s := 1) hil e6 hjs
      have old : (F w)[j']? = some c → l[i']? = some w → ¬ (p ≤ (off + i') * size + j' ∧ (off + i') * size + j' < p + pcs.length) → RelP (g.w.setRow b cells.toArray) g.u c (cells.toArray.getD ((off + i') * size + j') undef) := by
        intro h2 h3 h4
        have h5 := (e11 i' j' w c h3 h2).mono hxx
        rw [Array.getD_eq_getD_getElem?, List.getElem?_toArray, hget _ hpos, if_neg h4]
        rw [Array.getD_eq_getD_getElem?] at h5
        simpa using h5
      by_cases hin : i' = n.toNat
      · subst hin
        rw [List.getElem?_set_self hlt] at hw
        cases hw
        have hold : ∀ c, (F v)[j']? = some c → ¬ (p ≤ (off + n.toNat) * size + j' ∧ (off + n.toNat) * size + j' < p + pcs.length) → RelP (g.w.setRow b cells.toArray) g.u c (cells.toArray.getD ((off + n.toNat) * size + j') undef) := by
          intro c h2 h4
          have h5 := (e11 n.toNat j' v c hv h2).mono hxx
          rw [Array.getD_eq_getD_getElem?, List.getElem?_toArray, hget _ hpos, if_neg h4]
          rw [Array.getD_eq_getD_getElem?] at h5
          simpa using h5
        rw [hF', List.append_assoc] at hj'
        have hjl : ((F v).take j).length = j := by simp; omega
        rcases Nat.lt_or_ge j' j with h2 | h2
        · rw [List.getElem?_append_left (by omega), List.getElem?_take_of_lt h2] at hj'
          exact hold c hj' (by omega)
        · rw [List.getElem?_append_right (by omega), hjl] at hj'
          rcases Nat.lt_or_ge (j' - j) pcs.length with h3 | h3
          · rw [List.getElem?_append_left h3] at hj'
            have h5 := v3 (j' - j) (.pv c) (by simp [hj'])
            cases h5 with
            | pv h5 =>
              rw [Array.getD_eq_getD_getElem?, List.getElem?_toArray, hget _ hpos, if_pos (by omega), show (off + n.toNat) * size + j' - p = j' - j by omega]
              rw [Array.getD_eq_getD_getElem?] at h5
              have h6 := h5.mono hxx
              simpa using h6
          · rw [List.getElem?_append_right h3, List.getElem?_drop, show j + pcs.length + (j' - j - pcs.length) = j' by omega] at hj'
            exact hold c hj' (by omega)
      · rw [List.getElem?_set_ne (by omega)] at hw
        refine old hj' hw ?_
        rcases Nat.lt_or_ge i' n.toNat with h2 | h2
        · have : (off + i' + 1) * size ≤ (off + n.toNat) * size := Nat.mul_le_mul_right _ (by omega)
          rw [Nat.add_mul (off + i')] at this; omega
        · have : (off + n.toNat + 1) * size ≤ (off + i') * size := Nat.mul_le_mul_right _ (by omega)
          rw [Nat.add_mul (off + n.toNat)] at this; omega⟩
end
end
end Go.Proofs.Ytpclhpncmlbccaa

/- The abstract calculus: maps, nil slices: rules. No program is named. -/
namespace Go.Proofs.Ytpclhpncmlbccaa
open Go.RowKit Go.Lib

/-! ### maps as lists of pairs, in the order in which keys came up -/
section
variable {K V : Type} [BEq K]
def mget : List (K × V) → K → Option V
  | [], _ => none
  | (k, v) :: r, x => if k == x then some v else mget r x
def mput : List (K × V) → K → V → List (K × V)
  | [], x, y => [(x, y)]
  | (k, v) :: r, x, y => if k == x then (x, y) :: r else (k, v) :: mput r x y
def mdel : List (K × V) → K → List (K × V)
  | [], _ => []
  | (k, v) :: r, x => if k == x then r else (k, v) :: mdel r x
def mpos : List (K × V) → K → Option Nat
  | [], _ => none
  | (k, _) :: r, x => if k == x then some 0 else (mpos r x).map (· + 1)
theorem mget_pos (l : List (K × V)) (x : K) : mget l x = (mpos l x).bind fun i => (l[i]?).map (·.2) := by
  induction l with
  | nil => rfl
  | cons p r ih =>
    obtain ⟨k, v⟩ := p
    unfold mget mpos
    split
    · simp
    · rw [ih]; cases mpos r x <;> simp
theorem mput_pos (l : List (K × V)) (x : K) (y : V) : mput l x y = match mpos l x with | some i => l.set i (x, y) | none => l ++ [(x, y)] := by
  induction l with
  | nil => rfl
  | cons p r ih =>
    obtain ⟨k, v⟩ := p
    unfold mput mpos
    split
    · simp
    · rw [ih]; cases mpos r x <;> simp
theorem mpos_lt {l : List (K × V)} {x : K} {i : Nat} (h : mpos l x = some i) : ∃ p, l[i]? = some p ∧ (p.1 == x) = true := by
  induction l generalizing i with
  | nil => cases h
  | cons p r ih =>
    obtain ⟨k, v⟩ := p
    unfold mpos at h
    split at h
    · rename_i hk; cases h; exact ⟨(k, v), rfl, hk⟩
    · obtain ⟨j, hj, rfl⟩ := Option.map_eq_some_iff.1 h
      obtain ⟨p, hp, hx⟩ := ih hj
      exact ⟨p, by simpa using hp, hx⟩
end

/-- where a key stands -/
def posK {K : Type} [BEq K] : List K → K → Option Nat
  | [], _ => none
  | k :: r, x => if k == x then some 0 else (posK r x).map (· + 1)
theorem mpos_posK {K V : Type} [BEq K] (l : List (K × V)) (x : K) : mpos l x = posK (l.map (·.1)) x := by
  induction l with
  | nil => rfl
  | cons p r ih =>
    obtain ⟨k, v⟩ := p
    simp only [List.map_cons, posK, mpos, ih]
/-- kinds of keys -/
structure KeyK (K : Type) [BEq K] [LawfulBEq K] where
  kf : K → Value
  ok : Program → TypeId → Prop
  find : ∀ {P : Program} {kt : TypeId}, ok P kt → ∀ (w : World) (x : K) (ks : List K) (ents : List MapEntry), ents.map (·.key) = ks.map kf → (Instr.findKey kt (kf x) ents).run P w = .ok ((posK ks x).bind fun j => (ents[j]?).map fun e => (j, e.val)) w
  check : ∀ {P : Program} {kt : TypeId}, ok P kt → ∀ (w : World) (x : K) (b : Bool), (Instr.checkKey b 10000 kt (kf x)).run P w = .ok () w
  stay : ∀ {P : Program} (w : World) (x : K), (Instr.keyThatStays (kf x) (kf x)).run P w = .ok (kf x) w
theorem findNow_posK {K : Type} [BEq K] [LawfulBEq K] {kd : TypeDesc} {kf : K → Value} (same : ∀ a b : K, Instr.sameNow kd (kf a) (kf b) = some (a == b)) {k : K} : ∀ (ks : List K) {ents : List MapEntry} (i : Nat), ents.map (·.key) = ks.map kf →
    Instr.findNow kd (kf k) ents i = some ((posK ks k).bind fun j => (ents[j]?).map fun x => (i + j, x.val))
  | [], ents, i, h => by
    have : ents = [] := by simpa using h
    subst this; rfl
  | k' :: r, ents, i, h => by
    match ents, h with
    | x :: xs, h =>
      simp only [List.map_cons, List.cons.injEq] at h
      unfold Instr.findNow posK
      rw [h.1, same]
      by_cases hkk : k' = k
      · subst hkk
        simp
      · have e1 : (k == k') = false := by simpa using fun h : k = k' => hkk h.symm
        have e2 : (k' == k) = false := by simpa using hkk
        rw [e1, e2]
        simp only [Bool.false_eq_true, if_false]
        rw [findNow_posK same r (i + 1) h.2]
        cases posK r k <;> simp [Nat.add_assoc, Nat.add_comm 1]
def keyS : KeyK Str where
  kf s := .string (strB s)
  ok P kt := P.underlying kt = some .string
  find {P kt} h w x ks ents hk := by
    have h1 := findNow_posK (kd := .string) (kf := fun s : Str => .string (strB s)) (fun a b => by
      simp only [Instr.sameNow, Option.some.injEq]
      rw [Bool.eq_iff_iff, MapKept.bytes_beq]
      simp only [beq_iff_eq]
      constructor
      · intro h
        have := congrArg ByteArray.toList h
        rwa [strB_list, strB_list] at this
      · rintro rfl; rfl) (k := x) ks 0 hk
    refine (MapKept.run_findKey h h1).trans ?_
    cases posK ks x <;> simp
  check h w x b := MapKept.run_checkKey h (k := .string (strB x)) trivial b 9999
  stay w x := MapKept.run_keyThatStays (d := .string) (k := .string (strB x)) trivial
def keyI : KeyK Int where
  kf n := .int .i64 n
  ok P kt := P.underlying kt = some (.int .i64)
  find {P kt} h w x ks ents hk := by
    have h1 := findNow_posK (kd := .int .i64) (kf := fun n : Int => .int .i64 n) (fun a b => by simp [Instr.sameNow]) (k := x) ks 0 hk
    refine (MapKept.run_findKey h h1).trans ?_
    cases posK ks x <;> simp
  check h w x b := MapKept.run_checkKey h (k := .int .i64 x) rfl b 9999
  stay w x := MapKept.run_keyThatStays (d := .int .i64) (k := .int .i64 x) rfl
/-- a structure of a number and a string, as a key -/
def isV (k : Int × Str) : Value := .agg #[.int .i64 k.1, .string (strB k.2)]
structure KeyIS (P : Program) (kt : TypeId) : Prop where
  fs : ∃ f1 f2 : Field, P.underlying kt = some (.struct #[f1, f2]) ∧ f1.name ≠ "_" ∧ f2.name ≠ "_" ∧ f1.offset = 0 ∧ f2.offset = 1 ∧ (∃ s1 b1 z1, TyOk P f1.type s1 b1 z1 (.int .i64)) ∧ ∃ s2 b2 z2, TyOk P f2.type s2 b2 z2 .string
  cmp : CmpOk P kt
theorem rel_isV (g : G) (k : Int × Str) : Rel g (.agg [.i k.1, .s k.2]) (isV k) :=
  .agg rfl (fun i hi => by
    match i, hi with
    | 0, _ => rfl
    | 1, _ => rfl
    | i + 2, hi => simp at hi; omega) (fun i c hi => by
    match i, hi with
    | 0, hi => cases hi; exact .pv (.b rfl)
    | 1, hi => cases hi; exact .pv (.b rfl)
    | i + 2, hi => simp at hi)
theorem run_equal_isV {P : Program} {kt : TypeId} (h : KeyIS P kt) (a b : Int × Str) (w : World) : (Op.equal kt (isV a) (isV b)).run P w = .ok (a == b) w := by
  obtain ⟨f1, f2, h1, h2, h3, h4, h5, ⟨s1, b1, z1, h6⟩, s2, b2, z2, h7⟩ := h.fs
  have := (run_equal_struct (g := ⟨w, fun _ => 0, fun _ => .none⟩) (l := [f1, f2]) (rel_isV _ a) (rel_isV _ b) h1 h.cmp (.int h4 h2 h6 (.str h5 h3 h7 .nil)) w).1
  rw [this]
  congr 1
  obtain ⟨a1, a2⟩ := a
  obtain ⟨b1, b2⟩ := b
  rw [Bool.eq_iff_iff]
  simp [allEq]
theorem findAsking_isV {P : Program} {kt : TypeId} (h : KeyIS P kt) {k : Int × Str} {w : World} : ∀ (ks : List (Int × Str)) {ents : List MapEntry} (i : Nat), ents.map (·.key) = ks.map isV →
    (Instr.findAsking kt (isV k) ents i).run P w = .ok ((posK ks k).bind fun j => (ents[j]?).map fun x => (i + j, x.val)) w
  | [], ents, i, h => by
    have : ents = [] := by simpa using h
    subst this; rfl
  | k' :: r, ents, i, hk => by
    match ents, hk with
    | x :: xs, hk =>
      simp only [List.map_cons, List.cons.injEq] at hk
      unfold Instr.findAsking posK
      rw [hk.1, Sem.run_bind, run_equal_isV h]
      simp only [Result.andThen_ok]
      by_cases hkk : k' = k
      · subst hkk
        simp [Sem.run_pure]
      · have e1 : (k == k') = false := by simpa using fun h : k = k' => hkk h.symm
        have e2 : (k' == k) = false := by simpa using hkk
        rw [e1, e2]
        simp only [Bool.false_eq_true, if_false]
        rw [findAsking_isV h r (i + 1) hk.2]
        cases posK r k <;> simp [Nat.add_assoc, Nat.add_comm 1]
def keyIS : KeyK (Int × Str) where
  kf := isV
  ok P kt := KeyIS P kt
  find {P kt} h w x ks ents hk := by
    obtain ⟨f1, f2, h1, _⟩ := h.fs
    unfold Instr.findKey
    rw [Sem.run_bind, run_underlying h1]
    simp only [Result.andThen_ok]
    cases ents with
    | nil =>
      have : ks = [] := by simpa using hk.symm
      subst this
      rfl
    | cons e es =>
      have : Instr.findNow (.struct #[f1, f2]) (isV x) (e :: es) 0 = none := rfl
      rw [this]
      refine (findAsking_isV h ks 0 hk).trans ?_
      cases posK ks x <;> simp
  check {P kt} h w x b := by
    obtain ⟨f1, f2, h1, h2, h3, h4, h5, ⟨s1, b1, z1, h6⟩, s2, b2, z2, h7⟩ := h.fs
    have p1 : (part f1.type #[.int .i64 x.1, .string (strB x.2)] f1.offset).run P w = .ok (.int .i64 x.1) w := by rw [h4]; exact part_one h6 rfl (by simp)
    have p2 : (part f2.type #[.int .i64 x.1, .string (strB x.2)] f2.offset).run P w = .ok (.string (strB x.2)) w := by rw [h5]; exact part_one h7 rfl (by simp)
    have c1 := MapKept.run_checkKey (P := P) (w := w) h6.u (k := .int .i64 x.1) rfl b 9998
    have c2 := MapKept.run_checkKey (P := P) (w := w) h7.u (k := .string (strB x.2)) trivial b 9998
    show (Instr.checkKey b (9999 + 1) kt (isV x)).run P w = .ok () w
    unfold Instr.checkKey
    rw [Sem.run_bind, run_underlying h1]
    simp only [Result.andThen_ok, isV]
    simp [h2, h3, p1, p2, c1, c2, Sem.run_bind, Result.andThen]
  stay w x := by
    have hb : (strB x.2 == strB x.2) = true := by rw [MapKept.bytes_beq]
    have : Instr.sameBits 10000 (isV x) (isV x) = true := by simp [isV, Instr.sameBits, hb]
    simp [Instr.keyThatStays, this]
/-- a key, seen in a value -/
def keysOf : List AV → Option (List Value)
  | [] => some []
  | .pv (.b v) :: r => (keysOf r).map (v :: ·)
  | _ => none
def keyOf : AV → Option Value
  | .pv (.b v) => some v
  | .agg cs => (keysOf cs).map fun l => .agg l.toArray
  | _ => none
theorem rel_keysOf {g : G} : ∀ {cs : List AV} {l : List Value} {vs : List Value}, keysOf cs = some l → vs.length = cs.length → (∀ (i : Nat) (c : AV), cs[i]? = some c → ∃ v : Value, vs[i]? = some v ∧ Rel g c v) → vs = l
  | [], l, vs, h, hl, _ => by
    simp only [keysOf, Option.some.injEq] at h
    subst h
    exact List.eq_nil_of_length_eq_zero hl
  | c :: cs, l, vs, h, hl, hr => by
    match vs, hl with
    | v :: vs, hl =>
      unfold keysOf at h
      split at h
      · rename_i heq; cases heq
      · rename_i v0 r0 heq
        cases heq
        obtain ⟨l', h1, rfl⟩ := Option.map_eq_some_iff.1 h
        obtain ⟨v1, q1, q2⟩ := hr 0 _ rfl
        cases q1
        rw [rel_b q2, rel_keysOf h1 (by simpa using hl) (fun i c hi => hr (i + 1) c hi)]
      · cases h
theorem rel_key {g : G} {c : AV} {v x : Value} (h : Rel g c v) (hk : keyOf c = some x) : v = x := by
  unfold keyOf at hk
  split at hk
  · cases hk; exact rel_b h
  · rename_i cs
    obtain ⟨l, h1, rfl⟩ := Option.map_eq_some_iff.1 hk
    cases h with
    | @agg _ vs hl hc hr =>
      have := rel_keysOf (vs := vs.toList) h1 (by simpa using hl) (fun i c hi => by
        have hlt : i < vs.size := by rw [hl]; exact (List.getElem?_eq_some_iff.1 hi).1
        refine ⟨vs[i], by simp [hlt], ?_⟩
        have := hr i c hi
        simpa [Array.getD, hlt] using this)
      rw [← this]
  · cases hk

/-- a value of a map -/
def mvA : Bool → List PV → AV
  | true, cs => .agg (cs.map .pv)
  | false, p :: _ => .pv p
  | false, [] => .any
theorem rel_mvA {g : G} {ag : Bool} {cs : List PV} {v : Value} (h : RelMV g.w g.u ag cs v) : Rel g (mvA ag cs) v := by
  cases ag with
  | true =>
    obtain ⟨vs, rfl, h1, h2⟩ := h
    refine .agg (by simpa using h1) (fun i hi => ?_) (fun i c hi => ?_)
    · have : i < cs.length := by omega
      exact (h2 i _ (List.getElem?_eq_getElem this)).cellV
    · simp only [List.getElem?_map, Option.map_eq_some_iff] at hi
      obtain ⟨c', hc, rfl⟩ := hi
      exact .pv (h2 i c' hc)
  | false =>
    obtain ⟨p, rfl, h1⟩ := h
    exact .pv h1
theorem relMV_of {g : G} {ag : Bool} {cs : List PV} {v : Value} (hne : ag = false → cs.length = 1) (h : Rel g (mvA ag cs) v) : RelMV g.w g.u ag cs v := by
  cases ag with
  | true =>
    cases h with
    | agg h1 h2 h3 =>
      refine ⟨_, rfl, by simpa using h1, fun i c hi => ?_⟩
      have := h3 i (.pv c) (by simp [hi])
      cases this with
      | pv h => exact h
  | false =>
    match cs, hne rfl with
    | [p], _ =>
      cases h with
      | pv h => exact ⟨p, rfl, h⟩
def constPV : Value → PV
  | .slice none 0 0 => .sl none []
  | v => .b v
def zeroMV : Bool → Value → Option (List PV)
  | true, .agg vs => if vs.toList.all (fun v => cellV v) then some (vs.toList.map constPV) else none
  | false, v => if cellV v then some [constPV v] else none
  | _, _ => none
theorem relP_constPV (w : World) (u : Nat → Nat) (v : Value) (h : cellV v = true) : RelP w u (constPV v) v := by
  unfold constPV
  split
  · exact relP_weak (relP_nil w u)
  · exact .b h
theorem relMV_zero {w : World} {u : Nat → Nat} {ag : Bool} {z : Value} {cs : List PV} (h : zeroMV ag z = some cs) : RelMV w u ag cs z := by
  unfold zeroMV at h
  split at h
  · rename_i vs
    split at h
    · rename_i ha
      cases h
      rw [List.all_eq_true] at ha
      refine ⟨_, rfl, by simp, fun i c hi => ?_⟩
      simp only [List.getElem?_map, Option.map_eq_some_iff] at hi
      obtain ⟨v, hv, rfl⟩ := hi
      have : vs.getD i undef = v := by
        rw [Array.getD_eq_getD_getElem?]; simp at hv; simp [hv]
      rw [this]
      exact relP_constPV w u v (ha v (List.mem_of_getElem? hv))
    · cases h
  · split at h
    · rename_i hv
      cases h
      exact ⟨_, rfl, relP_constPV w u _ hv⟩
    · cases h
  · cases h

section
variable {K V : Type} [BEq K] [LawfulBEq K] {KK : KeyK K} {F : V → List PV} {ag : Bool}
abbrev menc (KK : KeyK K) (F : V → List PV) (es : List (K × V)) : List (Value × List PV) := es.map fun p => (KK.kf p.1, F p.2)
theorem run_findKey {P : Program} {kt : TypeId} {w : World} {es : List (K × V)} {k : K} {ents : Array MapEntry} (hkt : KK.ok P kt) (hl : ents.size = es.length) (hk : ∀ (j : Nat) p x, es[j]? = some p → ents[j]? = some x → x.key = KK.kf p.1) :
    (Instr.findKey kt (KK.kf k) ents.toList).run P w = .ok ((mpos es k).bind fun j => (ents[j]?).map fun x => (j, x.val)) w := by
  have h := KK.find hkt w k (es.map (·.1)) ents.toList (by
    refine List.ext_getElem? fun j => ?_
    simp only [List.getElem?_map, Array.getElem?_toList]
    cases hp : es[j]? with
    | none =>
      have : ents[j]? = none := by rw [Array.getElem?_eq_none_iff, hl]; exact List.getElem?_eq_none_iff.1 hp
      rw [this]; rfl
    | some p =>
      have hlt : j < ents.size := by rw [hl]; exact (List.getElem?_eq_some_iff.1 hp).1
      rw [Array.getElem?_eq_getElem hlt]
      have := hk j p _ hp (Array.getElem?_eq_getElem hlt)
      simp [this])
  rw [h, mpos_posK]
  simp

variable {E : Env} {fr : Fr} {σ : Sto} {P : Program} {ρ : Operand → AV} {t kt e : TypeId} {m x y : Operand} {o size bytes ss sb k' : Nat} {zero sz : Value} {d : TypeDesc} {es : List (K × V)} {k : K} {z v : V}
variable {dst : Option Tmp} {ty : TypeId} {pos : String} {af : Array Edge} {gu : Option (Nat × Bool)}
theorem RelO.map_inv {g : G} (h : RelO g o (.mapo ag (menc KK F es))) : ∃ b clock ents, g.loc o = .map b ∧ g.w.heap[b]? = some (.map ents clock) ∧ g.u b = 0 ∧ ents.size = es.length ∧ (∀ (j : Nat) p x, es[j]? = some p → ents[j]? = some x → x.key = KK.kf p.1) ∧ ∀ (j : Nat) p x, es[j]? = some p → ents[j]? = some x → RelMV g.w g.u ag (F p.2) x.val := by
  generalize hes : menc KK F es = ms at h
  cases h with
  | @mapo _ _ b clock ents h1 h2 h3 h4 h5 =>
    subst hes
    have key : ∀ (j : Nat) p x, es[j]? = some p → ents[j]? = some x → x.key = KK.kf p.1 ∧ RelMV g.w g.u ag (F p.2) x.val := by
      intro j p x hp hx
      obtain ⟨x', e1, e2, e3⟩ := h5 j (KK.kf p.1) (F p.2) (by simp [menc, hp])
      rw [hx] at e1; cases e1
      exact ⟨e2, e3⟩
    exact ⟨b, clock, ents, h1, h2, h3, by simpa [menc] using h4, fun j p x hp hx => (key j p x hp hx).1, fun j p x hp hx => (key j p x hp hx).2⟩
/-- looking a key up -/
theorem run_lookup {g : G} (ok : Bool) (h : RelO g o (.mapo ag (menc KK F es))) {vm : Value} (hm : Rel g (.mp o) vm) (ht : P.underlying t = some (.map kt e)) (hkt : KK.ok P kt) (he : TyOk P e size bytes zero d) (hz : zeroMV ag zero = some (F z)) :
    ∃ v, (Instr.lookup t vm (KK.kf k) ok).run P g.w = .ok (if ok then .tuple #[v, .bool (mget es k).isSome] else v) g.w ∧ RelMV g.w g.u ag (F ((mget es k).getD z)) v := by
  obtain ⟨b, clock, ents, h1, h2, h3, h4, h5, h6⟩ := h.map_inv
  cases hm with
  | mp hl =>
    rw [h1] at hl; cases hl
    have hf := run_findKey (P := P) (w := g.w) (k := k) hkt h4 h5
    have hc := KK.check (P := P) hkt g.w k ents.isEmpty
    rw [mget_pos]
    cases hp : mpos es k with
    | none =>
      rw [hp] at hf
      refine ⟨zero, ?_, relMV_zero (by simpa using hz)⟩
      simp only [Option.bind_none] at hf
      simp [Instr.lookup, run_underlying ht, MapKept.run_getObj_map h2, hc, hf, he.zeroValue, Result.andThen]
    | some i =>
      obtain ⟨p, hp1, hp2⟩ := mpos_lt hp
      have hi : i < ents.size := by rw [h4]; exact (List.getElem?_eq_some_iff.1 hp1).1
      rw [hp] at hf
      refine ⟨ents[i].val, ?_, ?_⟩
      · simp only [Option.bind_some, Array.getElem?_eq_getElem hi, Option.map_some] at hf
        simp [Instr.lookup, run_underlying ht, MapKept.run_getObj_map h2, hc, hf, hp1, Result.andThen]
      · simp only [Option.bind_some, hp1, Option.map_some, Option.getD_some]
        exact h6 i p _ hp1 (Array.getElem?_eq_getElem hi)
theorem ev_lookup (hm : ρ m = .mp o) (ho : σ.get o = some (.mapo ag (menc KK F es))) (hx : keyOf (ρ x) = some (KK.kf k)) (ht : P.underlying t = some (.map kt e)) (hkt : KK.ok P kt) (he : TyOk P e size bytes zero d) (hz : zeroMV ag zero = some (F z)) :
    EvQ P ⟨dst, .lookup t m x false, ty, pos, af, gu⟩ ρ σ (mvA ag (F ((mget es k).getD z))) :=
  ⟨fun c => by simp, fun g ρv h hs => by
    obtain ⟨h1, h2⟩ := ops2 (o := ⟨dst, .lookup t m x false, ty, pos, af, gu⟩) (x := m) (y := x) rfl h
    rw [hm] at h1
    have e2 := rel_key h2 hx
    obtain ⟨v, hr, hv⟩ := run_lookup (k := k) (z := z) false (hs o _ ho) h1 ht hkt he hz
    refine ⟨v, ?_, rel_mvA hv⟩
    show Sem.run P (do let v ← Instr.lookup t (ρv m) (ρv x) false; pure (Next.value v)) g.w = _
    rw [e2, Sem.run_bind, hr]; rfl⟩
theorem ev_lookupOk (hm : ρ m = .mp o) (ho : σ.get o = some (.mapo ag (menc KK F es))) (hx : keyOf (ρ x) = some (KK.kf k)) (ht : P.underlying t = some (.map kt e)) (hkt : KK.ok P kt) (he : TyOk P e size bytes zero d) (hz : zeroMV ag zero = some (F z)) :
    EvQ P ⟨dst, .lookup t m x true, ty, pos, af, gu⟩ ρ σ (.tup [mvA ag (F ((mget es k).getD z)), .bo (mget es k).isSome]) :=
  ⟨fun c => by simp, fun g ρv h hs => by
    obtain ⟨h1, h2⟩ := ops2 (o := ⟨dst, .lookup t m x true, ty, pos, af, gu⟩) (x := m) (y := x) rfl h
    rw [hm] at h1
    have e2 := rel_key h2 hx
    obtain ⟨v, hr, hv⟩ := run_lookup (k := k) (z := z) true (hs o _ ho) h1 ht hkt he hz
    refine ⟨.tuple #[v, .bool (mget es k).isSome], ?_, .tup rfl fun i c hi => ?_⟩
    · show Sem.run P (do let v ← Instr.lookup t (ρv m) (ρv x) true; pure (Next.value v)) g.w = _
      rw [e2, Sem.run_bind, hr]; rfl
    · match i, hi with
      | 0, rfl => exact rel_mvA hv
      | 1, rfl => exact .pv (.b rfl)⟩
/-- a new map -/
theorem opTo_makeMap {k0 : Nat} (id : Nat) (ag : Bool) (hN : Nat.ble (k0 + 1) E.N = true) (hf : fr.has id = false) (hs : σ.has id = false) :
    OpTo E ⟨some k0, .makeMap t none, ty, pos, af, gu⟩ fr σ ((k0, .mp id) :: fr) ((id, .mapo ag []) :: σ) :=
  ⟨fun g a K Q hst hK => by
    refine ⟨fun _ _ => trivial, ?_⟩
    rw [Oper.semAt_plain _ _ _ (fun c => by simp)]
    have hr : (execOp a.eval ⟨some k0, .makeMap t none, ty, pos, af, gu⟩).run E.P g.w = .ok (.value (.map (some g.w.heap.size))) (g.w.alloc (.map #[] 0)) := rfl
    rw [hr, Oper.uponIn_value]
    have hx : Ext g.w g.u (g.w.alloc (.map #[] 0)) g.u := ⟨by simp, fun _ _ => Nat.le_refl _, fun k i hk _ => by
      simp only [World.cell?]
      rw [(MapKept.heap_alloc g.w _).2 k hk], fun r' hr' => ((MapKept.heap_alloc g.w _).2 r' (blk_lt hr')).trans hr'⟩
    have hu0 : g.u g.w.heap.size = 0 := hst.so.wf _ (Nat.le_refl _)
    have hst' := hst.addObj (g' := ⟨g.w.alloc (.map #[] 0), g.u, fun q => if q = id then .map g.w.heap.size else g.loc q⟩) id (ob := .mapo ag []) hf hs
      ⟨rfl, rfl, rfl, hx, fun k hk _ => ⟨(MapKept.heap_alloc g.w _).2 k hk, rfl⟩⟩ (wf_same hst.so.wf hx.size _) (fun q hq => if_neg hq)
      (.mapo (if_pos rfl) (MapKept.heap_alloc g.w _).1 hu0 rfl (fun i k c hi => by simp at hi)) (fun b hb => by
        simp only [AO.own, if_true, Loc.block] at hb
        cases hb; exact Nat.le_refl _)
    exact hK _ _ (hst'.put (Nat.le_of_ble_eq_true hN) (.mp (if_pos rfl)))⟩
/-- an entry is written -/
theorem opTo_mapUpdate (hm : fr.ev m = .mp o) (ho : σ.get o = some (.mapo ag (menc KK F es))) (hx : keyOf (fr.ev x) = some (KK.kf k)) (hy : (fr.ev y).weak = mvA ag (F v)) (hne : ag || Nat.beq (F v).length 1) (ht : E.P.underlying t = some (.map kt e)) (hkt : KK.ok E.P kt) :
    OpTo E ⟨none, .mapUpdate t m x y, ty, pos, af, gu⟩ fr σ fr (σ.upd o (.mapo ag (menc KK F (mput es k v)))) :=
  ⟨fun g a K Q hst hK => by
    refine ⟨fun _ _ => trivial, ?_⟩
    rw [Oper.semAt_plain _ _ _ (fun c => by simp)]
    have h1 := hst.ev m
    have h2 := hst.ev x
    have h3 := rel_weak (hst.ev y)
    rw [hm] at h1
    rw [hy] at h3
    have e2 := rel_key h2 hx
    have h3 := relMV_of (fun hag => by rw [hag] at hne; exact Nat.eq_of_beq_eq_true hne) h3
    obtain ⟨b, clock, ents, i1, i2, i3, i4, i5, i6⟩ := (hst.so.obj o _ ho).map_inv
    generalize hvm : a.eval m = vm at h1
    cases h1 with
    | mp hl =>
      rw [i1] at hl; cases hl
      have hf := run_findKey (P := E.P) (w := g.w) (k := k) hkt i4 i5
      have hc := KK.check (P := E.P) hkt g.w k false
      have hgo : ∀ ents' clock', ents'.size = (mput es k v).length → (∀ (j : Nat) p x, (mput es k v)[j]? = some p → ents'[j]? = some x → x.key = KK.kf p.1 ∧ RelMV g.w g.u ag (F p.2) x.val) →
          (execOp a.eval ⟨none, .mapUpdate t m x y, ty, pos, af, gu⟩).run E.P g.w = .ok .skip { g.w with heap := g.w.heap.setIfInBounds b (.map ents' clock') } → 
          Oper.uponIn (fen E.rd) 0 E.P ⟨none, .mapUpdate t m x y, ty, pos, af, gu⟩ a K Q ((execOp a.eval ⟨none, .mapUpdate t m x y, ty, pos, af, gu⟩).run E.P g.w) := by
        intro ents' clock' hsz hrel hrun
        rw [hrun, Oper.uponIn_skip]
        have hset := MapKept.heap_set (o' := .map ents' clock') i2
        have hsize : (g.w.heap.setIfInBounds b (.map ents' clock')).size = g.w.heap.size := by simp
        have hxx : Ext g.w g.u { g.w with heap := g.w.heap.setIfInBounds b (.map ents' clock') } g.u := ⟨Nat.le_of_eq hsize.symm, fun _ _ => Nat.le_refl _, fun q i hq hi => by
          by_cases hqb : q = b
          · subst hqb; omega
          · simp only [World.cell?]; rw [hset.2 q hqb], fun r' hr' => (hset.2 r' (by rintro rfl; rw [i2] at hr'; cases hr')).trans hr'⟩
        refine hK ⟨{ g.w with heap := g.w.heap.setIfInBounds b (.map ents' clock') }, g.u, g.loc⟩ _ (St.put_none (hst.objset ho hxx rfl rfl rfl rfl (fun q hq hn => ⟨hset.2 q (by rintro rfl; exact hn (by simp [AO.own, i1, Loc.block])), rfl⟩) (wf_same hst.so.wf (Nat.le_of_eq hsize.symm) _) ?_ (fun _ => rfl)))
        refine .mapo i1 hset.1 i3 (by simpa [menc] using hsz) (fun j k' c hj => ?_)
        simp only [menc, List.getElem?_map, Option.map_eq_some_iff, Prod.mk.injEq] at hj
        obtain ⟨p, hp, rfl, rfl⟩ := hj
        have hlt : j < ents'.size := by rw [hsz]; exact (List.getElem?_eq_some_iff.1 hp).1
        obtain ⟨r1, r2⟩ := hrel j p _ hp (Array.getElem?_eq_getElem hlt)
        exact ⟨_, Array.getElem?_eq_getElem hlt, r1, r2.mono hxx⟩
      have hshow : (execOp a.eval ⟨none, .mapUpdate t m x y, ty, pos, af, gu⟩).run E.P g.w = Sem.run E.P (do Instr.mapUpdate t (.map (some b)) (KK.kf k) (a.eval y); pure Next.skip) g.w := by
        show Sem.run E.P (do Instr.mapUpdate t (a.eval m) (a.eval x) (a.eval y); pure Next.skip) g.w = _
        rw [hvm, e2]
      cases hp : mpos es k with
      | none =>
        rw [hp] at hf
        simp only [Option.bind_none] at hf
        have hmp : mput es k v = es ++ [(k, v)] := by rw [mput_pos, hp]
        refine hgo (ents.push ⟨KK.kf k, a.eval y, clock⟩) (clock + 1) (by rw [hmp]; simp [i4]) (fun j p x hj hx' => ?_) ?_
        · rw [hmp] at hj
          rcases Nat.lt_or_ge j es.length with h4 | h4
          · rw [List.getElem?_append_left h4] at hj
            rw [Array.getElem?_push_lt (by omega)] at hx'
            have hx2 : ents[j]? = some x := by rw [Array.getElem?_eq_getElem (by omega)]; exact hx'
            exact ⟨i5 j p x hj hx2, i6 j p x hj hx2⟩
          · have hj2 : j = es.length := by
              have := (List.getElem?_eq_some_iff.1 hj).1
              simp at this; omega
            subst hj2
            simp at hj
            subst hj
            rw [← i4] at hx'
            simp at hx'
            subst hx'
            exact ⟨rfl, h3⟩
        · rw [hshow]
          simp [Instr.mapUpdate, run_underlying ht, MapKept.run_getObj_map i2, hc, hf, MapKept.run_setObj_map _ i2, Result.andThen]
      | some i =>
        obtain ⟨p0, hp1, hp2⟩ := mpos_lt hp
        have hi : i < ents.size := by rw [i4]; exact (List.getElem?_eq_some_iff.1 hp1).1
        rw [hp] at hf
        simp only [Option.bind_some, Array.getElem?_eq_getElem hi, Option.map_some] at hf
        have hmp : mput es k v = es.set i (k, v) := by rw [mput_pos, hp]
        have hkk : ents[i].key = KK.kf k := by
          rw [i5 i p0 _ hp1 (Array.getElem?_eq_getElem hi)]
          rw [show p0.1 = k by simpa using hp2]
        refine hgo (ents.modify i fun e => { e with key := KK.kf k, val := a.eval y }) clock (by rw [hmp]; simp [i4]) (fun j p x hj hx' => ?_) ?_
        · rw [hmp] at hj
          rw [Array.getElem?_modify] at hx'
          by_cases hij : i = j
          · subst hij
            rw [List.getElem?_set_self (by rw [← i4]; exact hi)] at hj
            cases hj
            rw [if_pos rfl, Array.getElem?_eq_getElem hi] at hx'
            cases hx'
            exact ⟨rfl, h3⟩
          · rw [List.getElem?_set_ne hij] at hj
            rw [if_neg hij] at hx'
            exact ⟨i5 j p x hj hx', i6 j p x hj hx'⟩
        · rw [hshow]
          simp [Instr.mapUpdate, run_underlying ht, MapKept.run_getObj_map i2, hc, hf, hi, hkk, KK.stay, MapKept.run_setObj_map _ i2, Result.andThen]⟩
theorem ev_mlen (hm : ρ m = .mp o) (ho : σ.get o = some (.mapo ag (menc KK F es))) (ht : P.underlying t = some (.map kt e)) : EvQ P ⟨dst, .call ⟨.builtin .len, #[m], #[t]⟩, ty, pos, af, gu⟩ ρ σ (.i es.length) :=
  ⟨fun c => by simp, fun g ρv h hs => by
    have h1 := h m (by simp [Op.operands, Call.operands])
    rw [hm] at h1
    obtain ⟨b, clock, ents, i1, i2, i3, i4, i5, i6⟩ := (hs o _ ho).map_inv
    generalize hvm : ρv m = vm at h1
    cases h1 with
    | mp hl =>
      rw [i1] at hl; cases hl
      refine ⟨.int .i64 es.length, ?_, .pv (.b rfl)⟩
      simp [execOp, resolve, invoke, builtin, Builtin.len_, hvm, run_underlying ht, goInt, MapKept.run_getObj_map i2, i4, Result.andThen]⟩
end

/-! ### is a slice nil? -/
section
variable {P : Program} {ρ : Operand → AV} {σ : Sto} {t t' e : TypeId} {x : Operand} {α : Type} {F : α → List PV} {l : List α} {dst : Option Tmp} {ty : TypeId} {pos : String} {af : Array Edge} {gu : Option (Nat × Bool)} {ss sb : Nat} {sz : Value}
/-- a slice that is not empty is not nil -/
def notNil {α : Type} (l : List α) : Option Bool := if l.isEmpty then none else some true
theorem notNil_spec {α : Type} {l : List α} {b : Bool} (h : notNil l = some b) : l ≠ [] ∧ b = true := by
  unfold notNil at h
  split at h
  · cases h
  · rename_i hl; cases h; exact ⟨by simpa using hl, rfl⟩
theorem val_notNil {g : G} {v : Value} (h : Rel g (.l F l) v) (hl : l ≠ []) : ∃ a n c, v = .slice (some a) n c := by
  cases h with
  | pv h =>
    obtain ⟨a', cap', size', b, off, val, hv, _, hc, _, ha, _⟩ := relP_sl_inv h
    have := ha (by simpa using hl)
    subst this
    exact ⟨_, _, _, hv⟩
theorem run_nilcmp {ρv : Operand → Value} {w : World} {a : Option Addr} {n c : Nat} (ne : Bool) (hx : ρv x = .slice a n c) (hy : ρv (.const (.slice none 0 0)) = .slice none 0 0) (ht : TyOk P t ss sb sz (.slice e)) :
    (execOp ρv ⟨dst, .binOp (if ne then .neq else .eql) t x (.const (.slice none 0 0)) t', ty, pos, af, gu⟩).run P w = .ok (.value (.bool (if ne then !a.isNone else a.isNone))) w := by
  cases ne <;> simp [execOp, hx, hy, go_sem, eqGuard, binOp, run_equal_slice_nil w t e a n c ht.u]
theorem ev_nilcmp (ne : Bool) {c : AV} {q : Bool} (hx : ρ x = c) (hc : ∀ g v, Rel g c v → ∃ a n k, v = .slice a n k ∧ a.isNone = q) (hy : ρ (.const (.slice none 0 0)) = .pv (.sl (some true) [])) (ht : TyOk P t ss sb sz (.slice e)) :
    EvQ P ⟨dst, .binOp (if ne then .neq else .eql) t x (.const (.slice none 0 0)) t', ty, pos, af, gu⟩ ρ σ (.bo (if ne then !q else q)) :=
  ⟨fun c => by simp, fun g ρv h hs => by
    obtain ⟨h1, h2⟩ := ops2 (o := ⟨dst, .binOp (if ne then .neq else .eql) t x (.const (.slice none 0 0)) t', ty, pos, af, gu⟩) (x := x) (y := .const (.slice none 0 0)) rfl h
    rw [hx] at h1
    rw [hy] at h2
    have e2 := rel_nil h2
    obtain ⟨a, n, k, e1, rfl⟩ := hc g _ h1
    exact ⟨_, run_nilcmp ne e1 e2 ht, .pv (.b rfl)⟩⟩
theorem ev_isnil (hx : ρ x = .pv (.sl (some true) [])) (hy : ρ (.const (.slice none 0 0)) = .pv (.sl (some true) [])) (ht : TyOk P t ss sb sz (.slice e)) : EvQ P ⟨dst, .binOp .eql t x (.const (.slice none 0 0)) t', ty, pos, af, gu⟩ ρ σ (.bo true) :=
  ev_nilcmp false hx (fun g v h => ⟨none, 0, 0, rel_nil h, rfl⟩) hy ht
theorem ev_nenil (hx : ρ x = .pv (.sl (some true) [])) (hy : ρ (.const (.slice none 0 0)) = .pv (.sl (some true) [])) (ht : TyOk P t ss sb sz (.slice e)) : EvQ P ⟨dst, .binOp .neq t x (.const (.slice none 0 0)) t', ty, pos, af, gu⟩ ρ σ (.bo false) :=
  ev_nilcmp true hx (fun g v h => ⟨none, 0, 0, rel_nil h, rfl⟩) hy ht
theorem ev_isnil_no {b : Bool} (hx : ρ x = .l F l) (hy : ρ (.const (.slice none 0 0)) = .pv (.sl (some true) [])) (ht : TyOk P t ss sb sz (.slice e)) (hl : notNil l = some b) : EvQ P ⟨dst, .binOp .eql t x (.const (.slice none 0 0)) t', ty, pos, af, gu⟩ ρ σ (.bo false) :=
  ev_nilcmp false hx (fun g v h => by obtain ⟨a, n, c, e⟩ := val_notNil h (notNil_spec hl).1; exact ⟨some a, n, c, e, rfl⟩) hy ht
theorem ev_nenil_no {b : Bool} (hx : ρ x = .l F l) (hy : ρ (.const (.slice none 0 0)) = .pv (.sl (some true) [])) (ht : TyOk P t ss sb sz (.slice e)) (hl : notNil l = some b) : EvQ P ⟨dst, .binOp .neq t x (.const (.slice none 0 0)) t', ty, pos, af, gu⟩ ρ σ (.bo true) :=
  ev_nilcmp true hx (fun g v h => by obtain ⟨a, n, c, e⟩ := val_notNil h (notNil_spec hl).1; exact ⟨some a, n, c, e, rfl⟩) hy ht
end

/-- a case distinction on what a map holds -/
def optElim {α β : Type} (o : Option α) (f : α → β) (b : β) : β := match o with | some v => f v | none => b
theorem opt_some {α β : Type} {o : Option α} {v : α} {f : α → β} {b x : β} (h : o = some v) (hr : optElim o f b = x) : f v = x := by subst h; exact hr
theorem opt_none {α β : Type} {o : Option α} {f : α → β} {b x : β} (h : o = none) (hr : optElim o f b = x) : b = x := by subst h; exact hr
theorem opt_split {α : Type} {G : Prop} (o : Option α) (h1 : ∀ v, o = some v → G) (h2 : o = none → G) : G := by
  cases h : o with
  | none => exact h2 h
  | some v => exact h1 v h
section
variable {K V : Type} [BEq K] [LawfulBEq K] {KK : KeyK K} {F : V → List PV} {ag : Bool} {P : Program} {ρ : Operand → AV} {σ : Sto} {t kt e : TypeId} {m x : Operand} {o size bytes : Nat} {zero : Value} {d : TypeDesc} {es : List (K × V)} {k : K} {z v : V}
variable {dst : Option Tmp} {ty : TypeId} {pos : String} {af : Array Edge} {gu : Option (Nat × Bool)}
theorem ev_lookup_some (hm : ρ m = .mp o) (ho : σ.get o = some (.mapo ag (menc KK F es))) (hx : keyOf (ρ x) = some (KK.kf k)) (ht : P.underlying t = some (.map kt e)) (hkt : KK.ok P kt) (he : TyOk P e size bytes zero d) (hz : zeroMV ag zero = some (F z)) (hg : mget es k = some v) :
    EvQ P ⟨dst, .lookup t m x false, ty, pos, af, gu⟩ ρ σ (mvA ag (F v)) := by
  have := ev_lookup (dst := dst) (ty := ty) (pos := pos) (af := af) (gu := gu) hm ho hx ht hkt he hz
  rw [hg] at this; exact this
theorem ev_lookup_none (hm : ρ m = .mp o) (ho : σ.get o = some (.mapo ag (menc KK F es))) (hx : keyOf (ρ x) = some (KK.kf k)) (ht : P.underlying t = some (.map kt e)) (hkt : KK.ok P kt) (he : TyOk P e size bytes zero d) (hg : mget es k = none) :
    EvQ P ⟨dst, .lookup t m x false, ty, pos, af, gu⟩ ρ σ (constAV zero) :=
  ⟨fun c => by simp, fun g ρv h hs => by
    obtain ⟨h1, h2⟩ := ops2 (o := ⟨dst, .lookup t m x false, ty, pos, af, gu⟩) (x := m) (y := x) rfl h
    rw [hm] at h1
    have e2 := rel_key h2 hx
    obtain ⟨b, clock, ents, i1, i2, i3, i4, i5, i6⟩ := (hs o _ ho).map_inv
    generalize hvm : ρv m = vm at h1
    cases h1 with
    | mp hl =>
      rw [i1] at hl; cases hl
      have hf := run_findKey (P := P) (w := g.w) (k := k) hkt i4 i5
      have hc := KK.check (P := P) hkt g.w k ents.isEmpty
      have hp : mpos es k = none := by
        rw [mget_pos] at hg
        cases hp : mpos es k with
        | none => rfl
        | some i =>
          obtain ⟨p, hp1, _⟩ := mpos_lt hp
          rw [hp] at hg; simp [hp1] at hg
      rw [hp] at hf
      simp only [Option.bind_none] at hf
      refine ⟨zero, ?_, rel_const g zero⟩
      show Sem.run P (do let v ← Instr.lookup t (ρv m) (ρv x) false; pure (Next.value v)) g.w = _
      rw [hvm, e2]
      simp [Instr.lookup, run_underlying ht, MapKept.run_getObj_map i2, hc, hf, he.zeroValue, Result.andThen]⟩
end
end Go.Proofs.Ytpclhpncmlbccaa

/- The abstract calculus: parts of owned rows that are only looked at, clear, copies: rules. No program is named. -/
namespace Go.Proofs.Ytpclhpncmlbccaa
open Go.RowKit Go.Lib

variable {E : Env} {fr : Fr} {σ : Sto} {K : Post} {P : Program} {ρ : Operand → AV}
variable {dst : Option Tmp} {ty : TypeId} {pos : String} {af : Array Edge} {gu : Option (Nat × Bool)}
section
variable {α : Type} {F : α → List PV} {l xs r' : List α} {r size bytes sb ss k lim : Nat} {e t : TypeId} {mu : Bool} {zero sz : Value} {d : TypeDesc} {x y : Operand} {nl : Option Bool}

/-- row[lo:], the row as it was -/
theorem ev_hsub {p : Int} {k1 : IntKind} {v : List α} (hx : ρ x = .hs r 0) (hr : σ.get r = some (.row e mu size (l.map F))) (hy : ρ y = .pv (.b (.int k1 p)))
    (ht : TyOk P t ss sb sz (.slice e)) (he : TyOk P e size bytes zero d) (hv : cut l p l.length = some v) : EvQ P ⟨dst, .slice t x (some y) none none, ty, pos, af, gu⟩ ρ σ (.hsub r p.toNat) :=
  ⟨fun c => by simp, fun g ρv hh hs => by
    have h1 := hh x (by simp [Op.operands])
    have h2 := hh y (by simp [Op.operands])
    rw [hx] at h1
    rw [hy] at h2
    have e2 := rel_b h2
    obtain ⟨h0, h01, h02, _⟩ := cut_spec hv
    obtain ⟨old, ho1, ev, ho3⟩ := (hs r _ hr).old h1
    obtain ⟨a0, old⟩ := old
    have hrun : ∀ ad cap, ρv x = .slice ad l.length cap → l.length ≤ cap → (execOp ρv ⟨dst, .slice t x (some y) none none, ty, pos, af, gu⟩).run P g.w =
        .ok (.value (.slice (if cap = p.toNat then ad else ad.map (·.add (p.toNat * size))) (l.length - p.toNat) (cap - p.toNat))) g.w := by
      intro ad cap ev hcap
      show Sem.run P (do let v ← Instr.sliceAt t (ρv x) ((some y).map ρv) (Option.map ρv none) none; pure (Next.value v)) g.w = _
      have hb := run_sliceBounds (P := P) (w := g.w) (len := l.length) (cap := cap) (lo := (some y).map ρv) (hi := Option.map ρv none) (a := p) (b := l.length) hcap (.inr ⟨k1, by simp [e2]⟩) (.inl ⟨rfl, rfl⟩) h0 h01 (Int.le_refl _)
      rw [ev]
      simp only [Instr.sliceAt, underlying, program, Sem.run_bind, Sem.run, ht.u, Result.andThen_ok, Sem.run_pure, Instr.slice, hb, he.sizeOf, Int.toNat_natCast]
    cases old with
    | none =>
      obtain ⟨hl, rfl⟩ := ho3
      have hp : p.toNat = 0 := by simp at h01; omega
      refine ⟨_, hrun a0 0 ev (by simp), ?_⟩
      rw [hp]; simp only [if_true, Nat.sub_zero, List.length_nil]
      exact .hsubNil _ hl
    | some o =>
      obtain ⟨b, off, cap, cur⟩ := o
      obtain ⟨hb, hcs, hnc, hcm, ad, rfl, had⟩ := ho1
      refine ⟨_, hrun (some ad) cap ev hnc, ?_⟩
      split
      · exact .hsub ho3.1 (by omega) (fun hc => by omega)
      · refine .hsub ho3.1 (by omega) (fun hc => ?_)
        rw [had (by omega)]; show Addr.add _ _ = _; rw [addr_add, Nat.add_mul]⟩
def clr0 (l : List α) (i : Nat) (z : α) : List α := l.take i ++ List.replicate (l.length - i) z
theorem clr0_len (l : List α) (i : Nat) (z : α) (h : i ≤ l.length) : (clr0 l i z).length = l.length := by simp [clr0]; omega
theorem zeroCells_get {z : Array Value} {n q : Nat} (h : q < n * z.size) : (Builtin.zeroCells z n).toList[q]? = z.toList[q % z.size]? := by
  have hz : 0 < z.size := by
    rcases Nat.eq_zero_or_pos z.size with h0 | h0
    · rw [h0] at h; simp at h
    · exact h0
  have hm : q % z.size < z.size := Nat.mod_lt _ hz
  simp [Builtin.zeroCells, h, hm]
/-- clear of the end of a row -/
theorem opTo_clear {lo : Nat} {z : α} (hx : fr.ev x = .hsub r lo) (hr : σ.get r = some (.row e true size (l.map F))) (ht : TyOk E.P t ss sb sz (.slice e)) (he : TyOk E.P e size bytes zero d) (hzz : (Nat.beq zero.cells.size size && Nat.ble 1 size && zero.cells.toList.all cellV) = true)
    (hz : zero.cells.toList.map constPV = F z) :
    OpTo E ⟨none, .call ⟨.builtin .clear, #[x], #[t]⟩, ty, pos, af, gu⟩ fr σ fr (σ.upd r (.row e true size ((clr0 l lo z).map F))) :=
  ⟨fun g a K Q hst hK => by
    simp only [Bool.and_eq_true] at hzz
    have hz1 := Nat.eq_of_beq_eq_true hzz.1.1
    have hz2 := Nat.le_of_ble_eq_true hzz.1.2
    have hz3 := hzz.2
    rw [List.all_eq_true] at hz3
    refine ⟨fun _ _ => trivial, ?_⟩
    rw [Oper.semAt_plain _ _ _ (fun c => by simp)]
    have h1 := hst.ev x
    rw [hx] at h1
    generalize hev : a.eval x = vx at h1
    have hexec : ∀ w', (Builtin.clear_ #[t] ty #[vx]).run E.P g.w = .ok (.tuple #[]) w' → (execOp a.eval ⟨none, .call ⟨.builtin .clear, #[x], #[t]⟩, ty, pos, af, gu⟩).run E.P g.w = .ok (.value (.tuple #[])) w' := by
      intro w' hc
      simp [execOp, resolve, invoke, builtin, hev, hc]
    have hob := hst.so.obj r _ hr
    generalize hls : l.map F = ls at hob
    cases hob with
    | nil hl =>
      obtain rfl : l = [] := by simpa using hls
      cases h1 with
      | hsub h2 => rw [hl] at h2; cases h2
      | hsubNil ax =>
        rw [hexec g.w (by cases ax <;> simp [Builtin.clear_, run_underlying ht.u]), Oper.uponIn_value]
        have := hst.objset (ob := .row e true size ((clr0 ([] : List α) lo z).map F)) hr (Ext.refl _ _) rfl rfl rfl rfl (fun _ _ _ => ⟨rfl, rfl⟩) hst.so.wf (by simp [clr0]; exact .nil hl) (fun _ => rfl)
        exact hK g _ (St.put_none this)
    | @row _ _ _ _ b off cap cur hl hb hn hm hle hzl hu hmu hrel =>
      subst hls
      simp only [List.length_map] at hl hle hu
      cases h1 with
      | hsubNil ax h2 => rw [hl] at h2; cases h2
      | @hsub _ _ _ _ _ _ _ ad h2 hlo ha =>
        rw [hl] at h2
        cases h2
        have hu0 := hmu rfl
        by_cases hz0 : l.length - lo = 0
        · have hcl : clr0 l lo z = l := by unfold clr0; rw [hz0, List.take_of_length_le (by omega)]; simp
          rw [hcl] at hK
          rw [hexec g.w (by rw [hz0]; simp [Builtin.clear_, run_underlying ht.u]), Oper.uponIn_value]
          have := hst.objset (ob := .row e true size (l.map F)) hr (Ext.refl _ _) rfl rfl rfl rfl (fun _ _ _ => ⟨rfl, rfl⟩) hst.so.wf (hst.so.obj r _ hr) (fun _ => rfl)
          exact hK g _ (St.put_none this)
        · have had := ha (by omega)
          subst had
          generalize hzs : (Builtin.zeroCells zero.cells (l.length - lo)).toList = zs
          have hzlen : zs.length = (l.length - lo) * size := by rw [← hzs, Array.length_toList, size_zeroCells, hz1]
          have hzget : ∀ q, q < (l.length - lo) * size → zs[q]? = zero.cells.toList[q % size]? := by
            intro q hq
            rw [← hzs, zeroCells_get (by rw [hz1]; exact hq), hz1]
          have hone : ∀ u ∈ zs, u.oneCell' = true := by
            intro u hu'
            obtain ⟨q, hq⟩ := List.getElem?_of_mem hu'
            rw [hzget q (by rw [← hzlen]; exact (List.getElem?_eq_some_iff.1 hq).1)] at hq
            have := hz3 u (List.mem_of_getElem? hq)
            cases u <;> first | rfl | simp [cellV] at this
          generalize hp : (off + lo) * size = p at *
          have hfit : p + zs.length ≤ cur.size := by
            rw [hzlen, ← hp, hn, ← Nat.add_mul]; exact Nat.mul_le_mul_right _ (by omega)
          have hs := run_storeCells_at (P := E.P) b p e zs 0 cur g.w hb (by simpa using hfit) hone
          simp only [Nat.add_zero] at hs
          generalize hcs : (cur.toList.take p ++ zs ++ cur.toList.drop (p + zs.length)) = cells at hs
          have hrun : (Builtin.clear_ #[t] ty #[.slice (some ⟨b, p, none⟩) (l.length - lo) (cap - lo)]).run E.P g.w = .ok (.tuple #[]) (g.w.setRow b cells.toArray) := by
            obtain ⟨m, hm'⟩ : ∃ m, l.length - lo = m + 1 := ⟨l.length - lo - 1, by omega⟩
            rw [hm'] at hzs ⊢
            simp [Builtin.clear_, run_underlying ht.u, he.zeroValue, hzs, hs]
          rw [hexec _ hrun, Oper.uponIn_value]
          have hclen : cells.length = cur.size := by rw [← hcs]; simp; omega
          have hget : ∀ q, q < cur.size → cells[q]? = if p ≤ q ∧ q < p + zs.length then zs[q - p]? else cur.toList[q]? := by
            intro q hq
            rw [← hcs, List.append_assoc]
            rcases Nat.lt_or_ge q p with h2 | h2
            · rw [if_neg (by omega), List.getElem?_append_left (by simp; omega), List.getElem?_take_of_lt h2]
            · rw [List.getElem?_append_right (by simp; omega)]
              simp only [List.length_take, Array.length_toList, show min p cur.size = p by omega]
              rcases Nat.lt_or_ge q (p + zs.length) with h3 | h3
              · rw [if_pos ⟨h2, h3⟩, List.getElem?_append_left (by omega)]
              · rw [if_neg (by omega), List.getElem?_append_right (by omega), List.getElem?_drop]
                congr 1
                omega
          have hheap : ∀ k, k ≠ b → (g.w.setRow b cells.toArray).heap[k]? = g.w.heap[k]? := fun k hk => by
            simp only [World.setRow, Array.getElem?_modify]; rw [if_neg (Ne.symm hk)]
          have hnewb := setRow_heap g.w b cur cells.toArray e _ hb
          have hsz : (g.w.setRow b cells.toArray).heap.size = g.w.heap.size := by simp [World.setRow]
          have hxx : Ext g.w g.u (g.w.setRow b cells.toArray) g.u := ⟨Nat.le_of_eq hsz.symm, fun _ _ => Nat.le_refl _, fun k i hk hi => by
            by_cases hkb : k = b
            · subst hkb; omega
            · simp only [World.cell?]; rw [hheap k hkb], fun r' hr' => (hheap r' (by rintro rfl; rw [hb] at hr'; cases hr')).trans hr'⟩
          have hst' := hst.objset (g' := ⟨g.w.setRow b cells.toArray, g.u, g.loc⟩) (ob := .row e true size ((clr0 l lo z).map F)) hr hxx rfl rfl rfl rfl (fun k hk hne => ⟨hheap k (by rintro rfl; exact hne (by rw [hl]; rfl)), rfl⟩) (wf_same hst.so.wf (Nat.le_of_eq hsz.symm) _) ?_ (fun _ => rfl)
          · exact hK _ _ (St.put_none hst')
          have hFz : (F z).length = size := by rw [← hz]; simp [hz1]
          have hmem : ∀ w ∈ clr0 l lo z, (F w).length = size := by
            intro w hw
            rcases List.mem_append.1 hw with h2 | h2
            · exact hzl _ (List.mem_map_of_mem (List.mem_of_mem_take h2))
            · rw [List.mem_replicate] at h2; rw [h2.2]; exact hFz
          have hlen2 := clr0_len l lo z hlo
          refine .row (off := off) (by rw [List.length_map, hlen2]; exact hl) hnewb (by simp [hclen, hn]) hm (by rw [List.length_map, hlen2]; exact hle) (fun y' hy' => by obtain ⟨w, hw, rfl⟩ := List.mem_map.1 hy'; exact hmem w hw) (by show g.u b ≤ _; rw [hu0]; exact Nat.zero_le _) (fun _ => hu0) (fun i j w' c hi hj => ?_)
          simp only [List.getElem?_map, Option.map_eq_some_iff] at hi
          obtain ⟨w, hw, rfl⟩ := hi
          have hil : i < l.length := by have := (List.getElem?_eq_some_iff.1 hw).1; omega
          have hjs : j < size := by rw [← hmem w (List.mem_of_getElem? hw)]; exact (List.getElem?_eq_some_iff.1 hj).1
          have hpos : (off + i) * size + j < cur.size := by rw [hn]; exact hp_lt (s := 1) hil hle hjs
          rw [Array.getD_eq_getD_getElem?, List.getElem?_toArray, hget _ hpos]
          have htl : (l.take lo).length = lo := by simp; omega
          unfold clr0 at hw
          rcases Nat.lt_or_ge i lo with h2 | h2
          · rw [List.getElem?_append_left (by omega), List.getElem?_take_of_lt h2] at hw
            have hlt : (off + i) * size + j < p := by
              have : (off + i + 1) * size ≤ (off + lo) * size := Nat.mul_le_mul_right _ (by omega)
              rw [Nat.add_mul (off + i)] at this; omega
            rw [if_neg (by omega)]
            have h5 := (hrel i j (F w) c (by simp [hw]) hj).mono hxx
            rw [Array.getD_eq_getD_getElem?] at h5
            simpa using h5
          · rw [List.getElem?_append_right (by omega), htl] at hw
            have hwz : w = z := by have := List.mem_of_getElem? hw; rw [List.mem_replicate] at this; exact this.2
            subst hwz
            have e1 : (off + i) * size + j = p + ((i - lo) * size + j) := by
              rw [← hp, ← Nat.add_assoc, ← Nat.add_mul]; congr 2; omega
            have hq : (i - lo) * size + j < (l.length - lo) * size := by
              have : (i - lo + 1) * size ≤ (l.length - lo) * size := Nat.mul_le_mul_right _ (by omega)
              rw [Nat.add_mul] at this; omega
            rw [e1, if_pos (by omega), Nat.add_sub_cancel_left, hzget _ hq]
            have e2 : ((i - lo) * size + j) % size = j := by rw [Nat.mul_comm, Nat.mul_add_mod, Nat.mod_eq_of_lt hjs]
            rw [e2]
            rw [← hz, List.getElem?_map, Option.map_eq_some_iff] at hj
            obtain ⟨u, hu', rfl⟩ := hj
            rw [hu']
            exact relP_constPV _ _ u (hz3 u (List.mem_of_getElem? hu'))⟩
/-- append onto a slice without room: a new row -/
theorem opTo_appendz (r : Nat) (hN : Nat.ble (k + 1) E.N = true) (hx : fr.ev x = .z0) (hy : fr.ev y = .pv (.sl nl (xs.map F))) (ht : TyOk E.P t ss sb sz (.slice e)) (he : TyOk E.P e size bytes zero d)
    (hzz : Nat.beq zero.cells.size size = true) (hs : Nat.ble 1 size = true) (hF : ∀ x, (F x).length = size) (hlim : (Nat.ble (lim * bytes) 140737488355328 && Nat.ble lim 9223372036854775807) = true) (hf : fr.has r = false) (hso : σ.has r = false) (h : app lim [] xs = some r') :
    OpTo E ⟨some k, .call ⟨.builtin .append, #[x, y], #[t, t]⟩, ty, pos, af, gu⟩ fr σ ((k, .hs r 0) :: fr.clr r) ((Sto.clr r ((r, .row e true size []) :: σ)).upd r (.row e true size (r'.map F))) :=
  ⟨fun g a K Q hst hK => by
    obtain ⟨hle, hr'⟩ := app_spec h
    simp only [Bool.and_eq_true] at hlim
    have hl1 := Nat.le_of_ble_eq_true hlim.1
    have hl2 := Nat.le_of_ble_eq_true hlim.2
    have hzz := Nat.eq_of_beq_eq_true hzz
    have hs := Nat.le_of_ble_eq_true hs
    refine ⟨fun _ _ => trivial, ?_⟩
    rw [Oper.semAt_plain _ _ _ (fun c => by simp)]
    have h1 := hst.ev x
    rw [hx] at h1
    have hst0 := hst.adopt r e true size hf hso
    have h2 := hst0.ev y
    rw [hy] at h2
    have hlb : (0 + xs.length) * bytes ≤ 140737488355328 := by
      simp only [List.length_nil] at hle
      exact Nat.le_trans (Nat.mul_le_mul_right _ hle) hl1
    have hgr : Sto.get ((r, AO.row e true size []) :: σ) r = some (.row e true size (([] : List α).map F)) := by rw [Sto.get_cons, if_pos rfl]; rfl
    generalize hev : a.eval x = vx at h1
    cases h1 with
    | z0 ax =>
      have ho3 : OldRel ⟨g.w, g.u, fun k => if k = r then .nilRow else g.loc k⟩ r true size F ([] : List α) (ax, none) := ⟨if_pos rfl, rfl⟩
      cases h2 with
      | pv h2 =>
        rcases news_of hF h2 with ⟨e2, rfl⟩ | ⟨a0, c, news, e2, hnews, hcells⟩
        · obtain ⟨v', w', hrun, hres⟩ := app_res_none (P := E.P) (w := g.w) (ty := ty) (old := (ax, none)) (n := 0) ht he rfl
          rw [run_append_op (x := x) (y := y) (w := g.w) (by rw [hev, e2]; exact hrun), Oper.uponIn_value]
          obtain ⟨g', rfl, hst', hv⟩ := hst0.appended (F := F) (l := []) (xs := []) (old := (ax, none)) hgr rfl ho3 (news := []) ⟨by simp, by simp, fun i j x c hi => by simp at hi⟩ hres
          exact hK g' _ (by rw [hr']; exact hst'.put (Nat.le_of_ble_eq_true hN) hv)
        · obtain ⟨v', w', hrun, hres⟩ := app_res_slice (P := E.P) (w := g.w) (ty := ty) (c := c) (old := (ax, none)) (n := 0) ht he hzz (by omega) rfl hnews.len hcells hnews.one hlb (by unfold maxLen; simp only [List.length_nil] at hle; omega)
          rw [run_append_op (x := x) (y := y) (w := g.w) (by rw [hev, e2]; exact hrun), Oper.uponIn_value]
          obtain ⟨g', rfl, hst', hv⟩ := hst0.appended (F := F) (l := []) (old := (ax, none)) hgr rfl ho3 hnews hres
          exact hK g' _ (by rw [hr']; exact hst'.put (Nat.le_of_ble_eq_true hN) hv)⟩
/-- s[:0:0] -/
theorem ev_z0 {k1 k2 : IntKind} {z w : Operand} (hx : ρ x = .pv (.sl nl (l.map F))) (hz : ρ z = .pv (.b (.int k1 0))) (hw : ρ w = .pv (.b (.int k2 0))) (ht : TyOk P t ss sb sz (.slice e)) (he : TyOk P e size bytes zero d) :
    EvQ P ⟨dst, .slice t x none (some z) (some w), ty, pos, af, gu⟩ ρ σ .z0 :=
  ⟨fun c => by simp, fun g ρv hh _ => by
    have h1 := hh x (by simp [Op.operands])
    have h2 := hh z (by simp [Op.operands])
    have h3 := hh w (by simp [Op.operands])
    rw [hx] at h1
    rw [hz] at h2
    rw [hw] at h3
    have e2 := rel_b h2
    have e3 := rel_b h3
    cases h1 with
    | pv h1 =>
      obtain ⟨a', cap', size', b, off, val, hv, _, hc, _⟩ := relP_sl_inv h1
      refine ⟨.slice a' 0 0, ?_, .z0 a'⟩
      show Sem.run P (do let v ← Instr.sliceAt t (ρv x) none (some (ρv z)) (some (ρv w)); pure (Next.value v)) g.w = _
      rw [hv, e2, e3]
      simp [Instr.sliceAt, run_underlying ht.u, Instr.slice, Instr.sliceBounds, Instr.sliceBound, asIntOf, he.sizeOf, go_sem]⟩
/-- an owned row in a struct: publish it -/
theorem rel_aggset {g : G} {cs : List AV} {j : Nat} {c c0 : AV} {v : Value} (h : Rel g (.agg cs) v) (hj : cs[j]? = some c0) (hc : ∀ v, Rel g c0 v → Rel g c v) : Rel g (.agg (cs.set j c)) v := by
  cases h with
  | agg h1 h2 h3 =>
    refine .agg (by simpa using h1) h2 fun i c' hi => ?_
    rw [List.getElem?_set] at hi
    split at hi
    · rename_i hij
      split at hi
      · cases hi; subst hij; exact hc _ (h3 j c0 hj)
      · cases hi
    · exact h3 i c' hi
theorem awp_pubA {c : Code} {d' j : Nat} {cs : List AV} (hd : fr.get d' = .agg cs) (hj : cs[j]? = some (.hs r 0)) (hr : σ.get r = some (.row e false size (l.map F))) (h : AWP E c ((d', .agg (cs.set j (.l F l))) :: fr) σ K) : AWP E c fr σ K :=
  ⟨fun g a hst => by
    obtain ⟨g', hw, hl, hst', hv⟩ := hst.pub hr
    have h1 := hst'.fr d'
    rw [hd] at h1
    have := h.go g' a (hst'.reslot (d := d') (rel_aggset h1 hj hv))
    rw [hw] at this; exact this⟩
theorem awpl_pubA {ops : Array Oper} {ol : List Oper} {d' j : Nat} {cs : List AV} (hd : fr.get d' = .agg cs) (hj : cs[j]? = some (.hs r 0)) (hr : σ.get r = some (.row e false size (l.map F))) (h : AWPL E ops ol ((d', .agg (cs.set j (.l F l))) :: fr) σ K) : AWPL E ops ol fr σ K :=
  ⟨fun g a hst => by
    obtain ⟨g', hw, hl, hst', hv⟩ := hst.pub hr
    have h1 := hst'.fr d'
    rw [hd] at h1
    have := h.go g' a (hst'.reslot (d := d') (rel_aggset h1 hj hv))
    rw [hw] at this; exact this⟩
end
/-! ### more on integers -/
section
variable {t t' : TypeId} {x y : Operand} {a b : Int}
def iOr (a b : Int) : Int := w64 ((BitVec.ofInt 64 a ||| BitVec.ofInt 64 b).toNat : Int)
def iAnd (a b : Int) : Int := w64 ((BitVec.ofInt 64 a &&& BitVec.ofInt 64 b).toNat : Int)
def iXor (a b : Int) : Int := w64 ((BitVec.ofInt 64 a ^^^ BitVec.ofInt 64 b).toNat : Int)
def iQuo (a b : Int) : Int := w64 (a.tdiv b)
def iRem (a b : Int) : Int := a.tmod b
theorem ev_ibits {op : BinOp} {r : Int} (hx : ρ x = .i a) (hy : ρ y = .i b) (hr : (op = .or ∧ r = iOr a b) ∨ (op = .and ∧ r = iAnd a b) ∨ (op = .xor ∧ r = iXor a b)) : EvQ P ⟨dst, .binOp op t x y t', ty, pos, af, gu⟩ ρ σ (.i r) :=
  ⟨fun c => by simp, fun g ρv h _ => by
    obtain ⟨h1, h2⟩ := ops2 (o := ⟨dst, .binOp op t x y t', ty, pos, af, gu⟩) (x := x) (y := y) rfl h
    rw [hx] at h1
    rw [hy] at h2
    have e1 := rel_b h1
    have e2 := rel_b h2
    refine ⟨.int .i64 r, ?_, .pv (.b rfl)⟩
    rcases hr with ⟨rfl, rfl⟩ | ⟨rfl, rfl⟩ | ⟨rfl, rfl⟩ <;> (simp [execOp, e1, e2, go_sem, eqGuard, binOp, Op.intBits]; rfl)⟩
theorem ev_ior (hx : ρ x = .i a) (hy : ρ y = .i b) : EvQ P ⟨dst, .binOp .or t x y t', ty, pos, af, gu⟩ ρ σ (.i (iOr a b)) := ev_ibits hx hy (.inl ⟨rfl, rfl⟩)
theorem ev_iand (hx : ρ x = .i a) (hy : ρ y = .i b) : EvQ P ⟨dst, .binOp .and t x y t', ty, pos, af, gu⟩ ρ σ (.i (iAnd a b)) := ev_ibits hx hy (.inr (.inl ⟨rfl, rfl⟩))
theorem ev_ixor (hx : ρ x = .i a) (hy : ρ y = .i b) : EvQ P ⟨dst, .binOp .xor t x y t', ty, pos, af, gu⟩ ρ σ (.i (iXor a b)) := ev_ibits hx hy (.inr (.inr ⟨rfl, rfl⟩))
theorem ev_idiv {op : BinOp} {r : Int} (hx : ρ x = .i a) (hy : ρ y = .i b) (hb : (b == 0) = false) (hr : (op = .quo ∧ r = iQuo a b) ∨ (op = .rem ∧ r = iRem a b)) : EvQ P ⟨dst, .binOp op t x y t', ty, pos, af, gu⟩ ρ σ (.i r) :=
  ⟨fun c => by simp, fun g ρv h _ => by
    obtain ⟨h1, h2⟩ := ops2 (o := ⟨dst, .binOp op t x y t', ty, pos, af, gu⟩) (x := x) (y := y) rfl h
    rw [hx] at h1
    rw [hy] at h2
    have e1 := rel_b h1
    have e2 := rel_b h2
    have hb : b ≠ 0 := by simpa using hb
    refine ⟨.int .i64 r, ?_, .pv (.b rfl)⟩
    rcases hr with ⟨rfl, rfl⟩ | ⟨rfl, rfl⟩ <;> simp [execOp, e1, e2, go_sem, eqGuard, binOp, Op.intDiv, hb, iQuo, iRem]⟩
theorem ev_iquo (hx : ρ x = .i a) (hy : ρ y = .i b) (hb : (b == 0) = false) : EvQ P ⟨dst, .binOp .quo t x y t', ty, pos, af, gu⟩ ρ σ (.i (iQuo a b)) := ev_idiv hx hy hb (.inl ⟨rfl, rfl⟩)
theorem ev_irem (hx : ρ x = .i a) (hy : ρ y = .i b) (hb : (b == 0) = false) : EvQ P ⟨dst, .binOp .rem t x y t', ty, pos, af, gu⟩ ρ σ (.i (iRem a b)) := ev_idiv hx hy hb (.inr ⟨rfl, rfl⟩)
theorem ev_ineg (hx : ρ x = .i a) : EvQ P ⟨dst, .unOp .neg t x, ty, pos, af, gu⟩ ρ σ (.i (w64 (0 - a))) :=
  ⟨fun c => by simp, fun g ρv h _ => by
    have h1 := h x (by simp [Op.operands])
    rw [hx] at h1
    have e1 := rel_b h1
    refine ⟨.int .i64 (w64 (0 - a)), ?_, .pv (.b rfl)⟩
    simp [execOp, e1, go_sem, Op.unary, Op.intArith]⟩
/-- arithmetic of bytes -/
theorem ev_u8arith {op : BinOp} {r : UInt8} {a b : UInt8} (hx : ρ x = .u8 a) (hy : ρ y = .u8 b) (hr : (op = .add ∧ r = a + b) ∨ (op = .sub ∧ r = a - b)) : EvQ P ⟨dst, .binOp op t x y t', ty, pos, af, gu⟩ ρ σ (.u8 r) := by
  have hl1 := a.toNat_lt
  have hl2 := b.toNat_lt
  rcases hr with ⟨rfl, rfl⟩ | ⟨rfl, rfl⟩
  · have := ev_add (P := P) (σ := σ) (dst := dst) (ty := ty) (pos := pos) (af := af) (gu := gu) (t := t) (t' := t') hx hy
    rw [show IntKind.u8.wrap ((a.toNat : Int) + (b.toNat : Int)) = ((a + b).toNat : Int) by
      rw [wrap_u8, UInt8.toNat_add]; unfold toU8; rw [UInt8.toNat_ofNat']; omega] at this
    exact this
  · have := ev_sub (P := P) (σ := σ) (dst := dst) (ty := ty) (pos := pos) (af := af) (gu := gu) (t := t) (t' := t') hx hy
    rw [show IntKind.u8.wrap ((a.toNat : Int) - (b.toNat : Int)) = ((a - b).toNat : Int) by
      rw [wrap_u8, UInt8.toNat_sub]; unfold toU8; rw [UInt8.toNat_ofNat']; omega] at this
    exact this
theorem ev_u8add {a b : UInt8} (hx : ρ x = .u8 a) (hy : ρ y = .u8 b) : EvQ P ⟨dst, .binOp .add t x y t', ty, pos, af, gu⟩ ρ σ (.u8 (a + b)) := ev_u8arith hx hy (.inl ⟨rfl, rfl⟩)
theorem ev_u8sub {a b : UInt8} (hx : ρ x = .u8 a) (hy : ρ y = .u8 b) : EvQ P ⟨dst, .binOp .sub t x y t', ty, pos, af, gu⟩ ρ σ (.u8 (a - b)) := ev_u8arith hx hy (.inr ⟨rfl, rfl⟩)
end
end Go.Proofs.Ytpclhpncmlbccaa

/- The abstract calculus: slices that may be nil or not, make, cap: rules. No program is named. -/
namespace Go.Proofs.Ytpclhpncmlbccaa
open Go.RowKit Go.Lib

variable {E : Env} {fr : Fr} {σ : Sto} {K : Post} {P : Program} {ρ : Operand → AV}
variable {dst : Option Tmp} {ty : TypeId} {pos : String} {af : Array Edge} {gu : Option (Nat × Bool)}
open Classical in
/-- what comes out if a slice is nil (which it can be if it is empty), and if it is not: the same -/
noncomputable def nilE {R : Type} (e : Bool) (A B : Option R) : Option R := if e then (if A = B then B else none) else B
theorem nilE_nil {R : Type} {e : Bool} {A B : Option R} {r : R} (he : e = true) (h : nilE e A B = some r) : A = some r := by
  unfold nilE at h
  rw [if_pos he] at h
  split at h
  · rename_i hab; rw [hab]; exact h
  · cases h
theorem nilE_not {R : Type} {e : Bool} {A B : Option R} {r : R} (h : nilE e A B = some r) : B = some r := by
  unfold nilE at h
  split at h
  · split at h
    · exact h
    · cases h
  · exact h
theorem nilE_same {R : Type} (e : Bool) (A B : Option R) (h : e = true → A = B) : nilE e A B = B := by
  unfold nilE
  split
  · rename_i he; rw [if_pos (h he)]
  · rfl
section
variable {α : Type} {F : α → List PV} {l : List α} {t t' e : TypeId} {ss sb d k : Nat} {sz : Value}
theorem rel_nilcase {g : G} {v : Value} (h : Rel g (.l F l) v) : (l = [] ∧ v = .slice none 0 0) ∨ ∃ a n c, v = .slice (some a) n c := by
  cases h with
  | pv h =>
    obtain ⟨a', cap', size', b, off, val, hv, h0, _⟩ := relP_sl_inv h
    cases a' with
    | none =>
      obtain ⟨rfl, he⟩ := h0 rfl
      left
      have : l = [] := by simpa using he
      subst this
      exact ⟨rfl, hv⟩
    | some a => exact .inr ⟨a, _, _, hv⟩
theorem awpl_nilcmp (ne : Bool) {ops : Array Oper} {rest : List Oper} (hg : gu = none) (hN : Nat.ble (k + 1) E.N = true) (hd : fr.get d = .l F l) (ht : TyOk E.P t ss sb sz (.slice e))
    (h1 : l.isEmpty = true → AWPL E ops rest ((k, .bo (!ne)) :: (d, .pv (.sl (some true) [])) :: fr) σ K) (h2 : AWPL E ops rest ((k, .bo ne) :: fr) σ K) :
    AWPL E ops (⟨some k, .binOp (if ne then .neq else .eql) t (.tmp d) (.const (.slice none 0 0)) t', ty, pos, af, gu⟩ :: rest) fr σ K :=
  ⟨fun g a hst => by
    subst hg
    have hv := hst.fr d
    rw [hd] at hv
    have hc : a.eval (.const (.slice none 0 0)) = .slice none 0 0 := rfl
    have hx : a.eval (.tmp d) = a.tmps.getD d undef := rfl
    simp only [wpListIn, Region.wanted, if_true]
    refine ⟨fun _ _ => trivial, ?_⟩
    rw [Oper.semAt_plain _ _ _ (fun c => by simp)]
    rcases rel_nilcase hv with ⟨hl, ev⟩ | ⟨ad, n, c, ev⟩
    · rw [run_nilcmp ne (hx.trans ev) hc ht, Oper.uponIn_value]
      have hst2 := hst.reslot (d := d) (c := .pv (.sl (some true) [])) (by rw [ev]; exact .pv (relP_nil _ _))
      have := (h1 (by rw [hl]; rfl)).go g _ (hst2.put (Nat.le_of_ble_eq_true hN) (c := .bo (!ne)) (v := .bool (!ne)) (.pv (.b rfl)))
      cases ne <;> exact this
    · rw [run_nilcmp ne (hx.trans ev) hc ht, Oper.uponIn_value]
      have := h2.go g _ (hst.put (Nat.le_of_ble_eq_true hN) (c := .bo ne) (v := .bool ne) (.pv (.b rfl)))
      cases ne <;> exact this⟩
theorem awpl_isnil {ops : Array Oper} {rest : List Oper} (hg : gu = none) (hN : Nat.ble (k + 1) E.N = true) (hd : fr.get d = .l F l) (ht : TyOk E.P t ss sb sz (.slice e))
    (h1 : l.isEmpty = true → AWPL E ops rest ((k, .bo true) :: (d, .pv (.sl (some true) [])) :: fr) σ K) (h2 : AWPL E ops rest ((k, .bo false) :: fr) σ K) :
    AWPL E ops (⟨some k, .binOp .eql t (.tmp d) (.const (.slice none 0 0)) t', ty, pos, af, gu⟩ :: rest) fr σ K := awpl_nilcmp false hg hN hd ht h1 h2
theorem awpl_nenil {ops : Array Oper} {rest : List Oper} (hg : gu = none) (hN : Nat.ble (k + 1) E.N = true) (hd : fr.get d = .l F l) (ht : TyOk E.P t ss sb sz (.slice e))
    (h1 : l.isEmpty = true → AWPL E ops rest ((k, .bo false) :: (d, .pv (.sl (some true) [])) :: fr) σ K) (h2 : AWPL E ops rest ((k, .bo true) :: fr) σ K) :
    AWPL E ops (⟨some k, .binOp .neq t (.tmp d) (.const (.slice none 0 0)) t', ty, pos, af, gu⟩ :: rest) fr σ K := awpl_nilcmp true hg hN hd ht h1 h2
end
section
variable {t e : TypeId} {ss sb size bytes k : Nat} {sz zero : Value} {d : TypeDesc}
/-- S{}: a slice without elements and without room -/
theorem opTo_litz (hN : Nat.ble (k + 1) E.N = true) (ht : TyOk E.P t ss sb sz (.slice e)) (he : TyOk E.P e size bytes zero d) :
    OpTo E ⟨some k, .buildSlice t 0 #[], ty, pos, af, gu⟩ fr σ ((k, .z0) :: fr) σ :=
  ⟨fun g a K Q hst hK => by
    refine ⟨fun _ _ => trivial, ?_⟩
    rw [Oper.semAt_plain _ _ _ (fun c => by simp)]
    have hrun : (execOp a.eval ⟨some k, .buildSlice t 0 #[], ty, pos, af, gu⟩).run E.P g.w = .ok (.value (.slice (some ⟨g.w.heap.size, 0, none⟩) 0 0)) (g.w.alloc (.cells #[] e)) := by
      show Sem.run E.P (do let v ← Instr.buildSlice t 0 (Array.map (fun (x : Nat × Operand) => (x.1, a.eval x.2)) #[]); pure (Next.value v)) g.w = _
      simp only [Instr.buildSlice, underlying, program, Sem.run_bind, Sem.run, ht.u, he.sizeOf, Result.andThen_ok, Sem.run_pure, Nat.zero_mul, if_true]
      rw [if_neg (by simp)]
      have e1 : (Array.map (fun (x : Nat × Operand) => (x.1, a.eval x.2)) #[]).toList = [] := by simp
      have harr : ∀ z : Array Value, Array.map (fun x => z[x % z.size]!) (Array.range 0) = #[] := by intro z; simp
      simp only [Sem.run_bind, Sem.run_pure, Result.andThen_ok, e1, Instr.fill, harr]
      rfl
    rw [hrun, Oper.uponIn_value]
    have hold := old_alloc g #[] e 0 0 (g.loc 0)
    have hwf := wf_alloc hst.so.wf #[] e 0 0 (g.loc 0)
    have hst' := hst.grow hold hwf (fun q _ => by show (if q = 0 then g.loc 0 else g.loc q) = g.loc q; split <;> simp_all)
    exact hK _ _ (hst'.put (Nat.le_of_ble_eq_true hN) (.z0 _))⟩
end
/-- not zero -/
def nz (b : Int) : Option Bool := if b == 0 then none else some true
theorem nz_spec {b : Int} {r : Bool} (h : nz b = some r) : (b == 0) = false := by
  unfold nz at h
  cases hb : b == 0 with
  | true => rw [hb] at h; cases h
  | false => rfl
end Go.Proofs.Ytpclhpncmlbccaa

/- The whole of the calculus. -/
namespace Go.Proofs.Ytpclhpncmlbccaa
theorem bool_split {C : Prop} (b : Bool) (h1 : b = true → C) (h2 : b = false → C) : C := by
  cases b
  · exact h2 rfl
  · exact h1 rfl
/-- less is known, among operations -/
theorem awpl_le {E : Env} {fr fr' : Fr} {σ σ' : Sto} {K : Post} {ops : Array Oper} {ol : List Oper} (hf : FrLe fr fr') (hs : StoLe σ σ') (h : AWPL E ops ol fr' σ' K) : AWPL E ops ol fr σ K := ⟨fun g a hst => h.go g a (hst.le hf hs)⟩
theorem elim_l {α β γ : Type} {f : α → γ} {g : β → γ} {a : α} {x : γ} (h : Sum.elim f g (.inl a) = x) : f a = x := h
theorem elim_r {α β γ : Type} {f : α → γ} {g : β → γ} {a : β} {x : γ} (h : Sum.elim f g (.inr a) = x) : g a = x := h
section
variable {E : Env} {fr : Fr} {σ : Sto} {K : Post} {ops : Array Oper}
/-- steps that follow one another, in one -/
theorem oq {o : Oper} {rest : List Oper} {d : Nat} {c : AV} (hg : o.guard = none) (hd : o.dst = some d) (hN : Nat.ble (d + 1) E.N = true) (h : EvQ E.P o fr.ev σ c) (hr : AWPL E ops rest ((d, c) :: fr) σ K) : AWPL E ops (o :: rest) fr σ K := awpl_op hg (opTo_q hd hN h) hr
theorem xr {id : Nat} {l : List Oper} {y : Code} (h : AWPL E l.toArray l fr σ (kthen E y K)) : AWP E (.seq (.region id l.toArray false) y) fr σ K := awp_seq (awp_region h)
theorem nk {y : Code} (h : AWP E y fr σ K) : AWPL E ops [] fr σ (kthen E y K) := awpl_nil (kthen_normal h)
theorem nx {id : Nat} {l : List Oper} {y : Code} (h : AWPL E l.toArray l fr σ (kthen E y K)) : AWPL E ops [] fr σ (kthen E (.seq (.region id l.toArray false) y) K) := nk (xr h)
theorem nr {id : Nat} {l : List Oper} (h : AWPL E l.toArray l fr σ K) : AWPL E ops [] fr σ (kthen E (.region id l.toArray false) K) := nk (awp_region h)
theorem sk {y : Code} (h : AWP E y fr σ K) : AWP E .skip fr σ (kthen E y K) := awp_skip (kthen_normal h)
theorem sx {id : Nat} {l : List Oper} {y : Code} (h : AWPL E l.toArray l fr σ (kthen E y K)) : AWP E .skip fr σ (kthen E (.seq (.region id l.toArray false) y) K) := sk (xr h)
end
/-- several ways lead to the rest -/
theorem awpl_cut {E : Env} {fr : Fr} {σ : Sto} {K : Post} {ops : Array Oper} {o : Oper} {rest : List Oper} {J : Type} (frs : J → Fr) (stos : J → Sto) (Q : J → Prop)
    (h1 : (∀ j fr' σ', Q j → FrLe fr' (frs j) → StoLe σ' (stos j) → AWPL E ops rest fr' σ' K) → AWPL E ops (o :: rest) fr σ K) (h2 : ∀ j, Q j → AWPL E ops rest (frs j) (stos j) K) : AWPL E ops (o :: rest) fr σ K :=
  h1 fun j _ _ hq hf hs => awpl_le hf hs (h2 j hq)
end Go.Proofs.Ytpclhpncmlbccaa

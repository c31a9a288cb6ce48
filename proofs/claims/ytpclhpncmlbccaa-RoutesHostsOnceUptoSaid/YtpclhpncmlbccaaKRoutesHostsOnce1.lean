/- Part 1 of the proof of the law RoutesHostsOnce: what it needs. -/
import Derived.Test.YtpclhpncmlbccaaC4
import Derived.Laws.MakeOwn
import Derived.Test.YtpclhpncmlbccaaProg
import Derived.Lib.IndexMore
import Derived.Lib.IndexAny
import Derived.Lib.Atoi
import Derived.Lib.Join
import Derived.Lib.Repeat
import Derived.Lib.Split
import Derived.Lib.FieldsP
import Derived.Lib.Strings
import Derived.Shelf.Strings.SlTrimAscii
set_option linter.unusedVariables false
set_option linter.unusedSimpArgs false
/- The abstract calculus: contracts of methods: the variable that the receiver points to, and the rows that it owns. No program is named. -/
namespace Go.Proofs.Ytpclhpncmlbccaa
open Go.RowKit

theorem Sto.get_mem {σ : Sto} {o : Nat} {ob : AO} (h : σ.get o = some ob) : (o, ob) ∈ σ := by
  induction σ with
  | nil => simp [Sto.get] at h
  | cons x s ih =>
    obtain ⟨k, a⟩ := x
    rw [Sto.get_cons] at h
    split at h
    · rename_i hk; cases h; subst hk; exact List.mem_cons_self
    · exact List.mem_cons_of_mem _ (ih h)
theorem Sto.get_append (s1 s2 : Sto) (o : Nat) : Sto.get (s1 ++ s2) o = (Sto.get s1 o).or (Sto.get s2 o) := by
  induction s1 with
  | nil => simp [Sto.get]
  | cons x s ih =>
    obtain ⟨k, a⟩ := x
    rw [List.cons_append, Sto.get_cons, Sto.get_cons, ih]
    split <;> rfl

theorem cont_mem {l : List Nat} {a : Nat} (h : l.contains a = true) : a ∈ l := by simpa using h

/-! ### what a method may own: plain cells, rows -/
def AV.okS (rows : List Nat) : AV → Bool
  | .pv _ => true
  | .hs r _ => rows.contains r
  | _ => false
def AO.okS (rows : List Nat) : AO → Bool
  | .cells cs => cs.all (AV.okS rows)
  | .row _ _ _ _ => true
  | .opq _ _ _ => true
  | _ => false
def Sto.okS (O : Nat) (rows : List Nat) (σ : Sto) : Bool := σ.all fun p => (Nat.beq p.1 O || rows.contains p.1) && p.2.okS rows
theorem AV.okS_has {rows : List Nat} {c : AV} {k : Nat} (h : c.okS rows = true) (hk : c.has k = true) : k ∈ rows := by
  unfold AV.okS at h
  split at h
  · simp [AV.has] at hk
  · have := Nat.eq_of_beq_eq_true hk
    subst this
    exact cont_mem h
  · cases h
theorem AV.hasL_mem {k : Nat} {cs : List AV} (h : AV.hasL k cs = true) : ∃ c ∈ cs, c.has k = true := by
  induction cs with
  | nil => simp [AV.hasL] at h
  | cons c cs ih =>
    unfold AV.hasL at h
    simp only [Bool.or_eq_true] at h
    rcases h with h | h
    · exact ⟨c, List.mem_cons_self, h⟩
    · obtain ⟨d, hd, h⟩ := ih h
      exact ⟨d, List.mem_cons_of_mem _ hd, h⟩
theorem AO.okS_has {rows : List Nat} {ob : AO} {k : Nat} (h : ob.okS rows = true) (hk : ob.has k = true) : k ∈ rows := by
  cases ob with
  | cells cs =>
    obtain ⟨c, hc, hck⟩ := AV.hasL_mem hk
    exact AV.okS_has (List.all_eq_true.1 h c hc) hck
  | row => simp [AO.has] at hk
  | opq => simp [AO.has] at hk
  | _ => cases h
theorem Sto.okS_get {O : Nat} {rows : List Nat} {σ : Sto} (h : σ.okS O rows = true) {o : Nat} {ob : AO} (ho : σ.get o = some ob) : (o = O ∨ o ∈ rows) ∧ ob.okS rows = true := by
  have := List.all_eq_true.1 h _ (Sto.get_mem ho)
  simp only [Bool.and_eq_true, Bool.or_eq_true] at this
  exact ⟨this.1.imp Nat.eq_of_beq_eq_true cont_mem, this.2⟩
/-- the objects of a store, in blocks of their own -/
structure Own (g : G) (σ : Sto) : Prop where
  obj : ∀ o ob, σ.get o = some ob → RelO g o ob
  apart : ∀ o o' ob ob' b, σ.get o = some ob → σ.get o' = some ob' → ob.own (g.loc o) b → ob'.own (g.loc o') b → o = o'
  low : ∀ o ob b, σ.get o = some ob → ob.own (g.loc o) b → ¬ GlB b
def SB (g : G) (σ : Sto) (b : Nat) : Prop := ∃ o ob, σ.get o = some ob ∧ ob.own (g.loc o) b
/-- a contract of a method: the objects of σ0 become those of σ1; the rows may move -/
structure RunS (P : Program) (f : FuncId) (args : List AV) (σ0 : Sto) (r : AV) (σ1 : Sto) (O : Nat) (rows : List Nat) : Prop where
  ok : ∃ fn c, FnOk P f fn c
  ok0 : σ0.okS O rows = true
  ok1 : σ1.okS O rows = true
  run : ∀ g vs, Wf g → Gl g → Own g σ0 → RelArgs g args vs → CallsIn (fen none) 0 P f vs g.w fun e w' => ∃ g' v, g'.w = w' ∧ (∀ k, k ∉ rows → g'.loc k = g.loc k) ∧ Old (SB g σ0) g g' ∧ Wf g' ∧ e = .returned v ∧ Rel g' r v ∧
    (∀ o ob, σ1.get o = some ob → RelO g' o ob) ∧ (∀ o o' ob ob' b, σ1.get o = some ob → σ1.get o' = some ob' → ob.own (g'.loc o) b → ob'.own (g'.loc o') b → o = o') ∧
    (∀ o ob b, σ1.get o = some ob → ob.own (g'.loc o) b → g.w.heap.size ≤ b ∨ SB g σ0 b)

variable {P : Program} {σ : Sto} {dst : Option Tmp} {ty : TypeId} {pos : String} {af : Array Edge} {gu : Option (Nat × Bool)} {E : Env} {fr : Fr} {K : Post}

/-! ### a method's contract from a walk -/
theorem relO_mono0 {g g' : G} {o : Nat} {ob : AO} {rows : List Nat} (hk : ob.okS rows = true) (h : RelO g o ob) (hx : Ext0 g.w g.u g'.w g'.u) (hl : g'.loc o = g.loc o) (hh : ∀ k ∈ rows, g'.loc k = g.loc k)
    (hb : ∀ (b : Nat) (vs : Array Value) (t : TypeId) (fz : Nat × Nat), g.w.heap[b]? = some (Obj.cells vs t fz) → g'.w.heap[b]? = g.w.heap[b]?) (hu : g'.u = g.u) : RelO g' o ob := by
  cases h with
  | @cells cs b t vs h1 h2 h3 h4 h5 h6 =>
    exact .cells (hl.trans h1) ((hb _ _ _ _ h2).trans h2) h3 (by rw [hu]; exact h4) h5 fun i c hi => (h6 i c hi).mono0 hx fun k hck => hh k (AV.okS_has (List.all_eq_true.1 hk c (List.mem_of_getElem? hi)) hck)
  | nil h1 => exact .nil (hl.trans h1)
  | @row e mu size elems b off cap vs h1 h2 h3 h3' h4 h5 h6 h7 h9 =>
    exact .row (hl.trans h1) ((hb _ _ _ _ h2).trans h2) h3 h3' h4 h5 (by rw [hu]; exact h6) (by rw [hu]; exact h7) fun i j x c hi hj => (h9 i j x c hi hj).mono0 hx
  | @opq t t1 n Q b vs h1 h2 h3 h4 h5 => exact .opq (hl.trans h1) ((hb _ _ _ _ h2).trans h2) h3 (by rw [hu]; exact h4) fun w' u' hx' => h5 w' u' (hx.trans hx')
  | _ => cases hk
def KretS (P : Program) (fn : Func) (r hc : AV) (H : Nat) (T : Array Value) (σ1 : Sto) : Post := fun e fr σ => (e = .ret ∨ e = .normal) ∧ (∃ cs, ResL P fr σ fn.results.toList cs ∧ retAV cs = r) ∧ StoLe σ ((H, .hold hc (T.getD 0 undef)) :: σ1)
theorem mono_kretS {fn : Func} {r hc : AV} {H : Nat} {T : Array Value} {σ1 : Sto} : Mono (KretS P fn r hc H T σ1) := fun x fr σ fr' σ' hf hs ⟨h1, ⟨cs, h2, h2'⟩, h3⟩ => ⟨h1, ⟨cs, h2.le hf hs, h2'⟩, stoLe_trans hs h3⟩
theorem run_of_awpS0 {f : FuncId} {fn : Func} {c : Code} (hok : FnOk P f fn c) {args : List AV} {r hc : AV} {σ0 σ1 : Sto} {O H : Nat} {rows : List Nat} (hN : Nat.ble args.length fn.ntmps = true) (hr : ∀ k, r.has k = true → k ∈ rows)
    (h0 : (args[0]? = some hc ∧ ∀ (g g' : G) (v : Value) (ob : AO), (∀ o ob, σ0.get o = some ob → RelO g o ob) → σ1.get O = some ob → RelO g' O ob → Rel g hc v → Rel g' hc v → g'.loc O = g.loc O) ∨ (hc = .any ∧ Sto.get σ1 O = none))
    (k0 : σ0.okS O rows = true) (k1 : σ1.okS O rows = true) (hH : Sto.get σ0 H = none) (hH1 : Sto.get σ1 H = none)
    (h : ∀ g0 (hg : Gl g0) (S : Nat → Prop) (sg : ∀ k, GlB k → ¬ S k) (T : Array Value), AWP ⟨P, none, g0, fn.ntmps, false, hg, S, sg⟩ c (frameFrom 0 args) ((H, .hold hc (T.getD 0 undef)) :: σ0) (KretS P fn r hc H T σ1)) : RunS P f args σ0 r σ1 O rows := by
  refine ⟨⟨fn, c, hok⟩, k0, k1, fun g vs hw hgl hown ⟨hsz, ha⟩ => ?_⟩
  have hN := Nat.le_of_ble_eq_true hN
  have hget0 : ∀ o ob, Sto.get ((H, AO.hold hc (vs.getD 0 undef)) :: σ0) o = some ob → (o = H ∧ ob = .hold hc (vs.getD 0 undef)) ∨ (o ≠ H ∧ σ0.get o = some ob) := by
    intro o ob ho
    rw [Sto.get_cons] at ho
    split at ho
    · rename_i hk; cases ho; exact .inl ⟨hk.symm, rfl⟩
    · rename_i hk; exact .inr ⟨Ne.symm hk, ho⟩
  refine callsIn_of_wp_marks hok.f hok.b trivial ?_
  refine wpIn_mono ((h g hgl (SB g σ0) (fun k hk ⟨o, ob, h1, h2⟩ => hown.low o ob k h1 h2 hk) vs).go g _ ⟨fun d => ?_, by simp; omega, ⟨Dok.nil _ _, fun _ => rfl⟩, ⟨?_, ?_, ?_, Old.refl _ g, hw⟩⟩) ?_
  · rw [frameFrom_get]
    simp only [Nat.zero_le, if_true, Nat.sub_zero]
    cases hc : args[d]? with
    | none => exact .any _
    | some c =>
      have hlt : d < vs.size := by rw [hsz]; exact (List.getElem?_eq_some_iff.1 hc).1
      have := ha d c hc
      rw [Array.getD_eq_getD_getElem?, Array.getElem?_append_left hlt, ← Array.getD_eq_getD_getElem?]
      exact this
  · intro o ob ho
    rcases hget0 o ob ho with ⟨rfl, rfl⟩ | ⟨_, ho⟩
    · rcases h0 with ⟨h0, _⟩ | ⟨rfl, _⟩
      · exact .hold (ha 0 _ h0)
      · exact .hold (.any _)
    · exact hown.obj o ob ho
  · intro o o' ob ob' b h1 h2 h3 h4
    rcases hget0 o ob h1 with ⟨rfl, rfl⟩ | ⟨_, h1⟩
    · cases h3
    · rcases hget0 o' ob' h2 with ⟨rfl, rfl⟩ | ⟨_, h2⟩
      · cases h4
      · exact hown.apart o o' ob ob' b h1 h2 h3 h4
  · intro o ob b h1 h2
    rcases hget0 o ob h1 with ⟨rfl, rfl⟩ | ⟨_, h1⟩
    · cases h2
    · exact .inr ⟨o, ob, h1, h2⟩
  · rintro e a w' ⟨g', fr', σ', rfl, hst, he, ⟨cs, hres, rfl⟩, hle⟩
    obtain ⟨bs, hds, hnd, hbs⟩ := hst.df.ok
    have hle1 : ∀ o ob, σ1.get o = some ob → ∃ ob', σ'.get o = some ob' ∧ RelO g' o ob ∧ ∀ l, ob.own l = ob'.own l := by
      intro o ob ho
      have hne : o ≠ H := by rintro rfl; rw [hH1] at ho; cases ho
      have hg : Sto.get ((H, AO.hold hc (vs.getD 0 undef)) :: σ1) o = some ob := by rw [Sto.get_cons, if_neg (Ne.symm hne)]; exact ho
      obtain ⟨ob', h1, h2⟩ := hle.some hg
      exact ⟨ob', h1, hle.obj hst.so.obj o ob hg, fun l => (h2 l).symm⟩
    -- the variable is where it was
    have hO : (∃ ob, σ1.get O = some ob) → g'.loc O = g.loc O := by
      rintro ⟨ob, hob⟩
      rcases h0 with ⟨h0, hloc⟩ | ⟨_, h0⟩
      case inr => rw [h0] at hob; cases hob
      have hh := hle H (.hold hc (vs.getD 0 undef)) (by rw [Sto.get_cons, if_pos rfl])
      have hh : σ'.get H = some (.hold hc (vs.getD 0 undef)) := by
        rcases hh with hh | ⟨cs, _, hh⟩
        · exact hh
        · cases hh
      have h1 := hst.so.obj H _ hh
      obtain ⟨_, _, hro, _⟩ := hle1 O ob hob
      cases h1 with
      | hold h1 => exact hloc g g' _ ob hown.obj hob hro (ha 0 _ h0) h1
    have key : ∀ w', Took g'.w bs w' → ∃ v, (results fn a.tmps).run P w' = .ok v w' ∧ ∃ g'' v', g''.w = w' ∧ (∀ k, k ∉ rows → g''.loc k = g.loc k) ∧ Old (SB g σ0) g g'' ∧ Wf g'' ∧ Ending.returned v = .returned v' ∧ Rel g'' (retAV cs) v' ∧
        (∀ o ob, σ1.get o = some ob → RelO g'' o ob) ∧ (∀ o o' ob ob' b, σ1.get o = some ob → σ1.get o' = some ob' → ob.own (g''.loc o) b → ob'.own (g''.loc o') b → o = o') ∧
        (∀ o ob b, σ1.get o = some ob → ob.own (g''.loc o) b → g.w.heap.size ≤ b ∨ SB g σ0 b) := by
      intro w' ht
      have hcellb : ∀ (k : Nat) (vs : Array Value) (t : TypeId) (fz : Nat × Nat), g'.w.heap[k]? = some (Obj.cells vs t fz) → w'.heap[k]? = g'.w.heap[k]? := by
        intro k vs t fz hk
        refine ht.block k fun hx => ?_
        rw [(hbs k hx).2] at hk; cases hk
      have hx0 : Ext0 g'.w g'.u w' g'.u := ⟨Nat.le_of_eq ht.size.symm, fun _ _ => Nat.le_refl _, fun k i hk hi => by
        by_cases hkb : k ∈ bs
        · simp [World.cell?, (hbs k hkb).2, ht.took k hkb]
        · simp only [World.cell?]; rw [ht.block k hkb]⟩
      obtain ⟨v, h1, h2⟩ := results_run (P := P) (g := ⟨w', g'.u, g'.loc⟩) hres (fun d => (hst.fr d).mono0 hx0 (fun _ _ => rfl)) (fun k cs' hk => by
        cases hst.so.obj k _ hk with
        | cells q1 q2 q3 q4 q5 q6 => exact .cells q1 ((hcellb _ _ _ _ q2).trans q2) q3 q4 q5 fun i c hi => (q6 i c hi).mono0 hx0 (fun _ _ => rfl))
      have hloc : ∀ o ob, σ1.get o = some ob → (if o ∈ rows then g'.loc o else g.loc o) = g'.loc o := by
        intro o ob ho
        rcases (Sto.okS_get k1 ho).1 with rfl | hin
        · split
          · rfl
          · exact (hO ⟨ob, ho⟩).symm
        · rw [if_pos hin]
      refine ⟨v, h1, ⟨w', g'.u, fun k => if k ∈ rows then g'.loc k else g.loc k⟩, v, rfl, fun k hk => if_neg hk, ⟨ht.os.trans hst.so.old.os, ht.tape.trans hst.so.old.tape, ht.output.trans hst.so.old.output, ⟨by rw [ht.size]; exact hst.so.old.ext.size, hst.so.old.ext.pub, fun k i hk hi => ?_, fun r' hr' => ?_⟩, fun k hk hs => ?_⟩, fun k hk => hst.so.wf k (by rw [← ht.size]; exact hk), rfl,
        Rel.mono (g := ⟨w', g'.u, g'.loc⟩) (g' := ⟨w', g'.u, fun k => if k ∈ rows then g'.loc k else g.loc k⟩) (Ext.refl w' g'.u) h2 (fun k hk => if_pos (hr k hk)), ?_, ?_, ?_⟩
      · have hkb : k ∉ bs := fun hx => by have : g.w.heap.size ≤ k := (hbs k hx).1; omega
        simp only [World.cell?]
        rw [ht.block k hkb]
        exact hst.so.old.ext.cell k i hk hi
      · have hkb : r' ∉ bs := fun hx => by have : g.w.heap.size ≤ r' := (hbs r' hx).1; have := blk_lt hr'; omega
        rw [ht.block r' hkb]
        exact hst.so.old.ext.df r' hr'
      · have hkb : k ∉ bs := fun hx => by have : g.w.heap.size ≤ k := (hbs k hx).1; omega
        rw [ht.block k hkb]
        exact hst.so.old.block k hk hs
      · intro o ob ho
        obtain ⟨_, _, hro, _⟩ := hle1 o ob ho
        exact relO_mono0 (g := g') (g' := ⟨w', g'.u, fun k => if k ∈ rows then g'.loc k else g.loc k⟩) (Sto.okS_get k1 ho).2 hro hx0 (hloc o ob ho) (fun k hk => if_pos hk) hcellb rfl
      · intro o o' ob ob' b q1 q2 q3 q4
        simp only [hloc o ob q1] at q3
        simp only [hloc o' ob' q2] at q4
        obtain ⟨_, p1, _, e1⟩ := hle1 o ob q1
        obtain ⟨_, p2, _, e2⟩ := hle1 o' ob' q2
        rw [e1] at q3
        rw [e2] at q4
        exact hst.so.apart o o' _ _ b p1 p2 q3 q4
      · intro o ob b q1 q2
        simp only [hloc o ob q1] at q2
        obtain ⟨_, p1, _, e1⟩ := hle1 o ob q1
        rw [e1] at q2
        exact hst.so.mine o _ b p1 q2
    rcases he with rfl | rfl
    · show LeavesInM _ _ _ _ _ _ _ _ _
      rw [hds]
      exact leaves_marks bs g'.w hnd (fun r' hr' => (hbs r' hr').2) key
    · show LeavesInM _ _ _ _ _ _ _ _ _
      rw [hds]
      exact leaves_marks bs g'.w hnd (fun r' hr' => (hbs r' hr').2) key

/-! ### functions that write into a row that is handed to them -/
theorem rel_hs_inv {g : G} {O : Nat} {v : Value} (h : Rel g (.hs O 0) v) : (g.loc O = .nilRow ∧ ∃ a, v = .slice a 0 0) ∨ ∃ b off cap size n a, g.loc O = .row b off cap size n ∧ (0 < cap → a = ⟨b, off * size, none⟩) ∧ v = .slice (some a) n cap := by
  cases h with
  | hsNil a hl => exact .inl ⟨hl, a, rfl⟩
  | hs hl ha => exact .inr ⟨_, _, _, _, _, _, hl, ha, rfl⟩
theorem relO_row_inv {g : G} {O : Nat} {e : TypeId} {mu : Bool} {size : Nat} {l : List (List PV)} (h : RelO g O (.row e mu size l)) : (g.loc O = .nilRow ∧ l = []) ∨ ∃ b off cap, g.loc O = .row b off cap size l.length ∧ l.length ≤ cap := by
  cases h with
  | nil hl => exact .inl ⟨hl, rfl⟩
  | row h1 h2 h3 h4 h5 => exact .inr ⟨_, _, _, h1, h5⟩
theorem rel_rowloc {g g' : G} {O size : Nat} {e e' : TypeId} {mu mu' : Bool} {l l' : List (List PV)} {v : Value} (h1 : Rel g (.hs O 0) v) (h2 : Rel g' (.hs O 0) v) (h3 : RelO g O (.row e mu size l)) (h4 : RelO g' O (.row e' mu' size l')) (hne : l ≠ []) (hs : Nat.ble 1 size = true) : g'.loc O = g.loc O := by
  have hs := Nat.le_of_ble_eq_true hs
  rcases relO_row_inv h3 with ⟨_, h3⟩ | ⟨b, off, cap, q1, q2⟩
  · exact absurd h3 hne
  have hpos : 0 < l.length := List.length_pos_iff.2 hne
  rcases rel_hs_inv h1 with ⟨h1, _⟩ | ⟨b1, off1, cap1, size1, n1, a1, e1, ha1, hv⟩
  · rw [q1] at h1; cases h1
  rw [q1] at e1
  cases e1
  have ha1 := ha1 (by omega)
  subst ha1
  rcases rel_hs_inv h2 with ⟨_, a, hv2⟩ | ⟨b2, off2, cap2, size2, n2, a2, e2, ha2, hv2⟩
  · rw [hv] at hv2
    injection hv2 with _ hn _
    have : l.length = 0 := by exact_mod_cast hn
    omega
  · rw [hv] at hv2
    injection hv2 with ha hn hc
    injection ha with ha
    subst hn; subst hc
    have ha2 := ha2 (by omega)
    rw [← ha] at ha2
    injection ha2 with hb ho _
    rcases relO_row_inv h4 with ⟨h4, _⟩ | ⟨b4, off4, cap4, q4, _⟩
    · rw [e2] at h4; cases h4
    · rw [e2] at q4
      injection q4 with p1 p2 p3 p4 p5
      subst p4
      have : off = off2 := Nat.eq_of_mul_eq_mul_right (by omega) ho
      rw [e2, q1, hb, this]
theorem rowne {α β : Type} {l : List α} {x : Option β} {r : β} (h : (bif l.isEmpty then none else x) = some r) : (∀ {γ : Type} (F : α → γ), l.map F ≠ []) ∧ x = some r := by
  cases l with
  | nil => cases h
  | cons a l => exact ⟨fun F => by simp, h⟩

/-! ### the call -/
def Sto.dels (ids : List Nat) : Sto → Sto
  | [] => []
  | (k, a) :: l => bif ids.contains k then Sto.dels ids l else (k, a) :: Sto.dels ids l
theorem Sto.get_dels (ids : List Nat) (σ : Sto) (o : Nat) : (σ.dels ids).get o = if o ∈ ids then none else σ.get o := by
  induction σ with
  | nil => simp [Sto.dels, Sto.get]
  | cons x l ih =>
    obtain ⟨k, a⟩ := x
    unfold Sto.dels
    cases hc : ids.contains k with
    | true =>
      have hk : k ∈ ids := by simpa using hc
      rw [cond_true, ih, Sto.get_cons]
      by_cases ho : o ∈ ids
      · rw [if_pos ho, if_pos ho]
      · rw [if_neg ho, if_neg ho, if_neg (by rintro rfl; exact ho hk)]
    | false =>
      have hk : k ∉ ids := by simpa using hc
      rw [cond_false, Sto.get_cons, Sto.get_cons, ih]
      by_cases ho : k = o
      · subst ho; simp [hk]
      · rw [if_neg ho, if_neg ho]
def AV.clrs (rows : List Nat) (c : AV) : AV := bif rows.any (fun r => c.has r) then .any else c
def Fr.clrs (rows : List Nat) : Fr → Fr
  | [] => []
  | (k, a) :: l => (k, a.clrs rows) :: Fr.clrs rows l
def AO.clrs (rows : List Nat) : AO → AO
  | .cells cs => .cells (cs.map (AV.clrs rows))
  | .hold c v => .hold (c.clrs rows) v
  | o => o
def Sto.clrs (rows : List Nat) : Sto → Sto
  | [] => []
  | (k, a) :: l => (k, a.clrs rows) :: Sto.clrs rows l
theorem Fr.get_clrs (rows : List Nat) (fr : Fr) (d : Nat) : (fr.clrs rows).get d = (fr.get d).clrs rows := by
  induction fr with
  | nil => unfold Fr.clrs Fr.get AV.clrs; cases rows.any (fun r => AV.has r AV.any) <;> rfl
  | cons x l ih =>
    obtain ⟨k, a⟩ := x
    simp only [Fr.clrs, Fr.get_cons, ih]
    split <;> rfl
theorem Sto.get_clrs (rows : List Nat) (σ : Sto) (o : Nat) : (σ.clrs rows).get o = (σ.get o).map (AO.clrs rows) := by
  induction σ with
  | nil => rfl
  | cons x l ih =>
    obtain ⟨k, a⟩ := x
    simp only [Sto.clrs, Sto.get_cons, ih]
    split <;> rfl
theorem rel_clrs {g g' : G} {rows : List Nat} (hx : Ext g.w g.u g'.w g'.u) (hl : ∀ k, k ∉ rows → g'.loc k = g.loc k) {c : AV} {v : Value} (h : Rel g c v) : Rel g' (c.clrs rows) v := by
  unfold AV.clrs
  cases hc : rows.any (fun r => c.has r) with
  | true => exact .any _
  | false => exact h.mono hx fun k hk => hl k fun hin => List.any_eq_false.1 hc k hin hk
theorem AO.own_clrs (rows : List Nat) (ob : AO) (l : Loc) : (ob.clrs rows).own l = ob.own l := by cases ob <;> rfl
theorem relO_clrs {g g' : G} {o : Nat} {ob : AO} {rows : List Nat} (hro : RelO g o ob) (hx : Ext g.w g.u g'.w g'.u) (hl : ∀ k, k ∉ rows → g'.loc k = g.loc k) (ho : o ∉ rows)
    (hb : ∀ b, ob.own (g.loc o) b → g'.w.heap[b]? = g.w.heap[b]? ∧ g'.u b = g.u b) : RelO g' o (ob.clrs rows) := by
  cases hro with
  | @cells cs b t vs h1 h2 h3 h4 h5 h6 =>
    obtain ⟨b1, b2⟩ := hb b (by rw [h1]; rfl)
    refine .cells ((hl o ho).trans h1) (b1.trans h2) (by simpa using h3) (b2.trans h4) h5 fun i c hi => ?_
    simp only [List.getElem?_map, Option.map_eq_some_iff] at hi
    obtain ⟨c', hc', rfl⟩ := hi
    exact rel_clrs hx hl (h6 i c' hc')
  | nil h1 => exact .nil ((hl o ho).trans h1)
  | @row e mu size elems b off cap vs h1 h2 h3 h3' h4 h5 h6 h7 h9 =>
    obtain ⟨b1, b2⟩ := hb b (by rw [h1]; rfl)
    exact .row ((hl o ho).trans h1) (b1.trans h2) h3 h3' h4 h5 (by rw [b2]; exact h6) (by rw [b2]; exact h7) fun i j x c hi hj => (h9 i j x c hi hj).mono hx
  | hold h1 => exact .hold (rel_clrs hx hl h1)
  | sus h1 => exact .sus (h1.mono hx)
  | @lp L b h1 h2 =>
    obtain ⟨b1, b2⟩ := hb b (by rw [h1]; rfl)
    exact .lp ((hl o ho).trans h1) (b1.trans h2)
  | @it s pos b h1 h2 h3 =>
    obtain ⟨b1, b2⟩ := hb b (by rw [h1]; rfl)
    exact .it ((hl o ho).trans h1) (b1.trans h2) (b2.trans h3)
  | @buf l e b cap vs h1 h2 h3 h4 h5 h6 =>
    obtain ⟨b1, b2⟩ := hb b (by rw [h1]; rfl)
    exact .buf ((hl o ho).trans h1) (b1.trans h2) h3 h4 (b2.trans h5) h6
  | @mapo ag es b clock ents h1 h2 h3 h4 h5 =>
    obtain ⟨b1, b2⟩ := hb b (by rw [h1]; rfl)
    exact .mapo ((hl o ho).trans h1) (b1.trans h2) (b2.trans h3) h4 fun i k c hi => by
      obtain ⟨x, e1, e2, e3⟩ := h5 i k c hi
      exact ⟨x, e1, e2, e3.mono hx⟩
  | @opq t t1 n Q b vs h1 h2 h3 h4 h5 =>
    obtain ⟨b1, b2⟩ := hb b (by rw [h1]; rfl)
    exact .opq ((hl o ho).trans h1) (b1.trans h2) h3 (b2.trans h4) fun w' u' hx' => h5 w' u' (hx.to0.trans hx')
  | nrowNil h1 => exact .nrowNil ((hl o ho).trans h1)
  | nrow h1 h2 h3 h4 h5 h6 h7 h8 h9 h10 h11 h12 => exact (RelO.nrow h1 h2 h3 h4 h5 h6 h7 h8 h9 h10 h11 h12).mono hx (hl o ho) (fun _ hk => by cases hk) hb
  | mapr h1 h2 h3 h4 h5 h6 h7 => exact (RelO.mapr h1 h2 h3 h4 h5 h6 h7).mono hx (hl o ho) (fun _ hk => by cases hk) hb
theorem gl_lt {g : G} (h : Gl g) {k : Nat} (hk : GlB k) : k < g.w.heap.size := by
  rcases hk with ⟨p, hp, rfl⟩ | hk
  · obtain ⟨t, fz, h1⟩ := h.2.1 p hp
    exact blk_lt h1
  · obtain ⟨tp, x, t, fz, h1⟩ := h.2.2 k hk
    exact blk_lt h1
theorem opTo_callS {f : FuncId} {k : Nat} {xs : List Operand} {ats : Array TypeId} {args : List AV} {r : AV} {σ0 σ1 : Sto} {O : Nat} {rows : List Nat} (hr : RunS E.P f args σ0 r σ1 O rows) (hN : Nat.ble (k + 1) E.N = true) (ha : xs.map (fun x => (fr.ev x).weak) = args) (hle : StoLe σ σ0) :
    OpTo E ⟨some k, .call ⟨.value (.func f), xs.toArray, ats⟩, ty, pos, af, gu⟩ fr σ ((k, r) :: fr.clrs rows) (σ1 ++ (σ.dels (O :: rows)).clrs rows) :=
  ⟨fun g a K Q hst hK => by
    obtain ⟨fn, c, hok⟩ := hr.ok
    refine ⟨fun _ _ => trivial, ?_⟩
    rw [Oper.semAt_plain _ _ _ (fun c => by simp), run_call_op hok (first := #[]) (cap := #[]) rfl, Oper.uponIn_enter]
    refine ⟨fun h => by simp [fen] at h, ?_⟩
    have hargs : RelArgs g args (#[] ++ xs.toArray.map a.eval ++ #[]) := by
      subst ha
      refine ⟨by simp, fun i c hi => ?_⟩
      simp only [List.getElem?_map, Option.map_eq_some_iff] at hi
      obtain ⟨x, hx, rfl⟩ := hi
      have := rel_weak (hst.ev x)
      simpa [hx] using this
    have hsb : ∀ b, SB g σ0 b → b < g.w.heap.size ∧ (E.g0.w.heap.size ≤ b ∨ E.S b) := by
      rintro b ⟨o, ob, h1, h2⟩
      obtain ⟨ob', h3, h4⟩ := hle.some h1
      rw [← h4] at h2
      exact ⟨(hst.so.obj o ob' h3).block_lt h2, hst.so.mine o ob' b h3 h2⟩
    have hown : Own g σ0 := ⟨hle.obj hst.so.obj, fun o o' ob ob' b h1 h2 h3 h4 => by
        obtain ⟨_, p1, e1⟩ := hle.some h1
        obtain ⟨_, p2, e2⟩ := hle.some h2
        rw [← e1] at h3
        rw [← e2] at h4
        exact hst.so.apart o o' _ _ b p1 p2 h3 h4, fun o ob b h1 h2 hb => by
        rcases (hsb b ⟨o, ob, h1, h2⟩).2 with h3 | h3
        · have := gl_lt E.gl hb; omega
        · exact E.sg b hb h3⟩
    refine (callsIn_fen (hr.run g _ hst.so.wf (E.glOf hst.so) hown hargs)).mono ?_
    rintro e w' ⟨g', v, rfl, hl, ho, hw, rfl, hv, hobj, hap, hmine⟩
    -- the objects behind the call
    have hget : ∀ o ob, Sto.get (σ1 ++ (σ.dels (O :: rows)).clrs rows) o = some ob → σ1.get o = some ob ∨ (o ∉ O :: rows ∧ ∃ ob1, σ.get o = some ob1 ∧ ob = ob1.clrs rows) := by
      intro o ob hg
      rw [Sto.get_append] at hg
      cases h1 : σ1.get o with
      | some ob1 => rw [h1] at hg; exact .inl (by simpa using hg)
      | none =>
        rw [h1, Option.none_or, Sto.get_clrs, Sto.get_dels] at hg
        split at hg
        · cases hg
        · rename_i hno
          cases h2 : σ.get o with
          | none => rw [h2] at hg; cases hg
          | some ob1 => rw [h2] at hg; exact .inr ⟨hno, ob1, rfl, by simpa using hg.symm⟩
    have hout : ∀ o ob1 b, o ∉ O :: rows → σ.get o = some ob1 → ob1.own (g.loc o) b → ¬ SB g σ0 b := by
      rintro o ob1 b hno ho1 hb ⟨o2, ob2, h2, hb2⟩
      obtain ⟨ob3, h3, e3⟩ := hle.some h2
      rw [← e3] at hb2
      have := hst.so.apart o o2 _ _ b ho1 h3 hb hb2
      subst this
      rcases (Sto.okS_get hr.ok0 h2).1 with rfl | hin
      · exact hno List.mem_cons_self
      · exact hno (List.mem_cons_of_mem _ hin)
    have hnr : ∀ o, o ∉ O :: rows → o ∉ rows := fun o h hin => h (List.mem_cons_of_mem _ hin)
    have hst' : St E g' a (fr.clrs rows) (σ1 ++ (σ.dels (O :: rows)).clrs rows) := by
      refine ⟨fun d => by rw [Fr.get_clrs]; exact rel_clrs ho.ext hl (hst.fr d), hst.n, hst.df.mono ho.ext, ⟨?_, ?_, ?_, ?_, hw⟩⟩
      · intro o ob hg
        rcases hget o ob hg with h1 | ⟨hno, ob1, ho1, rfl⟩
        · exact hobj o ob h1
        · have hro := hst.so.obj o ob1 ho1
          exact relO_clrs hro ho.ext hl (hnr o hno) fun b hb => ho.block b (hro.block_lt hb) (hout o ob1 b hno ho1 hb)
      · intro o o' ob ob' b h1 h2 h3 h4
        rcases hget o ob h1 with h1 | ⟨hno, ob1, ho1, rfl⟩ <;> rcases hget o' ob' h2 with h2 | ⟨hno', ob1', ho1', rfl⟩
        · exact hap o o' ob ob' b h1 h2 h3 h4
        · exfalso
          rw [AO.own_clrs, hl o' (hnr o' hno')] at h4
          have hlt := (hst.so.obj o' ob1' ho1').block_lt h4
          rcases hmine o ob b h1 h3 with h5 | h5
          · omega
          · exact hout o' ob1' b hno' ho1' h4 h5
        · exfalso
          rw [AO.own_clrs, hl o (hnr o hno)] at h3
          have hlt := (hst.so.obj o ob1 ho1).block_lt h3
          rcases hmine o' ob' b h2 h4 with h5 | h5
          · omega
          · exact hout o ob1 b hno ho1 h3 h5
        · rw [AO.own_clrs, hl o (hnr o hno)] at h3
          rw [AO.own_clrs, hl o' (hnr o' hno')] at h4
          exact hst.so.apart o o' ob1 ob1' b ho1 ho1' h3 h4
      · intro o ob b h1 h2
        rcases hget o ob h1 with h1 | ⟨hno, ob1, ho1, rfl⟩
        · rcases hmine o ob b h1 h2 with h5 | h5
          · exact .inl (Nat.le_trans hst.so.old.ext.size h5)
          · exact (hsb b h5).2
        · rw [AO.own_clrs, hl o (hnr o hno)] at h2
          exact hst.so.mine o ob1 b ho1 h2
      · refine hst.so.old.trans (ho.mono fun b _ hb => ?_)
        exact (hsb b hb).2.symm
    exact hK g' _ (hst'.put (Nat.le_of_ble_eq_true hN) hv)⟩

/-! ### objects are dropped, and get other names -/
section
variable {α : Type} {F : α → List PV} {l : List α} {size : Nat} {e : TypeId}
end
def AV.ren1 (r r' : Nat) : AV → AV
  | .hs x off => bif Nat.beq x r then .hs r' off else .hs x off
  | c => bif c.has r then .any else c
def AV.ren (r r' : Nat) : AV → AV
  | .agg l => .agg (l.map (AV.ren1 r r'))
  | c => c.ren1 r r'
def Fr.ren (r r' : Nat) : Fr → Fr
  | [] => []
  | (k, c) :: l => (k, c.ren r r') :: Fr.ren r r' l
theorem Fr.get_ren (r r' : Nat) (fr : Fr) (d : Nat) : (fr.ren r r').get d = (fr.get d).ren r r' := by
  induction fr with
  | nil => rfl
  | cons x l ih =>
    obtain ⟨k, c⟩ := x
    simp only [Fr.ren, Fr.get_cons, ih]
    split <;> rfl
def AO.ren (r r' : Nat) : AO → AO
  | .cells cs => .cells (cs.map (AV.ren r r'))
  | .hold c v => .hold (c.ren r r') v
  | o => o
def Sto.ren (r r' : Nat) : Sto → Sto
  | [] => []
  | (k, a) :: l => (k, a.ren r r') :: Sto.ren r r' l
theorem Sto.get_ren (r r' : Nat) (σ : Sto) (o : Nat) : (σ.ren r r').get o = (σ.get o).map (AO.ren r r') := by
  induction σ with
  | nil => rfl
  | cons x l ih =>
    obtain ⟨k, a⟩ := x
    simp only [Sto.ren, Sto.get_cons, ih]
    split <;> rfl
theorem AO.own_ren (r r' : Nat) (ob : AO) (l : Loc) : (ob.ren r r').own l = ob.own l := by cases ob <;> rfl
section
variable {g g' : G} {r r' : Nat}
theorem rel_ren0 (hw : g'.w = g.w) (hu : g'.u = g.u) (hk : ∀ k, k ≠ r' → g'.loc k = g.loc k) {c : AV} {v : Value} (h : Rel g c v) (hn : c.has r' = false) : Rel g' (bif c.has r then .any else c) v := by
  have hx : Ext g.w g.u g'.w g'.u := by rw [hw, hu]; exact Ext.refl _ _
  cases hc : c.has r with
  | true => exact .any _
  | false => exact h.mono hx fun k hk' => hk k (by rintro rfl; rw [hn] at hk'; cases hk')
theorem rel_ren1 (hw : g'.w = g.w) (hu : g'.u = g.u) (hl : g'.loc r' = g.loc r) (hk : ∀ k, k ≠ r' → g'.loc k = g.loc k) {c : AV} {v : Value} (h : Rel g c v) (hn : c.has r' = false) : Rel g' (c.ren1 r r') v := by
  cases c
  case hs x off =>
    have hxr : x ≠ r' := by rintro rfl; simp [AV.has] at hn
    cases hb : Nat.beq x r with
    | true =>
      rw [show AV.ren1 r r' (.hs x off) = .hs r' off by show (bif Nat.beq x r then AV.hs r' off else AV.hs x off) = _; rw [hb]; rfl]
      have : x = r := Nat.eq_of_beq_eq_true hb
      subst this
      cases h with
      | hsNil a h1 => exact .hsNil a (hl.trans h1)
      | hs h1 h2 => exact .hs (hl.trans h1) h2
    | false =>
      rw [show AV.ren1 r r' (.hs x off) = .hs x off by show (bif Nat.beq x r then AV.hs r' off else AV.hs x off) = _; rw [hb]; rfl]
      cases h with
      | hsNil a h1 => exact .hsNil a ((hk x hxr).trans h1)
      | hs h1 h2 => exact .hs ((hk x hxr).trans h1) h2
  all_goals exact rel_ren0 (r := r) hw hu hk h hn
theorem rel_ren (hw : g'.w = g.w) (hu : g'.u = g.u) (hl : g'.loc r' = g.loc r) (hk : ∀ k, k ≠ r' → g'.loc k = g.loc k) {c : AV} {v : Value} (h : Rel g c v) (hn : c.has r' = false) : Rel g' (c.ren r r') v := by
  cases c
  case agg cs =>
    cases h with
    | agg hl2 hc2 h =>
      refine .agg (by simp [hl2]) hc2 fun i c hi => ?_
      simp only [List.getElem?_map, Option.map_eq_some_iff] at hi
      obtain ⟨c', h1, rfl⟩ := hi
      refine rel_ren1 hw hu hl hk (h i c' h1) ?_
      cases hh : c'.has r' with
      | false => rfl
      | true => rw [show (AV.agg cs).has r' = AV.hasL r' cs from rfl, AV.hasL_of h1 hh] at hn; cases hn
  all_goals exact rel_ren1 hw hu hl hk h hn
theorem relO_ren (hw : g'.w = g.w) (hu : g'.u = g.u) (hl : g'.loc r' = g.loc r) (hk : ∀ k, k ≠ r' → g'.loc k = g.loc k) {o : Nat} {ob : AO} (h : RelO g o ob) (ho : o ≠ r') (hn : ob.has r' = false) : RelO g' o (ob.ren r r') := by
  have hx : Ext g.w g.u g'.w g'.u := by rw [hw, hu]; exact Ext.refl _ _
  have hh : ∀ k, ob.has k = true → g'.loc k = g.loc k := fun k hk' => hk k (by rintro rfl; rw [hn] at hk'; cases hk')
  cases ob
  case cells cs =>
    cases h with
    | @cells _ b t vs h1 h2 h3 h4 h5 h6 =>
      refine .cells ((hk o ho).trans h1) (by rw [hw]; exact h2) (by simpa using h3) (by rw [hu]; exact h4) h5 fun i c hi => ?_
      simp only [List.getElem?_map, Option.map_eq_some_iff] at hi
      obtain ⟨c', hc', rfl⟩ := hi
      refine rel_ren hw hu hl hk (h6 i c' hc') ?_
      cases hh' : c'.has r' with
      | false => rfl
      | true => rw [show (AO.cells cs).has r' = AV.hasL r' cs from rfl, AV.hasL_of hc' hh'] at hn; cases hn
  case hold c v => cases h with
    | hold h1 => exact .hold (rel_ren hw hu hl hk h1 hn)
  all_goals exact h.mono hx (hk o ho) hh fun b _ => by rw [hw, hu]; exact ⟨rfl, rfl⟩
end
theorem St.ren {g : G} {a : Act} {r r' : Nat} {ob : AO} (h : St E g a fr σ) (hr : σ.get r = some ob) (hne : Nat.beq r r' = false) (hf : fr.has r' = false) (hs : σ.has r' = false) (hg : σ.get r' = none) (hob : ob.okS [] = true) :
    St E ⟨g.w, g.u, fun k => if k = r' then g.loc r else g.loc k⟩ a (fr.ren r r') ((r', ob) :: (σ.del r).ren r r') := by
  have hne : r ≠ r' := by rintro rfl; simp at hne
  have hk : ∀ k, k ≠ r' → (⟨g.w, g.u, fun k => if k = r' then g.loc r else g.loc k⟩ : G).loc k = g.loc k := fun k hk => if_neg hk
  have hl : (⟨g.w, g.u, fun k => if k = r' then g.loc r else g.loc k⟩ : G).loc r' = g.loc r := if_pos rfl
  have hhas : ∀ k, ob.has k = false := fun k => by
    cases hh : ob.has k with
    | false => rfl
    | true => exact absurd (AO.okS_has hob hh) (by simp)
  have hget : ∀ o ob1, Sto.get ((r', ob) :: (σ.del r).ren r r') o = some ob1 → (o = r' ∧ ob1 = ob) ∨ (o ≠ r' ∧ o ≠ r ∧ ∃ ob2, σ.get o = some ob2 ∧ ob1 = ob2.ren r r') := by
    intro o ob1 ho
    rw [Sto.get_cons] at ho
    split at ho
    · rename_i hk; cases ho; exact .inl ⟨hk.symm, rfl⟩
    · rename_i hk
      rw [Sto.get_ren, Sto.get_del] at ho
      split at ho
      · cases ho
      · rename_i hor
        cases h2 : σ.get o with
        | none => rw [h2] at ho; cases ho
        | some ob2 => rw [h2] at ho; exact .inr ⟨Ne.symm hk, hor, ob2, rfl, by simpa using ho.symm⟩
  refine ⟨fun d => ?_, h.n, h.df, ⟨?_, ?_, ?_, ⟨h.so.old.os, h.so.old.tape, h.so.old.output, h.so.old.ext, h.so.old.block⟩, h.so.wf⟩⟩
  · rw [Fr.get_ren]
    refine rel_ren (g := g) (g' := ⟨g.w, g.u, fun k => if k = r' then g.loc r else g.loc k⟩) rfl rfl hl hk (h.fr d) ?_
    cases hh : (fr.get d).has r' with
    | false => rfl
    | true => rw [Fr.has_get hh] at hf; cases hf
  · intro o ob1 ho
    rcases hget o ob1 ho with ⟨rfl, rfl⟩ | ⟨h1, h2, ob2, h3, rfl⟩
    · have hro := h.so.obj r ob1 hr
      cases ob1 with
      | cells cs =>
        cases hro with
        | @cells _ b t vs q1 q2 q3 q4 q5 q6 =>
          exact .cells (hl.trans q1) q2 q3 q4 q5 fun i c hi => Rel.mono (g := g) (g' := ⟨g.w, g.u, fun k => if k = o then g.loc r else g.loc k⟩) (Ext.refl _ _) (q6 i c hi) fun k hck => by
            have := hhas k
            rw [show (AO.cells cs).has k = AV.hasL k cs from rfl, AV.hasL_of hi hck] at this
            cases this
      | row e mu size elems =>
        cases hro with
        | nil q1 => exact .nil (hl.trans q1)
        | row q1 q2 q3 q4 q5 q6 q7 q8 q9 => exact .row (hl.trans q1) q2 q3 q4 q5 q6 q7 q8 q9
      | opq t n Q =>
        cases hro with
        | opq q1 q2 q3 q4 q5 => exact .opq (hl.trans q1) q2 q3 q4 q5
      | _ => cases hob
    · refine relO_ren (g := g) (g' := ⟨g.w, g.u, fun k => if k = r' then g.loc r else g.loc k⟩) rfl rfl hl hk (h.so.obj o ob2 h3) h1 ?_
      cases hh : ob2.has r' with
      | false => rfl
      | true => rw [Sto.has_get h3 hh] at hs; cases hs
  · intro o o' ob1 ob2 b q1 q2 q3 q4
    rcases hget o ob1 q1 with ⟨rfl, rfl⟩ | ⟨h1, h2, ob3, h3, rfl⟩ <;> rcases hget o' ob2 q2 with ⟨rfl, rfl⟩ | ⟨h1', h2', ob4, h4, rfl⟩
    · rfl
    · rw [AO.own_ren] at q4
      simp only [if_true] at q3
      simp only [if_neg h1'] at q4
      exact absurd (h.so.apart r o' _ _ b hr h4 q3 q4) (Ne.symm h2')
    · rw [AO.own_ren] at q3
      simp only [if_neg h1] at q3
      simp only [if_true] at q4
      exact absurd (h.so.apart o r _ _ b h3 hr q3 q4) h2
    · rw [AO.own_ren] at q3 q4
      simp only [if_neg h1] at q3
      simp only [if_neg h1'] at q4
      exact h.so.apart o o' _ _ b h3 h4 q3 q4
  · intro o ob1 b q1 q2
    rcases hget o ob1 q1 with ⟨rfl, rfl⟩ | ⟨h1, h2, ob3, h3, rfl⟩
    · simp only [if_true] at q2
      exact h.so.mine r _ b hr q2
    · rw [AO.own_ren] at q2
      simp only [if_neg h1] at q2
      exact h.so.mine o _ b h3 q2
theorem awpl_ren {ops : Array Oper} {ol : List Oper} (r r' : Nat) {ob : AO} (hr : σ.get r = some ob) (hne : Nat.beq r r' = false) (hf : fr.has r' = false) (hs : σ.has r' = false) (hg : σ.get r' = none) (hob : ob.okS [] = true)
    (h : AWPL E ops ol (fr.ren r r') ((r', ob) :: (σ.del r).ren r r') K) : AWPL E ops ol fr σ K :=
  ⟨fun g a hst => h.go ⟨g.w, g.u, fun k => if k = r' then g.loc r else g.loc k⟩ a (hst.ren hr hne hf hs hg hob)⟩
/-! ### make -/
section
variable {α : Type} {F : α → List PV} {r' : List α} {size bytes sb ss k lim : Nat} {e t : TypeId} {zero sz : Value} {d : TypeDesc} {x : Operand} {n : Int} {z : α}
end

/-! ### short forms -/
/-- a function that writes into the row that its first argument is -/
theorem rfW {P : Program} {f : FuncId} {fn : Func} {c : Code} {args : List AV} {r : AV} {σ0 σ1 : Sto} {O H size : Nat} {e e' : TypeId} {mu mu' : Bool} {l l' : List (List PV)} (hok : FnOk P f fn c) (hN : Nat.ble args.length fn.ntmps = true) (hr : ∀ k, r.has k = false)
    (h0 : args[0]? = some (.hs O 0)) (h1 : σ0.get O = some (.row e mu size l)) (h2 : σ1.get O = some (.row e' mu' size l')) (hne : l ≠ []) (hs : Nat.ble 1 size = true)
    (k0 : σ0.okS O [] = true) (k1 : σ1.okS O [] = true) (hH : Sto.get σ0 H = none) (hH1 : Sto.get σ1 H = none)
    (h : ∀ g0 (hg : Gl g0) (S : Nat → Prop) (sg : ∀ k, GlB k → ¬ S k) (T : Array Value), (GS.code c (frameFrom 0 args) ((H, .hold (.hs O 0) (T.getD 0 undef)) :: σ0) (.base (KretS P fn r (.hs O 0) H T σ1) mono_kretS)).holds ⟨P, none, g0, fn.ntmps, false, hg, S, sg⟩) : RunS P f args σ0 r σ1 O [] :=
  run_of_awpS0 hok hN (fun k hk => by rw [hr k] at hk; cases hk) (.inl ⟨h0, fun g g' v ob q1 q2 q3 q4 q5 => by
    rw [h2] at q2
    cases q2
    exact rel_rowloc q4 q5 (q1 O _ h1) q3 hne hs⟩) k0 k1 hH hH1 h
theorem krS {P : Program} {T : Tab} {Tm : Array Value} (hT : TabOk P T) {e : Exit} {fn : Func} {cs : List AV} {r hc : AV} {H : Nat} {σ1 : Sto} {hm : Mono (KretS P fn r hc H Tm σ1)} (he : isN e = true ∨ e = .ret) (h : resOf T fr σ fn.results.toList = some cs) (hr : retAV cs = r) (hs : StoLe σ ((H, .hold hc (Tm.getD 0 undef)) :: σ1)) :
    (GS.at e fr σ (.base (KretS P fn r hc H Tm σ1) hm)).holds E := ⟨by cases e <;> simp_all [isN], ⟨cs, resOf_ok hT h, hr⟩, hs⟩
end Go.Proofs.Ytpclhpncmlbccaa

/- The abstract calculus: regions that draw their order: a few operations that change the store, and any number that do not, in any order. No program is named. -/
namespace Go.Proofs.Ytpclhpncmlbccaa
open Go.RowKit Go.Lib

variable {E : Env} {fr : Fr} {σ : Sto} {K : Post}
/-- what is known of the slots of the pure operations that have come up (none: an operation that is not pure) -/
def purF : List Oper → List (Option AV) → List Bool → Fr
  | o :: l, some c :: cs, b :: D => (match o.dst with | some d => [(d, bif b then c else .any)] | none => []) ++ purF l cs D
  | _ :: l, none :: cs, _ :: D => purF l cs D
  | _, _, _ => []
def dstOf (l : List Oper) (cs : List (Option AV)) (i : Nat) : Option Nat := match cs[i]? with
  | some (some _) => (l[i]?).bind (·.dst)
  | _ => none
theorem purF_other : ∀ (l : List Oper) (cs : List (Option AV)) (D : List Bool) (d : Nat), (∀ i, dstOf l cs i ≠ some d) → (purF l cs D ++ fr).get d = fr.get d
  | [], _, _, _, _ => rfl
  | _ :: _, [], _, _, _ => rfl
  | _ :: _, some _ :: _, [], _, _ => rfl
  | _ :: _, none :: _, [], _, _ => rfl
  | o :: l, none :: cs, b :: D, d, h => purF_other l cs D d fun i => h (i + 1)
  | o :: l, some c :: cs, b :: D, d, h => by
    have ih := purF_other l cs D d fun i => h (i + 1)
    have h0 : o.dst ≠ some d := h 0
    unfold purF
    cases hd : o.dst with
    | none => exact ih
    | some d' =>
      show Fr.get ((d', _) :: (purF l cs D ++ fr)) d = _
      rw [Fr.get_cons, if_neg (fun e => h0 (by rw [hd, e]))]
      exact ih
theorem purF_get : ∀ (l : List Oper) (cs : List (Option AV)) (D : List Bool) (i : Nat) (c : AV) (d : Nat), (∀ i j d, dstOf l cs i = some d → dstOf l cs j = some d → i = j) → l.length ≤ D.length → dstOf l cs i = some d → cs[i]? = some (some c) → (purF l cs D ++ fr).get d = bif D.getD i false then c else .any
  | [], _, _, i, _, _, _, _, h, hc => by unfold dstOf at h; rw [hc] at h; simp at h
  | _ :: _, [], _, i, _, _, _, _, h, hc => by simp at hc
  | _ :: _, _ :: _, [], _, _, _, _, hl, _, _ => by simp at hl
  | o :: l, none :: cs, b :: D, 0, c, d, _, _, h, hc => by simp at hc
  | o :: l, none :: cs, b :: D, i + 1, c, d, hd, hl, h, hc => by
    have := purF_get l cs D i c d (fun i j d h1 h2 => by have := hd (i + 1) (j + 1) d h1 h2; omega) (by simpa using hl) h (by simpa using hc)
    simpa [purF] using this
  | o :: l, some c0 :: cs, b :: D, 0, c, d, hd, hl, h, hc => by
    simp at hc; subst hc
    have h0 : o.dst = some d := h
    unfold purF
    rw [h0]
    show Fr.get ((d, _) :: (purF l cs D ++ fr)) d = _
    rw [Fr.get_cons, if_pos rfl]
    rfl
  | o :: l, some c0 :: cs, b :: D, i + 1, c, d, hd, hl, h, hc => by
    have ih := purF_get l cs D i c d (fun i j d h1 h2 => by have := hd (i + 1) (j + 1) d h1 h2; omega) (by simpa using hl) h (by simpa using hc)
    unfold purF
    cases h0 : o.dst with
    | none => simpa using ih
    | some d' =>
      show Fr.get ((d', _) :: (purF l cs D ++ fr)) d = _
      rw [Fr.get_cons, if_neg (fun e => by
        have := hd 0 (i + 1) d (by show o.dst = some d; rw [h0, e]) h
        omega)]
      simpa using ih
theorem Fr.has_append (q : Nat) : ∀ (x y : Fr), Fr.has q (x ++ y) = (Fr.has q x || Fr.has q y)
  | [], y => by simp [Fr.has]
  | (k, a) :: x, y => by simp [Fr.has, Fr.has_append q x y, Bool.or_assoc]
theorem purF_has (q : Nat) : ∀ (l : List Oper) (cs : List (Option AV)) (D T : List Bool), T = List.replicate D.length true → Fr.has q (purF l cs D) = true → Fr.has q (purF l cs T) = true
  | [], _, _, _, _, h => by simp [purF, Fr.has] at h
  | _ :: _, [], _, _, _, h => by simp [purF, Fr.has] at h
  | _ :: _, some _ :: _, [], _, _, h => by simp [purF, Fr.has] at h
  | _ :: _, none :: _, [], _, _, h => by simp [purF, Fr.has] at h
  | o :: l, none :: cs, b :: D, T, hT, h => by
    subst hT
    exact purF_has q l cs D _ rfl (by simpa [purF] using h)
  | o :: l, some c :: cs, b :: D, T, hT, h => by
    subst hT
    have ih := purF_has q l cs D _ rfl
    unfold purF at h ⊢
    simp only [List.length_cons, List.replicate_succ] at h ⊢
    cases h0 : o.dst with
    | none => rw [h0] at h; simp [Fr.has_append, Fr.has] at h ⊢; exact ih h
    | some d =>
      rw [h0] at h
      simp only [Fr.has_append, Fr.has, Bool.or_false, Bool.or_eq_true, cond_true] at h ⊢
      rcases h with h | h
      · refine .inl ?_
        cases b with
        | true => exact h
        | false => simp [AV.has] at h
      · exact .inr (ih h)
/-- an operation that changes the store, whatever else has come up -/
structure HvS (E : Env) (o : Oper) (FR : Fr) (σ σ' : Sto) : Prop where
  go : ∀ fr, (∀ x ∈ o.op.operands, fr.ev x = FR.ev x) → (∀ q, FR.has q = false → fr.has q = false) → OpTo E o fr σ fr σ'
structure HvD (E : Env) (o : Oper) (FR : Fr) (σ : Sto) (k : Nat) (c : AV) (rs : List Nat) (σ' : Sto) : Prop where
  go : ∀ fr, (∀ x ∈ o.op.operands, fr.ev x = FR.ev x) → (∀ q, FR.has q = false → fr.has q = false) → OpTo E o fr σ ((k, c) :: fr.clrs rs) σ'
def allT (l : List Oper) : List Bool := List.replicate l.length true
def noRows (cs : List (Option AV)) (rs : List Nat) : Bool := cs.all fun c => match c with | some c => rs.all fun r => !c.has r | none => true
inductive MStep (E : Env) (l : List Oper) (cs : List (Option AV)) (all : List Node) (H : List Bool) (fr : Fr) (σ : Sto) (i : Nat) : Prop
  | pure {o : Oper} {c : AV} (ho : l[i]? = some o) (hc : cs[i]? = some (some c)) (h : OpG E o (purF l cs (allT l) ++ fr) σ c)
  | sto {o : Oper} {σ' σ2 : Sto} {fr2 : Fr} (j : Nat) (ho : l[i]? = some o) (hc : cs[i]? = some none) (h : HvS E o (purF l cs (allT l) ++ fr) σ σ') (hn : all[j]? = some (H.set i true, fr2, σ2)) (hf : FrLe fr fr2) (hs : StoLe σ' σ2)
  | dst {o : Oper} {k : Nat} {c : AV} {rs : List Nat} {σ' σ2 : Sto} {fr2 : Fr} (j : Nat) (ho : l[i]? = some o) (hc : cs[i]? = some none) (hk : ((List.range l.length).all fun i => dstOf l cs i != some k) = true) (hrs : noRows cs rs = true)
      (h : HvD E o (purF l cs (allT l) ++ fr) σ k c rs σ') (hn : all[j]? = some (H.set i true, fr2, σ2)) (hf : FrLe ((k, c) :: fr.clrs rs) fr2) (hs : StoLe σ' σ2)
inductive MSteps (E : Env) (l : List Oper) (cs : List (Option AV)) (all : List Node) (H : List Bool) (fr : Fr) (σ : Sto) : List Nat → Prop
  | nil : MSteps E l cs all H fr σ []
  | cons {i : Nat} {is : List Nat} (h : MStep E l cs all H fr σ i) (r : MSteps E l cs all H fr σ is) : MSteps E l cs all H fr σ (i :: is)
def isHv (cs : List (Option AV)) (i : Nat) : Bool := match cs[i]? with | some none => true | _ => false
/-- what may come up while the store is so -/
def mayL (l : List Oper) (cs : List (Option AV)) (H : List Bool) : List Nat := (List.range l.length).filter fun i =>
  !(H.getD i false) && (List.range l.length).all fun j => !(isHv cs j) || ((!(((masksN l l.length).getD i 0).testBit j) || H.getD j false) && (!(H.getD j false) || !(((masksN l l.length).getD j 0).testBit i)))
inductive MNode (E : Env) (l : List Oper) (cs : List (Option AV)) (K : Post) (all : List Node) : Node → Prop
  | full {H : List Bool} {fr : Fr} {σ : Sto} (is : List Nat) (hD : mayL l cs H = is) (hs : MSteps E l cs all H fr σ is) {frJ : Fr} {σJ : Sto} (hf : FrLe (purF l cs (allT l) ++ fr) frJ) (hso : StoLe σ σJ) (h : K .normal frJ σJ) : MNode E l cs K all (H, fr, σ)
  | step {H : List Bool} {fr : Fr} {σ : Sto} (is : List Nat) (hD : mayL l cs H = is) (hn : ((List.range l.length).all fun i => !(isHv cs i) || H.getD i false) = false) (hs : MSteps E l cs all H fr σ is) : MNode E l cs K all (H, fr, σ)
inductive MNodes (E : Env) (l : List Oper) (cs : List (Option AV)) (K : Post) (all : List Node) : List Node → Prop
  | nil : MNodes E l cs K all []
  | cons {nd : Node} {r : List Node} (h : MNode E l cs K all nd) (hr : MNodes E l cs K all r) : MNodes E l cs K all (nd :: r)
theorem MSteps.get {l : List Oper} {cs : List (Option AV)} {all : List Node} {H : List Bool} {is : List Nat} (h : MSteps E l cs all H fr σ is) {i : Nat} (hi : i ∈ is) : MStep E l cs all H fr σ i := by
  induction h with
  | nil => cases hi
  | cons h _ ih =>
    rcases List.mem_cons.1 hi with rfl | hi
    · exact h
    · exact ih hi
theorem MNodes.get {l : List Oper} {cs : List (Option AV)} {all r : List Node} (h : MNodes E l cs K all r) {nd : Node} (hi : nd ∈ r) : MNode E l cs K all nd := by
  induction h with
  | nil => cases hi
  | cons h _ ih =>
    rcases List.mem_cons.1 hi with rfl | hi
    · exact h
    · exact ih hi
def maskOk (N : Nat) (l : List Oper) (cs : List (Option AV)) : Bool :=
  leadsBack .any l.toArray && Nat.beq cs.length l.length && (l.all fun o => o.guard.isNone) &&
  (l.all fun o => o.dst.all fun d => Nat.ble (d + 1) N) &&
  ((List.range l.length).all fun i => isHv cs i || (dstOf l cs i).isSome) &&
  ((List.range l.length).all fun i => (List.range l.length).all fun j => Nat.beq i j || (dstOf l cs i).isNone || dstOf l cs i != dstOf l cs j) &&
  (l.all fun o => (tmpsOf o).all fun t => (List.range l.length).all fun j => dstOf l cs j != some t || directly o j)
theorem clrs_same {rs : List Nat} {c : AV} (h : (rs.all fun r => !c.has r) = true) : c.clrs rs = c := by
  unfold AV.clrs
  have : (rs.any fun r => c.has r) = false := by
    rw [List.any_eq_false]
    intro r hr
    have := List.all_eq_true.1 h r hr
    simpa using this
  rw [this]; rfl
theorem awp_masked {id : Nat} {l : List Oper} (cs : List (Option AV)) (all : List Node) {H0 : List Bool} {fr0 : Fr} {σ0 : Sto} (hmix : E.P.follows .mixedOrders = true) (hok : maskOk E.N l cs = true) (h0 : all[0]? = some (H0, fr0, σ0)) (hH0 : H0 = List.replicate l.length false)
    (hf : FrLe fr fr0) (hs : StoLe σ σ0) (h : MNodes E l cs K all all) : AWP E (.region id l.toArray true) fr σ K := by
  simp only [maskOk, Bool.and_eq_true, List.all_eq_true] at hok
  obtain ⟨⟨⟨⟨⟨⟨hlb, hlen⟩, hgd⟩, hN⟩, hall⟩, hdist⟩, hdat⟩ := hok
  have hlen := Nat.eq_of_beq_eq_true hlen
  have hdl : ∀ i d, dstOf l cs i = some d → i < l.length := by
    intro i d hd
    rcases Nat.lt_or_ge i l.length with h1 | h1
    · exact h1
    · unfold dstOf at hd
      rw [List.getElem?_eq_none (by omega)] at hd
      cases hd
  have hdist' : ∀ i j d, dstOf l cs i = some d → dstOf l cs j = some d → i = j := by
    intro i j d h1 h2
    have := hdist i (by simpa using hdl i d h1) j (by simpa using hdl j d h2)
    simp only [Bool.or_eq_true, bne_iff_ne, ne_eq] at this
    rcases this with (h3 | h3) | h3
    · exact Nat.eq_of_beq_eq_true h3
    · rw [h1] at h3; cases h3
    · exact absurd (h1.trans h2.symm) h3
  have hdirD : ∀ {D : Nat → Bool} {o : Oper} {j : Nat}, (∀ e ∈ o.after, Region.binds .any e = true → D e.on = true) → directly o j = true → D j = true := by
    intro D o j he hd
    simp only [directly, List.any_eq_true, Bool.and_eq_true] at hd
    obtain ⟨e, h1, h2, h3⟩ := hd
    rw [← Nat.eq_of_beq_eq_true h3]
    exact he e (by simpa using h1) h2
  let bits : (Nat → Bool) → List Bool := fun D => (List.range l.length).map D
  have hbl : ∀ D, (bits D).length = l.length := fun D => by simp [bits]
  have hbg : ∀ D i, i < l.length → (bits D).getD i false = D i := fun D i hi => by simp [bits, List.getD_eq_getElem?_getD, hi]
  have hTl : (allT l).length = l.length := by simp [allT]
  have hTg : ∀ i, i < l.length → (allT l).getD i false = true := fun i hi => by simp [allT, List.getD_eq_getElem?_getD, hi]
  -- a slot: of a pure operation, or another one
  have hslot : ∀ d, (∃ i c, dstOf l cs i = some d ∧ cs[i]? = some (some c) ∧ i < l.length) ∨ (∀ i, dstOf l cs i ≠ some d) := by
    intro d
    by_cases hex : ∃ i, dstOf l cs i = some d
    · obtain ⟨i, hi⟩ := hex
      refine .inl ⟨i, ?_⟩
      have hil := hdl i d hi
      cases hc : cs[i]? with
      | none => unfold dstOf at hi; rw [hc] at hi; cases hi
      | some x =>
        cases x with
        | none => unfold dstOf at hi; rw [hc] at hi; cases hi
        | some c => exact ⟨c, hi, rfl, hil⟩
    · exact .inr fun i hi => hex ⟨i, hi⟩
  have hev : ∀ (D : Nat → Bool) (o : Oper) (frA : Fr), o ∈ l → (∀ e ∈ o.after, Region.binds .any e = true → D e.on = true) → ∀ x ∈ o.op.operands, (purF l cs (bits D) ++ frA).ev x = (purF l cs (allT l) ++ frA).ev x := by
    intro D o frA hm he x hx
    cases x with
    | const v => rfl
    | global q => rfl
    | func f => rfl
    | tmp t =>
      show (purF l cs (bits D) ++ frA).get t = (purF l cs (allT l) ++ frA).get t
      rcases hslot t with ⟨i, c, h1, h2, h3⟩ | h1
      · rw [purF_get l cs (bits D) i c t hdist' (by rw [hbl]; omega) h1 h2, purF_get l cs (allT l) i c t hdist' (by rw [hTl]; omega) h1 h2, hbg D i h3, hTg i h3]
        have := hdat o hm t (by simp only [tmpsOf, List.mem_filterMap]; exact ⟨.tmp t, by simpa using hx, rfl⟩) i (by simpa using h3)
        simp only [Bool.or_eq_true, bne_iff_ne, ne_eq] at this
        rcases this with h4 | h4
        · exact absurd h1 h4
        · rw [hdirD he h4]
      · rw [purF_other l cs _ t h1, purF_other l cs _ t h1]
  have hhas : ∀ (D : Nat → Bool) (frA : Fr) q, (purF l cs (allT l) ++ frA).has q = false → (purF l cs (bits D) ++ frA).has q = false := by
    intro D frA q hq
    rw [Fr.has_append, Bool.or_eq_false_iff] at hq ⊢
    refine ⟨?_, hq.2⟩
    cases hb : Fr.has q (purF l cs (bits D)) with
    | false => rfl
    | true =>
      have := purF_has q l cs (bits D) (allT l) (by rw [hbl]; rfl) hb
      rw [this] at hq; cases hq.1
  let J : (Nat → Bool) → Act → World → Prop := fun D a w => (∀ i o, l[i]? = some o → D i = true → ∀ e ∈ o.after, Region.binds .any e = true → D e.on = true) ∧
    ∃ nd ∈ all, nd.1.length = l.length ∧ (∀ i, i < l.length → isHv cs i = true → D i = nd.1.getD i false) ∧ (∀ i, i < l.length → isHv cs i = false → nd.1.getD i false = false) ∧ ∃ g, g.w = w ∧ St E g a (purF l cs (bits D) ++ nd.2.1) nd.2.2
  refine ⟨fun g a hst => wpIn_region_inv hmix hlb J ?_ ?_ ?_⟩
  · refine ⟨fun i o _ hd => by simp at hd, _, List.mem_of_getElem? h0, by subst hH0; simp, fun i hi _ => by subst hH0; simp [List.getD_eq_getElem?_getD, hi], fun i hi _ => by subst hH0; simp [List.getD_eq_getElem?_getD, hi], ⟨g.w.drew, g.u, g.loc⟩, rfl, (hst.le (fun d => ?_) hs).drew⟩
    rcases hslot d with ⟨i, c, h1, h2, h3⟩ | h1
    · rw [purF_get l cs _ i c d hdist' (by rw [hbl]; omega) h1 h2, hbg _ i h3]
      exact .inl rfl
    · rw [purF_other l cs _ d h1]; exact hf d
  · rintro D a w ⟨_, ⟨H, frA, σA⟩, hm, hl, hD, _, g, rfl, hst'⟩ hfin
    have hfin' : ∀ i, i < l.length → D i = true := fun i hi => hfin i (by simpa using hi)
    cases h.get hm with
    | full is _ _ hfJ hsJ hk =>
      refine ⟨g, _, _, rfl, St.le ?_ hfJ hsJ, hk⟩
      have : bits D = allT l := by
        apply List.ext_getElem (by rw [hbl, hTl])
        intro i h1 h2
        have hi : i < l.length := by rw [hbl] at h1; exact h1
        simp [bits, allT, hfin' i hi]
      rw [← this]; exact hst'
    | step is _ hn _ =>
      exfalso
      have : ((List.range l.length).all fun i => !(isHv cs i) || H.getD i false) = true := by
        rw [List.all_eq_true]
        intro i hi
        have hi : i < l.length := by simpa using hi
        cases hh : isHv cs i with
        | false => rfl
        | true => rw [← hD i hi hh, hfin' i hi]; rfl
      rw [this] at hn; cases hn
  · rintro D a w i o ⟨hcl, ⟨H, frA, σA⟩, hm, hl, hD, hD0, g, rfl, hst'⟩ ho hDi he
    have ho' : l[i]? = some o := by simpa using ho
    have hil : i < l.length := (List.getElem?_eq_some_iff.1 ho').1
    have hom : o ∈ l := List.mem_of_getElem? ho'
    have hgo : o.guard = none := by simpa using hgd o hom
    have hcl' : ∀ i' o', l[i']? = some o' → upd D i i' = true → ∀ e ∈ o'.after, Region.binds .any e = true → upd D i e.on = true := by
      intro i' o' h1 h2 e h3 h4
      unfold upd at h2 ⊢
      split
      · rfl
      · split at h2
        · rename_i hii; subst hii
          rw [ho'] at h1; cases h1
          exact he e h3 h4
        · exact hcl i' o' h1 h2 e h3 h4
    have hmay : i ∈ mayL l cs H := by
      simp only [mayL, List.mem_filter, List.mem_range, Bool.and_eq_true, Bool.not_eq_true', List.all_eq_true, Bool.or_eq_true]
      refine ⟨hil, ?_, fun j hj => ?_⟩
      · cases hh : isHv cs i with
        | true => rw [← hD i hil hh]; exact hDi
        | false => exact hD0 i hil hh
      · cases hh : isHv cs j with
        | false => exact .inl rfl
        | true =>
          refine .inr ⟨?_, ?_⟩
          · cases hb : ((masksN l l.length).getD i 0).testBit j with
            | false => exact .inl rfl
            | true => exact .inr (by rw [← hD j hj hh]; exact masks_ready hcl l.length i o ho' he j hb)
          · cases hHj : H.getD j false with
            | false => exact .inl rfl
            | true =>
              refine .inr ?_
              cases hb : ((masksN l l.length).getD j 0).testBit i with
              | false => rfl
              | true =>
                have := masks_closed hcl l.length j i hb (by rw [hD j hj hh]; exact hHj)
                rw [hDi] at this; cases this
    have hstep : MStep E l cs all H frA σA i := by
      cases h.get hm with
      | full is hD2 hs _ _ _ => exact (hD2 ▸ hs : MSteps E l cs all H frA σA (mayL l cs H)).get hmay
      | step is hD2 _ hs => exact (hD2 ▸ hs : MSteps E l cs all H frA σA (mayL l cs H)).get hmay
    have hw : Region.wanted o (yielded l.toArray a.tmps) = true := by simp [Region.wanted, hgo]
    have hheavy : ∀ (_ : cs[i]? = some none), (∀ k, k < l.length → isHv cs k = true → upd D i k = (H.set i true).getD k false) ∧ (∀ k, k < l.length → isHv cs k = false → (H.set i true).getD k false = false) ∧ ∀ frX d, (purF l cs (bits (upd D i)) ++ frX).get d = (purF l cs (bits D) ++ frX).get d := by
      intro hc
      have hhv : isHv cs i = true := by unfold isHv; rw [hc]
      refine ⟨fun k hk hh => ?_, fun k hk hh => ?_, fun frX d => ?_⟩
      · unfold upd
        simp only [List.getD_eq_getElem?_getD, List.getElem?_set]
        by_cases hki : k = i
        · subst hki; simp [hl, hk]
        · rw [if_neg hki, if_neg (Ne.symm hki), ← List.getD_eq_getElem?_getD]; exact hD k hk hh
      · have hki : k ≠ i := by rintro rfl; rw [hhv] at hh; cases hh
        simp only [List.getD_eq_getElem?_getD, List.getElem?_set]
        rw [if_neg (Ne.symm hki), ← List.getD_eq_getElem?_getD]
        exact hD0 k hk hh
      · rcases hslot d with ⟨j, c, h1, h2, h3⟩ | h1
        · rw [purF_get l cs _ j c d hdist' (by rw [hbl]; omega) h1 h2, purF_get l cs _ j c d hdist' (by rw [hbl]; omega) h1 h2, hbg _ j h3, hbg _ j h3]
          have hji : j ≠ i := by rintro rfl; rw [hc] at h2; cases h2
          unfold upd
          rw [if_neg hji]
        · rw [purF_other l cs _ d h1, purF_other l cs _ d h1]
    unfold wpOpIn
    rw [ho]
    simp only [hw, if_true]
    cases hstep with
    | @pure o2 c ho2 hc hop =>
      rw [ho'] at ho2; cases ho2
      have hhv : isHv cs i = false := by unfold isHv; rw [hc]
      have hops : ∀ x ∈ o.op.operands, Rel g ((purF l cs (allT l) ++ frA).ev x) (a.eval x) := fun x hx => by
        rw [← hev D o frA hom he x hx]; exact hst'.ev x
      obtain ⟨d, hd⟩ : ∃ d, dstOf l cs i = some d := by
        have := hall i (by simpa using hil)
        rw [hhv] at this
        simpa [Option.isSome_iff_exists] using this
      have hod : o.dst = some d := by
        unfold dstOf at hd
        rw [hc, ho'] at hd
        simpa using hd
      refine hop.go g a _ _ hops hst'.so fun g' v h1 h2 h3 h4 => ⟨hcl', (H, frA, σA), hm, hl, fun k hk hh => ?_, hD0, g', rfl, ?_⟩
      · have hki : k ≠ i := by rintro rfl; rw [hhv] at hh; cases hh
        unfold upd
        rw [if_neg hki]
        exact hD k hk hh
      · have hdN : d < E.N := by
          have := hN o hom
          rw [hod] at this
          exact Nat.le_of_ble_eq_true (by simpa using this)
        have hsz := hst'.n
        refine ⟨fun d' => ?_, by rw [hod]; simp [Act.put, hsz], by rw [hod]; exact hst'.df.mono h1.ext, hst'.so.grow h1 h2 (fun k _ => by rw [h3])⟩
        have hget : (a.put o.dst v).tmps.getD d' undef = if d = d' then v else a.tmps.getD d' undef := by
          rw [hod]
          simp only [Act.put]
          rw [getD_set_eq]
          by_cases h5 : d = d'
          · rw [if_pos ⟨h5, by omega⟩, if_pos h5]
          · rw [if_neg (fun x => h5 x.1), if_neg h5]
        rw [hget]
        by_cases h5 : d = d'
        · subst h5
          rw [if_pos rfl, purF_get l cs _ i c d hdist' (by rw [hbl]; omega) hd hc, hbg _ i hil]
          have : upd D i i = true := by unfold upd; rw [if_pos rfl]
          rw [this]; exact h4
        · rw [if_neg h5]
          have hsame : (purF l cs (bits (upd D i)) ++ frA).get d' = (purF l cs (bits D) ++ frA).get d' := by
            rcases hslot d' with ⟨j, c', q1, q2, q3⟩ | q1
            · rw [purF_get l cs _ j c' d' hdist' (by rw [hbl]; omega) q1 q2, purF_get l cs _ j c' d' hdist' (by rw [hbl]; omega) q1 q2, hbg _ j q3, hbg _ j q3]
              have hji : j ≠ i := by rintro rfl; rw [hd] at q1; cases q1; exact h5 rfl
              unfold upd
              rw [if_neg hji]
            · rw [purF_other l cs _ d' q1, purF_other l cs _ d' q1]
          rw [hsame]
          exact (hst'.fr d').mono h1.ext (fun k _ => by rw [h3])
    | @sto o2 σ' σ2 fr2 j ho2 hc hop hn hf2 hs2 =>
      rw [ho'] at ho2; cases ho2
      obtain ⟨q1, q2, q3⟩ := hheavy hc
      refine (hop.go _ (hev D o frA hom he) (hhas D frA)).go g a _ _ hst' fun g' a' hst2 => ⟨hcl', _, List.mem_of_getElem? hn, by simp [hl], q1, q2, g', rfl, hst2.le (fun d => ?_) hs2⟩
      rw [q3]
      rcases hslot d with ⟨k, c, h1, h2, h3⟩ | h1
      · rw [purF_get l cs _ k c d hdist' (by rw [hbl]; omega) h1 h2, purF_get l cs _ k c d hdist' (by rw [hbl]; omega) h1 h2]
        exact .inr (.inl rfl)
      · rw [purF_other l cs _ d h1, purF_other l cs _ d h1]; exact hf2 d
    | @dst o2 k c rs σ' σ2 fr2 j ho2 hc hk hrs hop hn hf2 hs2 =>
      rw [ho'] at ho2; cases ho2
      obtain ⟨q1, q2, q3⟩ := hheavy hc
      refine (hop.go _ (hev D o frA hom he) (hhas D frA)).go g a _ _ hst' fun g' a' hst2 => ⟨hcl', _, List.mem_of_getElem? hn, by simp [hl], q1, q2, g', rfl, hst2.le (fun d => ?_) hs2⟩
      rw [q3]
      rcases hslot d with ⟨m, c', h1, h2, h3⟩ | h1
      · have hkd : k ≠ d := by
          rintro rfl
          have := List.all_eq_true.1 hk m (by simpa using h3)
          simp [h1] at this
        rw [Fr.get_cons, if_neg hkd, Fr.get_clrs, purF_get l cs _ m c' d hdist' (by rw [hbl]; omega) h1 h2, purF_get l cs _ m c' d hdist' (by rw [hbl]; omega) h1 h2]
        refine .inr (.inl ?_)
        cases (bits D).getD m false with
        | false => exact clrs_same (by rw [List.all_eq_true]; intro r _; rfl)
        | true =>
          refine clrs_same ?_
          have := List.all_eq_true.1 hrs _ (List.mem_of_getElem? h2)
          exact this
      · have := hf2 d
        rw [Fr.get_cons, Fr.get_clrs] at this ⊢
        rw [purF_other l cs _ d h1, purF_other l cs _ d h1]
        exact this
section
variable {FR : Fr} {ty : TypeId} {pos : String} {af : Array Edge} {gu : Option (Nat × Bool)} {T : Tab} {P : Program} {id k r size bytes : Nat} {e t : TypeId} {zero : Value} {d : TypeDesc}
theorem stoLe_refl2 : StoLe σ σ := fun _ _ h => .inl h
theorem hv_hstore {α : Type} {F : α → List PV} {l : List α} {x y : Operand} {n : Int} {j : Nat} {v v' : α} {pcs : List PV} {e : TypeId} {esize : Nat} (hx : FR.ev x = .hp r n.toNat j) (hr : σ.get r = some (.row e true esize (l.map F))) (hy : (FR.ev y).weak.cells = some (pcs.map .pv)) (ht : TyOk E.P t size bytes zero d) (hz : Nat.beq pcs.length size = true)
    (hv : idx l n = some v) (hle : Nat.ble (j + pcs.length) (F v).length = true) (hF' : F v' = (F v).take j ++ pcs ++ (F v).drop (j + pcs.length)) :
    HvS E ⟨none, .store t x y, ty, pos, af, gu⟩ FR σ (σ.upd r (.row e true esize ((l.set n.toNat v').map F))) :=
  ⟨fun fr he _ => opTo_hstore ((he x (by simp [Op.operands, Call.operands])).trans hx) hr (by rw [he y (by simp [Op.operands, Call.operands])]; exact hy) ht hz hv hle hF'⟩
end
end Go.Proofs.Ytpclhpncmlbccaa

/- The calculus: integers of 64 bits without a sign: conversions, arithmetic, bits, shifts. No program is named. -/
namespace Go.Proofs.Ytpclhpncmlbccaa
open Go.RowKit
set_option linter.unusedVariables false
set_option linter.unusedSimpArgs false
def wu64 (n : Int) : Int := n % 18446744073709551616
theorem wrap_u64 (n : Int) : IntKind.u64.wrap n = wu64 n := by simp [IntKind.wrap, IntKind.bits, IntKind.signed, wu64]
def uShl (a n : Int) : Int := wu64 (a * 2 ^ min n.toNat 64)
def uShr (a n : Int) : Int := a / 2 ^ min n.toNat 64
section
variable {P : Program} {ρ : Operand → AV} {σ : Sto} {dst : Option Tmp} {ty : TypeId} {pos : String} {af : Array Edge} {gu : Option (Nat × Bool)} {x y : Operand} {t t' : TypeId} {ss sb ss' sb' : Nat} {sz sz' : Value} {a b n : Int}
theorem ev_i64u64 (hx : ρ x = .i n) (ha : TyOk P t ss sb sz (.int .i64)) (hb : TyOk P t' ss' sb' sz' (.int .u64)) : EvQ P ⟨dst, .convert t t' x, ty, pos, af, gu⟩ ρ σ (.pv (.b (.int .u64 (wu64 n)))) :=
  ⟨fun c => by simp, fun g ρv h _ => by
    have h1 := h x (by simp [Op.operands])
    rw [hx] at h1
    have e1 := rel_b h1
    refine ⟨.int .u64 (wu64 n), ?_, .pv (.b rfl)⟩
    simp [execOp, convert, e1, go_sem, underlying, ha.u, hb.u, Conv.intToInt, wrap_u64]⟩
theorem ev_u64i64 (hx : ρ x = .pv (.b (.int .u64 n))) (ha : TyOk P t ss sb sz (.int .u64)) (hb : TyOk P t' ss' sb' sz' (.int .i64)) : EvQ P ⟨dst, .convert t t' x, ty, pos, af, gu⟩ ρ σ (.i (w64 n)) :=
  ⟨fun c => by simp, fun g ρv h _ => by
    have h1 := h x (by simp [Op.operands])
    rw [hx] at h1
    have e1 := rel_b h1
    refine ⟨.int .i64 (w64 n), ?_, .pv (.b rfl)⟩
    simp [execOp, convert, e1, go_sem, underlying, ha.u, hb.u, Conv.intToInt]⟩
theorem ev_ushift {op : BinOp} {r : Int} {yk : IntKind} (hx : ρ x = .pv (.b (.int .u64 a))) (hy : ρ y = .pv (.b (.int yk b))) (hb : 0 ≤ b) (hr : (op = .shl ∧ r = uShl a b) ∨ (op = .shr ∧ r = uShr a b)) : EvQ P ⟨dst, .binOp op t x y t', ty, pos, af, gu⟩ ρ σ (.pv (.b (.int .u64 r))) :=
  ⟨fun c => by simp, fun g ρv h _ => by
    obtain ⟨h1, h2⟩ := ops2 (o := ⟨dst, .binOp op t x y t', ty, pos, af, gu⟩) (x := x) (y := y) rfl h
    rw [hx] at h1
    rw [hy] at h2
    have e1 := rel_b h1
    have e2 := rel_b h2
    refine ⟨.int .u64 r, ?_, .pv (.b rfl)⟩
    have hnl : ¬ b < 0 := by omega
    have hp : (0 : Int) ≤ 2 ^ min b.toNat 64 := Int.le_of_lt (Int.pow_pos (by decide))
    rcases hr with ⟨rfl, rfl⟩ | ⟨rfl, rfl⟩
    · show Sem.run P (do let v ← (do eqGuard .shl t x y (ρv x) (ρv y); binOp .shl t (ρv x) (ρv y)); pure (Next.value v)) g.w = _
      rw [e1, e2]
      simp only [eqGuard, binOp, Op.shift, if_neg hnl, IntKind.bits, wrap_u64]
      rfl
    · show Sem.run P (do let v ← (do eqGuard .shr t x y (ρv x) (ρv y); binOp .shr t (ρv x) (ρv y)); pure (Next.value v)) g.w = _
      rw [e1, e2]
      simp only [eqGuard, binOp, Op.shift, if_neg hnl, IntKind.bits, Int.fdiv_eq_ediv_of_nonneg _ hp]
      rfl⟩
theorem ev_ushr {yk : IntKind} (hx : ρ x = .pv (.b (.int .u64 a))) (hy : ρ y = .pv (.b (.int yk b))) (hb : 0 ≤ b) : EvQ P ⟨dst, .binOp .shr t x y t', ty, pos, af, gu⟩ ρ σ (.pv (.b (.int .u64 (uShr a b)))) := ev_ushift hx hy hb (.inr ⟨rfl, rfl⟩)
end
end Go.Proofs.Ytpclhpncmlbccaa

/- Go's structures as Lean's, and their cells. Written by program. -/
namespace Go.Proofs.Ytpclhpncmlbccaa
open Go.RowKit
structure TFault where
  Code : Int
  Index : Int
def TFault.pc (x : TFault) : List PV := [pI x.Code, pI x.Index]
structure TAlias where
  Address : Str
  To : List Str
def TAlias.pc (x : TAlias) : List PV := [pS x.Address, pL cS x.To]
structure TRecipient where
  Address : Str
  Notify : Int
def TRecipient.pc (x : TRecipient) : List PV := [pS x.Address, pI x.Notify]
structure TEnvelope where
  From : Str
  To : List TRecipient
  Id : Str
def TEnvelope.pc (x : TEnvelope) : List PV := [pS x.From, pL TRecipient.pc x.To, pS x.Id]
structure TField where
  Name : Str
  Value : Str
def TField.pc (x : TField) : List PV := [pS x.Name, pS x.Value]
structure TMessage where
  Fields : List TField
  Body : List UInt8
def TMessage.pc (x : TMessage) : List PV := [pL TField.pc x.Fields, pL cU x.Body]
structure TMail where
  Envelope : TEnvelope
  Message : TMessage
def TMail.pc (x : TMail) : List PV := [pS x.Envelope.From, pL TRecipient.pc x.Envelope.To, pS x.Envelope.Id, pL TField.pc x.Message.Fields, pL cU x.Message.Body]
structure TReply where
  Code : Int
  Lines : List Str
def TReply.pc (x : TReply) : List PV := [pI x.Code, pL cS x.Lines]
structure TClient where
  Name : Str
  Mail : TMail
  Pipelined : Bool
  Buffer : List UInt8
  Expected : Int
  Whole : Bool
  Done : Bool
  Results : List Int
def TClient.pc (x : TClient) : List PV := [pS x.Name, pS x.Mail.Envelope.From, pL TRecipient.pc x.Mail.Envelope.To, pS x.Mail.Envelope.Id, pL TField.pc x.Mail.Message.Fields, pL cU x.Mail.Message.Body, pB x.Pipelined, pL cU x.Buffer, pI x.Expected, pB x.Whole, pB x.Done, pL cI x.Results]
structure Tposthouseref4_Talk where
  C : TClient
  Out : List UInt8
def Tposthouseref4_Talk.pc (x : Tposthouseref4_Talk) : List PV := [pS x.C.Name, pS x.C.Mail.Envelope.From, pL TRecipient.pc x.C.Mail.Envelope.To, pS x.C.Mail.Envelope.Id, pL TField.pc x.C.Mail.Message.Fields, pL cU x.C.Mail.Message.Body, pB x.C.Pipelined, pL cU x.C.Buffer, pI x.C.Expected, pB x.C.Whole, pB x.C.Done, pL cI x.C.Results, pL cU x.Out]
structure TRoute where
  Pattern : Str
  Host : Str
  Preference : Int
def TRoute.pc (x : TRoute) : List PV := [pS x.Pattern, pS x.Host, pI x.Preference]
end Go.Proofs.Ytpclhpncmlbccaa

/- Rows of the table of types. Written by program. -/
namespace Go.Proofs.Ytpclhpncmlbccaa
open Go.RowKit
set_option maxRecDepth 100000
set_option maxHeartbeats 40000000
set_option linter.unusedVariables false
theorem mixed : Try.prog.follows .mixedOrders = true := by kernel_rfl
theorem cmp_api_Fault : CmpOk Try.prog 24 := ⟨by kernel_rfl, by kernel_rfl⟩
theorem pl_api_Fault (w : World) : Sem.run Try.prog (Array.mapM (fun (f : Field) => do pure (f.offset, ← sizeOf f.type)) #[⟨"Code", 3, 0, false, "", "", 0⟩, ⟨"Index", 3, 1, false, "", "", 8⟩]) w = .ok #[(0, 1), (1, 1)] w := by kernel_rfl
theorem pl_api_Route (w : World) : Sem.run Try.prog (Array.mapM (fun (f : Field) => do pure (f.offset, ← sizeOf f.type)) #[⟨"Pattern", 9, 0, false, "", "", 0⟩, ⟨"Host", 9, 1, false, "", "", 16⟩, ⟨"Preference", 3, 2, false, "", "", 32⟩]) w = .ok #[(0, 1), (1, 1), (2, 1)] w := by kernel_rfl
theorem ty_api_Fault : TyOk Try.prog 24 2 16 (.agg #[.int .i64 0, .int .i64 0]) (.struct #[⟨"Code", 3, 0, false, "", "", 0⟩, ⟨"Index", 3, 1, false, "", "", 8⟩]) := ⟨by kernel_rfl, by kernel_rfl⟩
theorem ty_api_Route : TyOk Try.prog 36 3 40 (.agg #[.string ⟨#[]⟩, .string ⟨#[]⟩, .int .i64 0]) (.struct #[⟨"Pattern", 9, 0, false, "", "", 0⟩, ⟨"Host", 9, 1, false, "", "", 16⟩, ⟨"Preference", 3, 2, false, "", "", 32⟩]) := ⟨by kernel_rfl, by kernel_rfl⟩
theorem ty_bool : TyOk Try.prog 4 1 1 (.bool false) .bool := ⟨by kernel_rfl, by kernel_rfl⟩
theorem ty_int : TyOk Try.prog 3 1 8 (.int .i64 0) (.int .i64) := ⟨by kernel_rfl, by kernel_rfl⟩
theorem ty_int32 : TyOk Try.prog 21 1 4 (.int .i32 0) (.int .i32) := ⟨by kernel_rfl, by kernel_rfl⟩
theorem ty_s_api_Route : TyOk Try.prog 22 1 24 (.slice none 0 0) (.slice 36) := ⟨by kernel_rfl, by kernel_rfl⟩
theorem ty_s_bool : TyOk Try.prog 48 1 24 (.slice none 0 0) (.slice 4) := ⟨by kernel_rfl, by kernel_rfl⟩
theorem ty_s_string : TyOk Try.prog 26 1 24 (.slice none 0 0) (.slice 9) := ⟨by kernel_rfl, by kernel_rfl⟩
theorem ty_string : TyOk Try.prog 9 1 16 (.string ⟨#[]⟩) .string := ⟨by kernel_rfl, by kernel_rfl⟩
theorem ty_uint : TyOk Try.prog 60 1 8 (.int .u64 0) (.int .u64) := ⟨by kernel_rfl, by kernel_rfl⟩
theorem ty_uint8 : TyOk Try.prog 5 1 1 (.int .u8 0) (.int .u8) := ⟨by kernel_rfl, by kernel_rfl⟩
def tab : Tab := [(24, ⟨2, 16, (.agg #[.int .i64 0, .int .i64 0]), (.struct #[⟨"Code", 3, 0, false, "", "", 0⟩, ⟨"Index", 3, 1, false, "", "", 8⟩]), (some #[(0, 1), (1, 1)])⟩), (36, ⟨3, 40, (.agg #[.string ⟨#[]⟩, .string ⟨#[]⟩, .int .i64 0]), (.struct #[⟨"Pattern", 9, 0, false, "", "", 0⟩, ⟨"Host", 9, 1, false, "", "", 16⟩, ⟨"Preference", 3, 2, false, "", "", 32⟩]), (some #[(0, 1), (1, 1), (2, 1)])⟩), (4, ⟨1, 1, (.bool false), .bool, none⟩), (3, ⟨1, 8, (.int .i64 0), (.int .i64), none⟩), (21, ⟨1, 4, (.int .i32 0), (.int .i32), none⟩), (22, ⟨1, 24, (.slice none 0 0), (.slice 36), none⟩), (48, ⟨1, 24, (.slice none 0 0), (.slice 4), none⟩), (26, ⟨1, 24, (.slice none 0 0), (.slice 9), none⟩), (9, ⟨1, 16, (.string ⟨#[]⟩), .string, none⟩), (60, ⟨1, 8, (.int .u64 0), (.int .u64), none⟩), (5, ⟨1, 1, (.int .u8 0), (.int .u8), none⟩)]
theorem tk : TabOk Try.prog tab := (tab_consP ty_api_Fault pl_api_Fault (tab_consP ty_api_Route pl_api_Route (tab_cons ty_bool (tab_cons ty_int (tab_cons ty_int32 (tab_cons ty_s_api_Route (tab_cons ty_s_bool (tab_cons ty_s_string (tab_cons ty_string (tab_cons ty_uint (tab_cons ty_uint8 tab_nil)))))))))))
end Go.Proofs.Ytpclhpncmlbccaa

/- Bounds and bulk of Go's structures. Written by program. -/
namespace Go.Proofs.Ytpclhpncmlbccaa
open Go.RowKit
def TFault.ok (x : TFault) : Prop := ok64 x.Code ∧ ok64 x.Index
def TFault.bk (x : TFault) : Nat := (fun _ => 1) x.Code + (fun _ => 1) x.Index + 1
instance : Inhabited TFault := ⟨⟨default, default⟩⟩
def TAlias.ok (x : TAlias) : Prop := okStr x.Address ∧ (okL okStr) x.To
def TAlias.bk (x : TAlias) : Nat := (fun s => s.length + 1) x.Address + (bkL (fun s => s.length + 1)) x.To + 1
instance : Inhabited TAlias := ⟨⟨default, default⟩⟩
def TRecipient.ok (x : TRecipient) : Prop := okStr x.Address ∧ ok64 x.Notify
def TRecipient.bk (x : TRecipient) : Nat := (fun s => s.length + 1) x.Address + (fun _ => 1) x.Notify + 1
instance : Inhabited TRecipient := ⟨⟨default, default⟩⟩
def TEnvelope.ok (x : TEnvelope) : Prop := okStr x.From ∧ (okL TRecipient.ok) x.To ∧ okStr x.Id
def TEnvelope.bk (x : TEnvelope) : Nat := (fun s => s.length + 1) x.From + (bkL TRecipient.bk) x.To + (fun s => s.length + 1) x.Id + 1
instance : Inhabited TEnvelope := ⟨⟨default, default, default⟩⟩
def TField.ok (x : TField) : Prop := okStr x.Name ∧ okStr x.Value
def TField.bk (x : TField) : Nat := (fun s => s.length + 1) x.Name + (fun s => s.length + 1) x.Value + 1
instance : Inhabited TField := ⟨⟨default, default⟩⟩
def TMessage.ok (x : TMessage) : Prop := (okL TField.ok) x.Fields ∧ (okL (fun _ => True)) x.Body
def TMessage.bk (x : TMessage) : Nat := (bkL TField.bk) x.Fields + (bkL (fun _ => 1)) x.Body + 1
instance : Inhabited TMessage := ⟨⟨default, default⟩⟩
def TMail.ok (x : TMail) : Prop := TEnvelope.ok x.Envelope ∧ TMessage.ok x.Message
def TMail.bk (x : TMail) : Nat := TEnvelope.bk x.Envelope + TMessage.bk x.Message + 1
instance : Inhabited TMail := ⟨⟨default, default⟩⟩
def TReply.ok (x : TReply) : Prop := ok64 x.Code ∧ (okL okStr) x.Lines
def TReply.bk (x : TReply) : Nat := (fun _ => 1) x.Code + (bkL (fun s => s.length + 1)) x.Lines + 1
instance : Inhabited TReply := ⟨⟨default, default⟩⟩
def TClient.ok (x : TClient) : Prop := okStr x.Name ∧ TMail.ok x.Mail ∧ (fun _ => True) x.Pipelined ∧ (okL (fun _ => True)) x.Buffer ∧ ok64 x.Expected ∧ (fun _ => True) x.Whole ∧ (fun _ => True) x.Done ∧ (okL ok64) x.Results
def TClient.bk (x : TClient) : Nat := (fun s => s.length + 1) x.Name + TMail.bk x.Mail + (fun _ => 1) x.Pipelined + (bkL (fun _ => 1)) x.Buffer + (fun _ => 1) x.Expected + (fun _ => 1) x.Whole + (fun _ => 1) x.Done + (bkL (fun _ => 1)) x.Results + 1
instance : Inhabited TClient := ⟨⟨default, default, default, default, default, default, default, default⟩⟩
def Tposthouseref4_Talk.ok (x : Tposthouseref4_Talk) : Prop := TClient.ok x.C ∧ (okL (fun _ => True)) x.Out
def Tposthouseref4_Talk.bk (x : Tposthouseref4_Talk) : Nat := TClient.bk x.C + (bkL (fun _ => 1)) x.Out + 1
instance : Inhabited Tposthouseref4_Talk := ⟨⟨default, default⟩⟩
def TRoute.ok (x : TRoute) : Prop := okStr x.Pattern ∧ okStr x.Host ∧ ok64 x.Preference
def TRoute.bk (x : TRoute) : Nat := (fun s => s.length + 1) x.Pattern + (fun s => s.length + 1) x.Host + (fun _ => 1) x.Preference + 1
instance : Inhabited TRoute := ⟨⟨default, default, default⟩⟩
end Go.Proofs.Ytpclhpncmlbccaa

/- How the laws' arguments are read. Written by program. -/
namespace Go.Proofs.Ytpclhpncmlbccaa
open Go.RowKit
set_option maxRecDepth 100000
set_option linter.unusedVariables false
theorem op_string : Opens Try.prog 9 1 cS okStr (fun s => s.length + 1) := opens_S ty_string.u (by kernel_rfl)
theorem op_int : Opens Try.prog 3 1 cI ok64 (fun _ => 1) := opens_I ty_int.u (by kernel_rfl)
theorem op_api_Route : Opens Try.prog 36 3 TRoute.pc TRoute.ok TRoute.bk := ⟨by kernel_rfl, fun _ => rfl, fun {H enc W fuel cs d} h => by
  obtain ⟨xs, n, _, rfl, hl, hlen, hf⟩ := DataW.trod_struct ty_api_Route.u h
  have hl2 : cs.length = 3 := hl.trans (by kernel_rfl)
  match xs, hlen with
  | [y0, y1, y2], _ =>
    obtain ⟨x0, r0, o0, b0⟩ := op_string.op (show _ = some y0 from hf 0 _ rfl)
    replace r0 : RelC W _ (List.take (Try.prog.cellsOf 9) (List.drop 0 cs)) := r0
    rw [op_string.cells] at r0
    obtain ⟨x1, r1, o1, b1⟩ := op_string.op (show _ = some y1 from hf 1 _ rfl)
    replace r1 : RelC W _ (List.take (Try.prog.cellsOf 9) (List.drop 1 cs)) := r1
    rw [op_string.cells] at r1
    obtain ⟨x2, r2, o2, b2⟩ := op_int.op (show _ = some y2 from hf 2 _ rfl)
    replace r2 : RelC W _ (List.take (Try.prog.cellsOf 3) (List.drop 2 cs)) := r2
    rw [op_int.cells] at r2
    exact ⟨⟨x0, x1, x2⟩, (relC_seg (off := 0) rfl r0 (relC_seg (off := 1) rfl r1 (relC_seg (off := 2) rfl r2 (relC_end hl2)))), ⟨o0, o1, o2⟩, by simp only [List.map, Rows.uptoBulk, Rows.uptoBulkAll, TRoute.bk]; omega⟩⟩
theorem op_s_api_Route : Opens Try.prog 22 1 (cL TRoute.pc) (okL TRoute.ok) (bkL TRoute.bk) := opens_L op_api_Route rfl ty_s_api_Route.u (by kernel_rfl)
end Go.Proofs.Ytpclhpncmlbccaa

/- Plain lemmas on the operations of typed functions: no program is named. -/
namespace Go.Proofs.Ytpclhpncmlbccaa
open Go.RowKit

theorem w64_nn (a b : Nat) (h : a + b ≤ 9223372036854775807) : w64 ((a : Int) + (b : Int)) = ((a + b : Nat) : Int) := by
  rw [w64_id (by omega) (by omega)]; simp
theorem w64_ns (a b : Nat) (h : b ≤ a) (ha : a ≤ 9223372036854775807) : w64 ((a : Int) - (b : Int)) = ((a - b : Nat) : Int) := by
  rw [w64_id (by omega) (by omega)]; omega
theorem w64_n (a : Nat) (h : a ≤ 9223372036854775807) : w64 (a : Int) = (a : Int) := w64_id (by omega) (by omega)

theorem u8_eq (c : UInt8) (k : Nat) (hk : OfNat.ofNat k < 256) : ((c.toNat : Int) == no_index (OfNat.ofNat k : Int)) = (c == OfNat.ofNat k) := by
  have e : (OfNat.ofNat k : Int) = ((OfNat.ofNat k : Nat) : Int) := rfl
  have h2 : (OfNat.ofNat k : UInt8).toNat = (OfNat.ofNat k : Nat) := by
    show (UInt8.ofNat k).toNat = k
    rw [UInt8.toNat_ofNat']; exact Nat.mod_eq_of_lt hk
  rw [Bool.eq_iff_iff, beq_iff_eq, beq_iff_eq, ← UInt8.toNat_inj, h2, e]
  omega
section
variable {α : Type}
theorem idx_nat (l : List α) (i : Nat) : idx l (i : Int) = l[i]? := by unfold idx; rw [if_pos (by omega)]; simp
theorem idx_lt {l : List α} {i : Nat} (h : i < l.length) : idx l (i : Int) = some l[i] := by rw [idx_nat]; exact List.getElem?_eq_getElem h
theorem idx_app (p : List α) (x : α) (r : List α) : idx (p ++ x :: r) (p.length : Int) = some x := by rw [idx_nat]; simp
theorem cut_nn {l : List α} {a b : Nat} (h1 : a ≤ b) (h2 : b ≤ l.length) : cut l (a : Int) (b : Int) = some ((l.drop a).take (b - a)) := by
  unfold cut; rw [if_pos (by omega)]; simp
theorem cut_nl {l : List α} {a : Nat} (h1 : a ≤ l.length) : cut l (a : Int) (l.length : Int) = some (l.drop a) := by
  rw [cut_nn h1 (Nat.le_refl _)]; rw [List.take_of_length_le (by simp)]
theorem cut_0n {l : List α} {b : Nat} (h2 : b ≤ l.length) : cut l 0 (b : Int) = some (l.take b) := by
  have := cut_nn (l := l) (a := 0) (b := b) (by omega) h2
  simpa using this
theorem app_ok {lim : Nat} {l xs : List α} (h : l.length + xs.length ≤ lim) : app lim l xs = some (l ++ xs) := by unfold app; rw [if_pos h]
end

section
variable {A R : Type} {body : A → Option (Step A R)}
end
end Go.Proofs.Ytpclhpncmlbccaa

/- Plain lemmas on loops of typed functions: first hits, folds. No program is named. -/
namespace Go.Proofs.Ytpclhpncmlbccaa
open Go.RowKit
section
variable {α R O A S : Type}
/-- the first hit, with its number -/
def firstI (q : Nat → α → Option R) : Nat → List α → Option R
  | _, [] => none
  | i, x :: r => match q i x with | some y => some y | none => firstI q (i + 1) r
theorem iter_first (l : List α) (q : Nat → α → Option R) (oN : O) (oS : R → O) {body : Int → Option (Step Int O)} (hl : body (l.length : Int) = some (.out oN))
    (hs : ∀ (i : Nat) x, l[i]? = some x → body (i : Int) = some ((q i x).elim (.cont ((i + 1 : Nat) : Int)) fun r => .out (oS r))) :
    iter body 0 = some ((firstI q 0 l).elim oN oS) := by
  have key : ∀ r p, l = p ++ r → iter body (p.length : Int) = some ((firstI q p.length r).elim oN oS) := by
    intro r
    induction r with
    | nil => intro p h; have : p = l := by simp [h]
             subst this; exact iter_out hl
    | cons x r ih =>
      intro p h
      have hx := hs p.length x (by simp [h])
      unfold firstI
      cases hq : q p.length x with
      | some y => rw [hq] at hx; exact iter_out hx
      | none =>
        rw [hq] at hx
        rw [iter_cont hx]
        have := ih (p ++ [x]) (by simp [h])
        simpa using this
  exact key l [] rfl
/-- a loop with a counter and a state that goes on to its end -/
theorem iter_foldI (l : List α) (enc : Int → S → A) (f : Nat → S → α → S) (out : S → O) (Inv : Nat → S → Prop) {body : A → Option (Step A O)}
    (hl : ∀ s, Inv l.length s → body (enc l.length s) = some (.out (out s)))
    (hs : ∀ (i : Nat) x s, l[i]? = some x → Inv i s → body (enc i s) = some (.cont (enc ((i + 1 : Nat) : Int) (f i s x))) ∧ Inv (i + 1) (f i s x)) (s : S) (h0 : Inv 0 s) :
    ∃ t, iter body (enc 0 s) = some (out t) ∧ Inv l.length t ∧ t = (l.zipIdx.foldl (fun s p => f p.2 s p.1) s) := by
  have key : ∀ r p s, l = p ++ r → Inv p.length s → ∃ t, iter body (enc (p.length : Int) s) = some (out t) ∧ Inv l.length t ∧ t = ((r.zipIdx p.length).foldl (fun s p => f p.2 s p.1) s) := by
    intro r
    induction r with
    | nil => intro p s h hi; have : p = l := by simp [h]
             subst this; exact ⟨s, iter_out (hl s hi), hi, rfl⟩
    | cons x r ih =>
      intro p s h hi
      obtain ⟨h1, h2⟩ := hs p.length x s (by simp [h]) hi
      rw [iter_cont h1]
      obtain ⟨t, h3, h4, h5⟩ := ih (p ++ [x]) (f p.length s x) (by simp [h]) (by simpa using h2)
      refine ⟨t, by simpa using h3, h4, ?_⟩
      rw [h5]; simp
  exact key l [] s rfl h0
theorem foldl_zipIdx (f : S → α → S) (l : List α) : ∀ (n : Nat) (s : S), (l.zipIdx n).foldl (fun s p => f s p.1) s = l.foldl f s := by
  induction l with
  | nil => intro n s; rfl
  | cons x r ih => intro n s; simp [ih]
/-- the same, where the number does not matter -/
theorem iter_fold (l : List α) (enc : Int → S → A) (f : S → α → S) (out : S → O) (Inv : Nat → S → Prop) {body : A → Option (Step A O)}
    (hl : ∀ s, Inv l.length s → body (enc l.length s) = some (.out (out s)))
    (hs : ∀ (i : Nat) x s, l[i]? = some x → Inv i s → body (enc i s) = some (.cont (enc ((i + 1 : Nat) : Int) (f s x))) ∧ Inv (i + 1) (f s x)) (s : S) (h0 : Inv 0 s) :
    iter body (enc 0 s) = some (out (l.foldl f s)) ∧ Inv l.length (l.foldl f s) := by
  obtain ⟨t, h1, h2, h3⟩ := iter_foldI l enc (fun _ => f) out Inv hl hs s h0
  have : t = l.foldl f s := by rw [h3]; exact foldl_zipIdx f l 0 s
  subst this
  exact ⟨h1, h2⟩
theorem firstI_any (c : α → Bool) (r : R) (l : List α) (n : Nat) : firstI (fun _ x => if c x then some r else none) n l = if l.any c then some r else none := by
  induction l generalizing n with
  | nil => rfl
  | cons x l ih => unfold firstI; cases h : c x <;> simp [h, ih]
theorem firstI_none {q : Nat → α → Option R} {l : List α} {n : Nat} : firstI q n l = none ↔ ∀ (i : Nat) x, l[i]? = some x → q (n + i) x = none := by
  induction l generalizing n with
  | nil => simp [firstI]
  | cons x l ih =>
    unfold firstI
    cases h : q n x with
    | some y =>
      simp only [reduceCtorEq, false_iff]
      intro hh
      have := hh 0 x rfl
      rw [Nat.add_zero, h] at this; cases this
    | none =>
      rw [ih]
      constructor
      · intro hh i y hy
        cases i with
        | zero => simp at hy; subst hy; exact h
        | succ i => rw [show n + (i + 1) = n + 1 + i by omega]; exact hh i y (by simpa using hy)
      · intro hh i y hy
        rw [show n + 1 + i = n + (i + 1) by omega]; exact hh (i + 1) y (by simpa using hy)
theorem firstI_some {q : Nat → α → Option R} {l : List α} {n : Nat} {r : R} (h : firstI q n l = some r) : ∃ (i : Nat) (x : α), l[i]? = some x ∧ q (n + i) x = some r := by
  induction l generalizing n with
  | nil => cases h
  | cons x l ih =>
    unfold firstI at h
    cases hq : q n x with
    | some y => rw [hq] at h; cases h; exact ⟨0, x, rfl, hq⟩
    | none =>
      rw [hq] at h
      obtain ⟨i, y, h1, h2⟩ := ih h
      exact ⟨i + 1, y, by simpa using h1, by rw [show n + (i + 1) = n + 1 + i by omega]; exact h2⟩
theorem lt_get {l : List α} {i : Nat} {x : α} (h : l[i]? = some x) : i < l.length := (List.getElem?_eq_some_iff.1 h).1
theorem dec_lt {l : List α} {i : Nat} {x : α} (h : l[i]? = some x) : decide ((i : Int) < (l.length : Int)) = true := by have := lt_get h; simp; omega
theorem dec_len (l : List α) : decide ((l.length : Int) < (l.length : Int)) = false := by simp
theorem idx_get {l : List α} {i : Nat} {x : α} (h : l[i]? = some x) : idx l (i : Int) = some x := by rw [idx_nat]; exact h
end
end Go.Proofs.Ytpclhpncmlbccaa

/- Stable sorting and merging of lists by a key, in plain Lean. -/
namespace Go.Proofs.Ytpclhpncmlbccaa
set_option linter.unusedVariables false
section
variable {α : Type} (key : α → Int)
/-- two lists merged; of equal elements those of the first list come first -/
def mrg : List α → List α → List α
  | [], B => B
  | a :: A, [] => a :: A
  | a :: A, b :: B => if key b < key a then b :: mrg (a :: A) B else a :: mrg A (b :: B)
termination_by A B => A.length + B.length
/-- before the first element that is not less -/
def ins (x : α) : List α → List α
  | [] => [x]
  | y :: l => if key y < key x then y :: ins x l else x :: y :: l
def isort : List α → List α
  | [] => []
  | x :: l => ins key x (isort l)
def sortd : List α → Prop
  | [] => True
  | x :: l => (∀ y ∈ l, key x ≤ key y) ∧ sortd l
theorem mrg_nil (A : List α) : mrg key A [] = A := by cases A <;> simp [mrg]
theorem nil_mrg (B : List α) : mrg key [] B = B := by simp [mrg]
theorem mrg_cons (a b : α) (A B : List α) : mrg key (a :: A) (b :: B) = if key b < key a then b :: mrg key (a :: A) B else a :: mrg key A (b :: B) := by rw [mrg]
theorem mem_mrg : ∀ (n : Nat) (A B : List α), A.length + B.length ≤ n → ∀ z, z ∈ mrg key A B ↔ z ∈ A ∨ z ∈ B
  | n, [], B, _, z => by simp [nil_mrg]
  | n, a :: A, [], _, z => by simp [mrg_nil]
  | 0, a :: A, b :: B, h, z => by simp at h
  | n + 1, a :: A, b :: B, h, z => by
    simp only [List.length_cons] at h
    rw [mrg_cons]
    split
    · rw [List.mem_cons, mem_mrg n (a :: A) B (by simp only [List.length_cons]; omega)]
      simp only [List.mem_cons]
      grind
    · rw [List.mem_cons, mem_mrg n A (b :: B) (by simp only [List.length_cons]; omega)]
      simp only [List.mem_cons]
      grind
theorem mem_mrg' {A B : List α} {z : α} : z ∈ mrg key A B ↔ z ∈ A ∨ z ∈ B := mem_mrg key _ A B (Nat.le_refl _) z
theorem len_mrg : ∀ (n : Nat) (A B : List α), A.length + B.length ≤ n → (mrg key A B).length = A.length + B.length
  | n, [], B, _ => by simp [nil_mrg]
  | n, a :: A, [], _ => by simp [mrg_nil]
  | 0, a :: A, b :: B, h => by simp at h
  | n + 1, a :: A, b :: B, h => by
    simp only [List.length_cons] at h
    rw [mrg_cons]
    split
    · rw [List.length_cons, len_mrg n (a :: A) B (by simp only [List.length_cons]; omega)]; simp only [List.length_cons]; omega
    · rw [List.length_cons, len_mrg n A (b :: B) (by simp only [List.length_cons]; omega)]; simp only [List.length_cons]; omega
/-- merging in two parts -/
theorem mrg_split : ∀ (n : Nat) (A1 B1 A2 B2 : List α), A1.length + B1.length ≤ n → (∀ x ∈ A1, ∀ y ∈ B2, key x ≤ key y) → (∀ y ∈ B1, ∀ x ∈ A2, key y < key x) → mrg key (A1 ++ A2) (B1 ++ B2) = mrg key A1 B1 ++ mrg key A2 B2
  | n, [], [], A2, B2, _, _, _ => by simp [nil_mrg]
  | 0, a :: A1, B1, A2, B2, h, _, _ => by simp at h
  | 0, [], b :: B1, A2, B2, h, _, _ => by simp at h
  | n + 1, [], b :: B1, A2, B2, h, h1, h2 => by
    have ih := mrg_split n [] B1 A2 B2 (by simp only [List.length_cons] at h ⊢; omega) h1 (fun y hy => h2 y (by simp [hy]))
    simp only [List.nil_append, nil_mrg] at ih ⊢
    cases A2 with
    | nil => simp [nil_mrg]
    | cons x A2 =>
      rw [List.cons_append, mrg_cons, if_pos (h2 b (by simp) x (by simp)), ih]
      rfl
  | n + 1, a :: A1, [], A2, B2, h, h1, h2 => by
    have ih := mrg_split n A1 [] A2 B2 (by simp only [List.length_cons] at h ⊢; omega) (fun x hx => h1 x (by simp [hx])) h2
    simp only [List.nil_append, mrg_nil] at ih ⊢
    cases B2 with
    | nil => simp [mrg_nil]
    | cons y B2 =>
      rw [List.cons_append, mrg_cons, if_neg (by have := h1 a (by simp) y (by simp); omega), ih]
      rfl
  | n + 1, a :: A1, b :: B1, A2, B2, h, h1, h2 => by
    simp only [List.length_cons] at h
    rw [List.cons_append, List.cons_append, mrg_cons, mrg_cons]
    split
    · have ih := mrg_split n (a :: A1) B1 A2 B2 (by simp only [List.length_cons]; omega) h1 (fun y hy => h2 y (by simp [hy]))
      rw [List.cons_append] at ih
      rw [ih]; rfl
    · have ih := mrg_split n A1 (b :: B1) A2 B2 (by simp only [List.length_cons]; omega) (fun x hx => h1 x (by simp [hx])) h2
      rw [List.cons_append] at ih
      rw [ih]; rfl
theorem mem_ins {x z : α} : ∀ {l : List α}, z ∈ ins key x l ↔ z = x ∨ z ∈ l
  | [] => by simp [ins]
  | y :: l => by
    unfold ins
    split
    · rw [List.mem_cons, mem_ins (l := l), List.mem_cons]; grind
    · simp
theorem ins_sorted {x : α} : ∀ {l : List α}, sortd key l → sortd key (ins key x l)
  | [], _ => ⟨fun y hy => (by cases hy), trivial⟩
  | y :: l, h => by
    unfold ins
    split
    · rename_i hlt
      refine ⟨fun z hz => ?_, ins_sorted h.2⟩
      rcases (mem_ins key).1 hz with rfl | hz
      · omega
      · exact h.1 z hz
    · rename_i hlt
      refine ⟨fun z hz => ?_, h⟩
      rcases List.mem_cons.1 hz with rfl | hz
      · omega
      · have := h.1 z hz; omega
theorem isort_sorted : ∀ l : List α, sortd key (isort key l)
  | [] => trivial
  | x :: l => ins_sorted key (isort_sorted l)
theorem mem_isort {z : α} : ∀ {l : List α}, z ∈ isort key l ↔ z ∈ l
  | [] => by simp [isort]
  | x :: l => by unfold isort; rw [mem_ins, mem_isort (l := l), List.mem_cons]
theorem len_ins (x : α) : ∀ l : List α, (ins key x l).length = l.length + 1
  | [] => rfl
  | y :: l => by unfold ins; split <;> simp [len_ins x l]
theorem len_isort : ∀ l : List α, (isort key l).length = l.length
  | [] => rfl
  | x :: l => by unfold isort; rw [len_ins, len_isort l, List.length_cons]
theorem ins_front {x : α} {l : List α} (h : ∀ y ∈ l, key x ≤ key y) : ins key x l = x :: l := by
  cases l with
  | nil => rfl
  | cons y l => unfold ins; rw [if_neg (by have := h y (by simp); omega)]
theorem ins_mrg {x : α} : ∀ (n : Nat) (A B : List α), A.length + B.length ≤ n → sortd key A → sortd key B → mrg key (ins key x A) B = ins key x (mrg key A B)
  | n, A, [], _, _, _ => by rw [mrg_nil, mrg_nil]
  | 0, [], b :: B, h, _, _ => by simp at h
  | 0, a :: A, b :: B, h, _, _ => by simp at h
  | n + 1, [], b :: B, h, _, hb => by
    rw [nil_mrg]
    show mrg key [x] (b :: B) = if key b < key x then b :: ins key x B else x :: b :: B
    rw [mrg_cons]
    split
    · have := ins_mrg (x := x) n [] B (by simp only [List.length_cons] at h ⊢; omega) trivial hb.2
      rw [nil_mrg] at this
      rw [← this]; rfl
    · rw [nil_mrg]
  | n + 1, a :: A, b :: B, h, ha, hb => by
    simp only [List.length_cons] at h
    by_cases h1 : key a < key x
    · have e1 : ins key x (a :: A) = a :: ins key x A := by show (if key a < key x then _ else _) = _; rw [if_pos h1]
      rw [e1, mrg_cons, mrg_cons]
      by_cases h2 : key b < key a
      · rw [if_pos h2, if_pos h2]
        have ih := ins_mrg (x := x) n (a :: A) B (by simp only [List.length_cons]; omega) ha hb.2
        rw [e1] at ih
        rw [ih]
        show _ = if key b < key x then _ else _
        rw [if_pos (by omega)]
      · rw [if_neg h2, if_neg h2, ins_mrg n A (b :: B) (by simp only [List.length_cons]; omega) ha.2 hb]
        show _ = if key a < key x then _ else _
        rw [if_pos h1]
    · have e1 : ins key x (a :: A) = x :: a :: A := by show (if key a < key x then _ else _) = _; rw [if_neg h1]
      rw [e1, mrg_cons key x b (a :: A) B]
      by_cases h2 : key b < key x
      · rw [if_pos h2]
        have ih := ins_mrg (x := x) n (a :: A) B (by simp only [List.length_cons]; omega) ha hb.2
        rw [e1] at ih
        rw [ih, mrg_cons, if_pos (by omega)]
        show _ = if key b < key x then _ else _
        rw [if_pos h2]
      · rw [if_neg h2]
        symm
        refine ins_front key fun y hy => ?_
        rcases (mem_mrg' key).1 hy with hy | hy
        · rcases List.mem_cons.1 hy with rfl | hy
          · omega
          · have := ha.1 y hy; omega
        · rcases List.mem_cons.1 hy with rfl | hy
          · omega
          · have := hb.1 y hy; omega
/-- two sorted parts merged -/
theorem isort_append : ∀ A B : List α, isort key (A ++ B) = mrg key (isort key A) (isort key B)
  | [], B => by show isort key B = mrg key [] (isort key B); rw [nil_mrg]
  | a :: A, B => by
    show ins key a (isort key (A ++ B)) = mrg key (ins key a (isort key A)) (isort key B)
    rw [isort_append A B, ins_mrg key _ _ _ (Nat.le_refl _) (isort_sorted key A) (isort_sorted key B)]
theorem mrg_one_right {y : α} {A1 A2 : List α} (h1 : ∀ x ∈ A1, key x ≤ key y) (h2 : ∀ x ∈ A2, key y < key x) : mrg key (A1 ++ A2) [y] = A1 ++ y :: A2 := by
  have := mrg_split key _ A1 [] A2 [y] (Nat.le_refl _) (fun x hx z hz => by rw [List.mem_singleton.1 hz]; exact h1 x hx) (fun z hz => by cases hz)
  rw [List.nil_append, mrg_nil] at this
  rw [this]
  have h3 := mrg_split key _ [] [y] A2 [] (Nat.le_refl _) (fun x hx => by cases hx) (fun z hz x hx => by rw [List.mem_singleton.1 hz]; exact h2 x hx)
  rw [List.nil_append, List.append_nil, nil_mrg, mrg_nil] at h3
  rw [h3]; rfl
theorem mrg_one_left {x : α} {B1 B2 : List α} (h1 : ∀ y ∈ B1, key y < key x) (h2 : ∀ y ∈ B2, key x ≤ key y) : mrg key [x] (B1 ++ B2) = B1 ++ x :: B2 := by
  have := mrg_split key _ [] B1 [x] B2 (Nat.le_refl _) (fun z hz => by cases hz) (fun y hy z hz => by rw [List.mem_singleton.1 hz]; exact h1 y hy)
  rw [List.nil_append, nil_mrg] at this
  rw [this]
  have h3 := mrg_split key _ [x] [] [] B2 (Nat.le_refl _) (fun z hz y hy => by rw [List.mem_singleton.1 hz]; exact h2 y hy) (fun y hy => by cases hy)
  rw [List.append_nil, List.nil_append, nil_mrg, mrg_nil] at h3
  rw [h3]; rfl
end
end Go.Proofs.Ytpclhpncmlbccaa

/- Plain lemmas: bulk, counters, copying down in a list. No program is named. -/
namespace Go.Proofs.Ytpclhpncmlbccaa
open Go.RowKit
theorem first_idx {α : Type} (c : α → Bool) (l : List α) : ∀ n : Nat, decide ((0 : Int) ≤ (firstI (fun i x => if c x then some ((i : Nat) : Int) else none) n l).getD (-1)) = l.any c := by
  induction l with
  | nil => intro n; rfl
  | cons x l ih =>
    intro n
    unfold firstI
    cases hc : c x with
    | true => simp [hc]
    | false => simp only [Bool.false_eq_true, if_false, List.any_cons, hc, Bool.false_or]; exact ih (n + 1)
theorem elim_idx (o : Option Int) : Sum.elim (fun _ => some (-1)) (fun b => some b) (o.elim (Sum.inl ()) Sum.inr : Unit ⊕ Int) = some (o.getD (-1)) := by cases o <;> rfl
theorem sc (i : Nat) (h : i < 9223372036854775807) : w64 ((i : Int) + 1) = ((i + 1 : Nat) : Int) := by rw [show ((i : Int) + 1) = ((i + 1 : Nat) : Int) by omega, w64_n _ (by omega)]

theorem bkL_pos {T : Type} (bk : T → Nat) (l : List T) : 1 ≤ bkL bk l := by
  induction l with
  | nil => simp [bkL]
  | cons y l ih => unfold bkL; omega
theorem bkL_mem {T : Type} {bk : T → Nat} {l : List T} {x : T} (h : x ∈ l) : bk x + 1 ≤ bkL bk l := by
  induction l with
  | nil => cases h
  | cons y l ih =>
    unfold bkL
    have hp := bkL_pos bk l
    rcases List.mem_cons.1 h with rfl | h
    · omega
    · have := ih h; omega
theorem bkL_len {T : Type} {bk : T → Nat} (hb : ∀ x, 1 ≤ bk x) (l : List T) : l.length + 1 ≤ bkL bk l := by
  induction l with
  | nil => simp [bkL]
  | cons y l ih => unfold bkL; have := hb y; simp; omega

section
variable {α : Type}
end
theorem mget_mputG {V : Type} (m : List (Str × V)) (k : Str) (v : V) (x : Str) : mget (mput m k v) x = if k == x then some v else mget m x := by
  induction m with
  | nil => rfl
  | cons p m ih =>
    obtain ⟨k', v'⟩ := p
    unfold mput
    by_cases h : k' = k
    · subst h
      simp only [beq_self_eq_true, if_true, mget]
      cases k' == x <;> simp
    · have h1 : (k' == k) = false := by simpa using h
      rw [h1]
      simp only [Bool.false_eq_true, if_false, mget]
      rw [ih]
      by_cases h2 : k' = x
      · subst h2
        have : (k == k') = false := by simpa using fun h' => h h'.symm
        simp [this]
      · have : (k' == x) = false := by simpa using h2
        rw [this]; simp

section
variable {α A S O : Type}
end
end Go.Proofs.Ytpclhpncmlbccaa

/- Functions of the program as Lean functions: what they compute. Written by program. -/
namespace Go.Proofs.Ytpclhpncmlbccaa
open Go.RowKit
set_option maxRecDepth 100000
set_option maxHeartbeats 40000000
set_option linter.unusedVariables false
def R_At (a0 : Int) (a1 : Int) : Option TFault :=
  some ((TFault.mk a0 a1))
def R_Has_l1 (a0 : List Str) (a1 : Str) (s1 : Int) : Option (Step Int (Unit ⊕ Bool)) :=
  (bif decide (s1 < (a0.length : Int)) then (idx a0 s1).bind fun v7 => (bif (v7 == a1) then some (.out (.inr true)) else some (.cont (w64 (s1 + 1)))) else some (.out (.inl (()))))
noncomputable def R_Has (a0 : List Str) (a1 : Str) : Option Bool :=
  (iter (R_Has_l1 a0 a1) 0).bind (Sum.elim (fun b2 => some false) (fun b3 => some b3))
def basic_Fault (a0 : Int) (a1 : Int) : Option TFault :=
  some ((TFault.mk a0 a1))
def basic_None  : Option TFault :=
  some ((TFault.mk 0 0))
def basic_Failed (a0 : TFault) : Option Bool :=
  some ((a0.Code != 0))
def R_Strings_l1 (a0 : List Str) (a1 : List Str) (s2 : Int) : Option (Step Int (Unit ⊕ Bool)) :=
  (bif decide (s2 < (a0.length : Int)) then (idx a0 s2).bind fun v8 => (idx a1 s2).bind fun v10 => (bif (v8 != v10) then some (.out (.inr false)) else some (.cont (w64 (s2 + 1)))) else some (.out (.inl (()))))
noncomputable def R_Strings (a0 : List Str) (a1 : List Str) : Option Bool :=
  (bif ((a0.length : Int) != (a1.length : Int)) then some false else (iter (R_Strings_l1 a0 a1) 0).bind (Sum.elim (fun b3 => some true) (fun b4 => some b4)))
end Go.Proofs.Ytpclhpncmlbccaa

/- Library functions as Lean functions. -/
namespace Go.Proofs.Ytpclhpncmlbccaa
open Go.RowKit
def strings_Contains (s t : Str) : Option Bool := if s.length < 4294967281 then some (Lib.contains s t) else none
end Go.Proofs.Ytpclhpncmlbccaa

/- Functions of the program as Lean functions: what they compute. Written by program. -/
namespace Go.Proofs.Ytpclhpncmlbccaa
open Go.RowKit
set_option maxRecDepth 100000
set_option maxHeartbeats 40000000
set_option linter.unusedVariables false
end Go.Proofs.Ytpclhpncmlbccaa

/- Library functions as Lean functions. -/
namespace Go.Proofs.Ytpclhpncmlbccaa
open Go.RowKit
end Go.Proofs.Ytpclhpncmlbccaa

/- Functions of the program as Lean functions: what they compute. Written by program. -/
namespace Go.Proofs.Ytpclhpncmlbccaa
open Go.RowKit
set_option maxRecDepth 100000
set_option maxHeartbeats 40000000
set_option linter.unusedVariables false
end Go.Proofs.Ytpclhpncmlbccaa

/- Functions of the program as Lean functions: what they compute. Written by program. -/
namespace Go.Proofs.Ytpclhpncmlbccaa
open Go.RowKit
set_option maxRecDepth 100000
set_option maxHeartbeats 40000000
set_option linter.unusedVariables false
end Go.Proofs.Ytpclhpncmlbccaa

/- Functions of the program as Lean functions: what they compute. Written by program. -/
namespace Go.Proofs.Ytpclhpncmlbccaa
open Go.RowKit
set_option maxRecDepth 100000
set_option maxHeartbeats 40000000
set_option linter.unusedVariables false
end Go.Proofs.Ytpclhpncmlbccaa

/- Functions of the program as Lean functions: what they compute. Written by program. -/
namespace Go.Proofs.Ytpclhpncmlbccaa
open Go.RowKit
set_option maxRecDepth 100000
set_option maxHeartbeats 40000000
set_option linter.unusedVariables false
def internal_stringslite_HasPrefix (a0 : Str) (a1 : Str) : Option Bool :=
  ((bif decide ((a1.length : Int) ≤ (a0.length : Int)) then (cut a0 0 ((a1.length : Int))).bind fun v3 => some ((v3 == a1)) else some false) : Option Bool).bind fun (j1 : Bool) => some j1
def strings_HasPrefix (a0 : Str) (a1 : Str) : Option Bool :=
  (internal_stringslite_HasPrefix a0 a1).bind fun v1 => some v1
def internal_stringslite_HasSuffix (a0 : Str) (a1 : Str) : Option Bool :=
  ((bif decide ((a1.length : Int) ≤ (a0.length : Int)) then (cut a0 ((w64 ((a0.length : Int) - (a1.length : Int)))) ((a0.length : Int))).bind fun v3 => some ((v3 == a1)) else some false) : Option Bool).bind fun (j1 : Bool) => some j1
def strings_HasSuffix (a0 : Str) (a1 : Str) : Option Bool :=
  (internal_stringslite_HasSuffix a0 a1).bind fun v1 => some v1
def envelope_Domain_l1 (a0 : Str) (s5 : Int) : Option (Step Int (Unit ⊕ Unit)) :=
  (bif decide (s5 < (a0.length : Int)) then (idx a0 s5).bind fun v11 => ((bif decide (97 ≤ (v11.toNat : Int)) then (bif decide ((v11.toNat : Int) ≤ 122) then some true else (bif decide (48 ≤ (v11.toNat : Int)) then (bif decide ((v11.toNat : Int) ≤ 57) then some true else (bif ((v11.toNat : Int) == 45) then some true else some (((v11.toNat : Int) == 46)))) else (bif ((v11.toNat : Int) == 45) then some true else some (((v11.toNat : Int) == 46))))) else (bif decide (48 ≤ (v11.toNat : Int)) then (bif decide ((v11.toNat : Int) ≤ 57) then some true else (bif ((v11.toNat : Int) == 45) then some true else some (((v11.toNat : Int) == 46)))) else (bif ((v11.toNat : Int) == 45) then some true else some (((v11.toNat : Int) == 46))))) : Option Bool).bind fun (j13 : Bool) => (bif (!j13) then some (.out (.inr (()))) else some (.cont (w64 (s5 + 1)))) else some (.out (.inl (()))))
noncomputable def envelope_Domain (a0 : Str) : Option Bool :=
  ((bif (a0 != ([] : Str)) then (bif decide ((a0.length : Int) ≤ 60) then ((iter (envelope_Domain_l1 a0) 0).bind (Sum.elim (fun b6 => some true) (fun b7 => some false)) : Option Bool).bind fun (j4 : Bool) => (bif j4 then (strings_HasPrefix a0 (([46] : Str))).bind fun v26 => (bif (!v26) then (strings_HasSuffix a0 (([46] : Str))).bind fun v29 => (bif (!v29) then (strings_Contains a0 (([46, 46] : Str))).bind fun v32 => some ((!v32)) else some false) else some false) else some false) else some false) else some false) : Option Bool).bind fun (j1 : Bool) => some j1
end Go.Proofs.Ytpclhpncmlbccaa

/- Functions of the program as Lean functions: what they compute. Written by program. -/
namespace Go.Proofs.Ytpclhpncmlbccaa
open Go.RowKit
set_option maxRecDepth 100000
set_option maxHeartbeats 40000000
set_option linter.unusedVariables false
end Go.Proofs.Ytpclhpncmlbccaa

/- Functions of the program as Lean functions: what they compute. Written by program. -/
namespace Go.Proofs.Ytpclhpncmlbccaa
open Go.RowKit
set_option maxRecDepth 100000
set_option maxHeartbeats 40000000
set_option linter.unusedVariables false
def slices_Index_string_string_l1 (a0 : List Str) (a1 : Str) (s1 : Int) : Option (Step Int (Unit ⊕ Int)) :=
  (bif decide (s1 < (a0.length : Int)) then (idx a0 s1).bind fun v7 => (bif (a1 == v7) then some (.out (.inr s1)) else some (.cont (w64 (s1 + 1)))) else some (.out (.inl (()))))
noncomputable def slices_Index_string_string (a0 : List Str) (a1 : Str) : Option Int :=
  (iter (slices_Index_string_string_l1 a0 a1) 0).bind (Sum.elim (fun b2 => some ((-1))) (fun b3 => some b3))
noncomputable def slices_Contains_string_string (a0 : List Str) (a1 : Str) : Option Bool :=
  (slices_Index_string_string a0 a1).bind fun v1 => some (decide (0 ≤ v1))
end Go.Proofs.Ytpclhpncmlbccaa

/- Functions of the program as Lean functions: what they compute. Written by program. -/
namespace Go.Proofs.Ytpclhpncmlbccaa
open Go.RowKit
set_option maxRecDepth 100000
set_option maxHeartbeats 40000000
set_option linter.unusedVariables false
end Go.Proofs.Ytpclhpncmlbccaa

/- Functions of the program as Lean functions: what they compute. Written by program. -/
namespace Go.Proofs.Ytpclhpncmlbccaa
open Go.RowKit
set_option maxRecDepth 100000
set_option maxHeartbeats 40000000
set_option linter.unusedVariables false
end Go.Proofs.Ytpclhpncmlbccaa

/- Functions of the program as Lean functions: what they compute. Written by program. -/
namespace Go.Proofs.Ytpclhpncmlbccaa
open Go.RowKit
set_option maxRecDepth 100000
set_option maxHeartbeats 40000000
set_option linter.unusedVariables false
end Go.Proofs.Ytpclhpncmlbccaa

/- Functions of the program as Lean functions: what they compute. Written by program. -/
namespace Go.Proofs.Ytpclhpncmlbccaa
open Go.RowKit
set_option maxRecDepth 100000
set_option maxHeartbeats 40000000
set_option linter.unusedVariables false
end Go.Proofs.Ytpclhpncmlbccaa

/- Functions of the program as Lean functions: what they compute. Written by program. -/
namespace Go.Proofs.Ytpclhpncmlbccaa
open Go.RowKit
set_option maxRecDepth 100000
set_option maxHeartbeats 40000000
set_option linter.unusedVariables false
end Go.Proofs.Ytpclhpncmlbccaa

/- Functions of the program as Lean functions: what they compute. Written by program. -/
namespace Go.Proofs.Ytpclhpncmlbccaa
open Go.RowKit
set_option maxRecDepth 100000
set_option maxHeartbeats 40000000
set_option linter.unusedVariables false
end Go.Proofs.Ytpclhpncmlbccaa

/- Functions of the program as Lean functions: what they compute. Written by program. -/
namespace Go.Proofs.Ytpclhpncmlbccaa
open Go.RowKit
set_option maxRecDepth 100000
set_option maxHeartbeats 40000000
set_option linter.unusedVariables false
end Go.Proofs.Ytpclhpncmlbccaa

/- Numerals of the library as Lean functions. -/
namespace Go.Proofs.Ytpclhpncmlbccaa
open Go.RowKit
end Go.Proofs.Ytpclhpncmlbccaa

/- Functions of the program as Lean functions: what they compute. Written by program. -/
namespace Go.Proofs.Ytpclhpncmlbccaa
open Go.RowKit
set_option maxRecDepth 100000
set_option maxHeartbeats 40000000
set_option linter.unusedVariables false
end Go.Proofs.Ytpclhpncmlbccaa

/- Library functions as Lean functions: texts joined and repeated. -/
namespace Go.Proofs.Ytpclhpncmlbccaa
open Go.RowKit
end Go.Proofs.Ytpclhpncmlbccaa

/- Library functions as Lean functions: texts split. -/
namespace Go.Proofs.Ytpclhpncmlbccaa
open Go.RowKit
end Go.Proofs.Ytpclhpncmlbccaa

/- Functions of the program as Lean functions: what they compute. Written by program. -/
namespace Go.Proofs.Ytpclhpncmlbccaa
open Go.RowKit
set_option maxRecDepth 100000
set_option maxHeartbeats 40000000
set_option linter.unusedVariables false
end Go.Proofs.Ytpclhpncmlbccaa

/- Library functions as Lean functions: texts divided at spaces. -/
namespace Go.Proofs.Ytpclhpncmlbccaa
open Go.RowKit
end Go.Proofs.Ytpclhpncmlbccaa

/- Library functions as Lean functions: beginnings and ends taken away. -/
namespace Go.Proofs.Ytpclhpncmlbccaa
open Go.RowKit
def strings_CutPrefix (s t : Str) : Option (Str × Bool) := some (Lib.trimPrefix s t, Lib.hasPrefix s t)
end Go.Proofs.Ytpclhpncmlbccaa

/- Functions of the program as Lean functions: what they compute. Written by program. -/
namespace Go.Proofs.Ytpclhpncmlbccaa
open Go.RowKit
set_option maxRecDepth 100000
set_option maxHeartbeats 40000000
set_option linter.unusedVariables false
end Go.Proofs.Ytpclhpncmlbccaa

/- Functions of the program as Lean functions: what they compute. Written by program. -/
namespace Go.Proofs.Ytpclhpncmlbccaa
open Go.RowKit
set_option maxRecDepth 100000
set_option maxHeartbeats 40000000
set_option linter.unusedVariables false
end Go.Proofs.Ytpclhpncmlbccaa

/- Functions of the program as Lean functions: what they compute. Written by program. -/
namespace Go.Proofs.Ytpclhpncmlbccaa
open Go.RowKit
set_option maxRecDepth 100000
set_option maxHeartbeats 40000000
set_option linter.unusedVariables false
end Go.Proofs.Ytpclhpncmlbccaa

/- Functions of the program as Lean functions: what they compute. Written by program. -/
namespace Go.Proofs.Ytpclhpncmlbccaa
open Go.RowKit
set_option maxRecDepth 100000
set_option maxHeartbeats 40000000
set_option linter.unusedVariables false
end Go.Proofs.Ytpclhpncmlbccaa

/- A replacer of bytes as a Lean function. -/
namespace Go.Proofs.Ytpclhpncmlbccaa
open Go.RowKit
end Go.Proofs.Ytpclhpncmlbccaa

/- Library functions as Lean functions: ends taken away; a byte's place. -/
namespace Go.Proofs.Ytpclhpncmlbccaa
open Go.RowKit
end Go.Proofs.Ytpclhpncmlbccaa

/- Functions of the program as Lean functions: what they compute. Written by program. -/
namespace Go.Proofs.Ytpclhpncmlbccaa
open Go.RowKit
set_option maxRecDepth 100000
set_option maxHeartbeats 40000000
set_option linter.unusedVariables false
end Go.Proofs.Ytpclhpncmlbccaa

/- Functions of the program as Lean functions: what they compute. Written by program. -/
namespace Go.Proofs.Ytpclhpncmlbccaa
open Go.RowKit
set_option maxRecDepth 100000
set_option maxHeartbeats 40000000
set_option linter.unusedVariables false
end Go.Proofs.Ytpclhpncmlbccaa

/- Functions of the program as Lean functions: what they compute. Written by program. -/
namespace Go.Proofs.Ytpclhpncmlbccaa
open Go.RowKit
set_option maxRecDepth 100000
set_option maxHeartbeats 40000000
set_option linter.unusedVariables false
end Go.Proofs.Ytpclhpncmlbccaa

/- Functions of the program as Lean functions: what they compute. Written by program. -/
namespace Go.Proofs.Ytpclhpncmlbccaa
open Go.RowKit
set_option maxRecDepth 100000
set_option maxHeartbeats 40000000
set_option linter.unusedVariables false
noncomputable def routes_pattern (a0 : Str) : Option Bool :=
  (strings_CutPrefix a0 (([42, 46] : Str))).bind fun v1 => ((bif (a0 == ([42] : Str)) then some true else (bif v1.2 then (envelope_Domain v1.1).bind fun v6 => (bif v6 then some true else (envelope_Domain a0).bind fun v9 => some v9) else (envelope_Domain a0).bind fun v11 => some v11)) : Option Bool).bind fun (j3 : Bool) => some j3
noncomputable def routes_Validate_l1 (a0 : List TRoute) (s4 : Int) : Option (Step Int (Unit ⊕ TFault)) :=
  (bif decide (s4 < (a0.length : Int)) then (idx a0 s4).bind fun v10 => ((routes_pattern v10.Pattern).bind fun v13 => (bif (!v13) then some true else (envelope_Domain v10.Host).bind fun v16 => some ((!v16))) : Option Bool).bind fun (j12 : Bool) => (bif j12 then (basic_Fault 10 s4).bind fun v19 => some (.out (.inr v19)) else ((bif decide (v10.Preference < 0) then some true else some (decide (1000000 < v10.Preference))) : Option Bool).bind fun (j21 : Bool) => (bif j21 then (basic_Fault 3 s4).bind fun v24 => some (.out (.inr v24)) else some (.cont (w64 (s4 + 1))))) else some (.out (.inl (()))))
noncomputable def routes_Validate (a0 : List TRoute) : Option TFault :=
  (bif decide (40 < (a0.length : Int)) then (basic_Fault 2 ((-1))).bind fun v2 => some v2 else (iter (routes_Validate_l1 a0) 0).bind (Sum.elim (fun b5 => (basic_None).bind fun v26 => some v26) (fun b6 => some b6)))
noncomputable def routes_matches (a0 : Str) (a1 : Str) : Option Bool :=
  (strings_CutPrefix a0 (([42] : Str))).bind fun v1 => ((bif v1.2 then (strings_HasSuffix a1 v1.1).bind fun v5 => (bif v5 then some true else some ((a0 == a1))) else some ((a0 == a1))) : Option Bool).bind fun (j3 : Bool) => some j3
def routes_best_k2 (s1 : Str × Int) (j7 : Str) : Option (Step (Str × Int) (Str ⊕ Str)) :=
  some (.cont (j7, (w64 (s1.2 + 1))))
noncomputable def routes_best_l1 (a0 : List TRoute) (a1 : Str) (s1 : Str × Int) : Option (Step (Str × Int) (Str ⊕ Str)) :=
  (bif decide (s1.2 < (a0.length : Int)) then (idx a0 s1.2).bind fun v8 => (bif (v8.Pattern == a1) then some (.out (.inr a1)) else ((routes_matches v8.Pattern a1).bind fun v12 => (bif v12 then some (decide ((s1.1.length : Int) < (v8.Pattern.length : Int))) else some false) : Option Bool).bind fun (j11 : Bool) => (bif j11 then (routes_best_k2 s1 v8.Pattern) else (routes_best_k2 s1 s1.1))) else some (.out (.inl s1.1)))
noncomputable def routes_best (a0 : List TRoute) (a1 : Str) : Option Str :=
  (iter (routes_best_l1 a0 a1) ((([] : Str), 0))).bind (Sum.elim (fun b2 => some b2) (fun b3 => some b3))
def slices_insertionSortCmpFunc_api_Route_l2 (a1 : Int) (s5 : Int × (List TRoute)) : Option (Step (Int × (List TRoute)) (List TRoute)) :=
  ((bif decide (a1 < s5.1) then (idx s5.2 s5.1).bind fun v10 => (idx s5.2 s5.1).bind fun v12 => (idx s5.2 ((w64 (s5.1 - 1)))).bind fun v14 => (idx s5.2 ((w64 (s5.1 - 1)))).bind fun v16 => some (decide ((w64 (v12.Preference - v16.Preference)) < 0)) else some false) : Option Bool).bind fun (j8 : Bool) => (bif j8 then (idx s5.2 ((w64 (s5.1 - 1)))).bind fun v19 => (idx s5.2 ((w64 (s5.1 - 1)))).bind fun v21 => (idx s5.2 s5.1).bind fun v23 => (idx s5.2 s5.1).bind fun v25 => (idx s5.2 s5.1).bind fun v27 => (idx s5.2 s5.1).bind fun v29 => (idx ((List.set s5.2 (Int.toNat s5.1) v21)) ((w64 (s5.1 - 1)))).bind fun v31 => (idx ((List.set s5.2 (Int.toNat s5.1) v21)) ((w64 (s5.1 - 1)))).bind fun v33 => some (.cont ((w64 (s5.1 - 1)), (List.set ((List.set s5.2 (Int.toNat s5.1) v21)) (Int.toNat ((w64 (s5.1 - 1)))) v25))) else some (.out s5.2))
noncomputable def slices_insertionSortCmpFunc_api_Route_l1 (a1 : Int) (a2 : Int) (s1 : Int × (List TRoute)) : Option (Step (Int × (List TRoute)) (List TRoute)) :=
  (bif decide (s1.1 < a2) then (iter (slices_insertionSortCmpFunc_api_Route_l2 a1) ((s1.1, s1.2))).bind fun b6 => some (.cont ((w64 (s1.1 + 1)), b6)) else some (.out s1.2))
noncomputable def slices_insertionSortCmpFunc_api_Route (a0 : List TRoute) (a1 : Int) (a2 : Int) : Option (List TRoute) :=
  bif a0.isEmpty then none else ((iter (slices_insertionSortCmpFunc_api_Route_l1 a1 a2) (((w64 (a1 + 1)), a0))).bind fun b2 => some b2)
def slices_swapRangeCmpFunc_api_Route_l1 (a1 : Int) (a2 : Int) (a3 : Int) (s1 : Int × (List TRoute)) : Option (Step (Int × (List TRoute)) (List TRoute)) :=
  (bif decide (s1.1 < a3) then (idx s1.2 ((w64 (a2 + s1.1)))).bind fun v5 => (idx s1.2 ((w64 (a2 + s1.1)))).bind fun v7 => (idx s1.2 ((w64 (a1 + s1.1)))).bind fun v9 => (idx s1.2 ((w64 (a1 + s1.1)))).bind fun v11 => (idx s1.2 ((w64 (a1 + s1.1)))).bind fun v13 => (idx s1.2 ((w64 (a1 + s1.1)))).bind fun v15 => (idx ((List.set s1.2 (Int.toNat ((w64 (a1 + s1.1)))) v7)) ((w64 (a2 + s1.1)))).bind fun v17 => (idx ((List.set s1.2 (Int.toNat ((w64 (a1 + s1.1)))) v7)) ((w64 (a2 + s1.1)))).bind fun v19 => some (.cont ((w64 (s1.1 + 1)), (List.set ((List.set s1.2 (Int.toNat ((w64 (a1 + s1.1)))) v7)) (Int.toNat ((w64 (a2 + s1.1)))) v11))) else some (.out s1.2))
noncomputable def slices_swapRangeCmpFunc_api_Route (a0 : List TRoute) (a1 : Int) (a2 : Int) (a3 : Int) : Option (List TRoute) :=
  bif a0.isEmpty then none else ((iter (slices_swapRangeCmpFunc_api_Route_l1 a1 a2 a3) ((0, a0))).bind fun b2 => some b2)
noncomputable def slices_rotateCmpFunc_api_Route_l1 (a2 : Int) (s1 : Int × Int × (List TRoute)) : Option (Step (Int × Int × (List TRoute)) (Int × (List TRoute))) :=
  (bif (s1.1 != s1.2.1) then (bif decide (s1.2.1 < s1.1) then (slices_swapRangeCmpFunc_api_Route s1.2.2 ((w64 (a2 - s1.1))) a2 s1.2.1).bind fun v6 => some (.cont ((w64 (s1.1 - s1.2.1)), s1.2.1, v6)) else (slices_swapRangeCmpFunc_api_Route s1.2.2 ((w64 (a2 - s1.1))) ((w64 ((w64 (a2 + s1.2.1)) - s1.1))) s1.1).bind fun v8 => some (.cont (s1.1, (w64 (s1.2.1 - s1.1)), v8))) else some (.out ((s1.1, s1.2.2))))
noncomputable def slices_rotateCmpFunc_api_Route (a0 : List TRoute) (a1 : Int) (a2 : Int) (a3 : Int) : Option (List TRoute) :=
  bif a0.isEmpty then none else ((iter (slices_rotateCmpFunc_api_Route_l1 a2) (((w64 (a2 - a1)), (w64 (a3 - a2)), a0))).bind fun b2 => (slices_swapRangeCmpFunc_api_Route b2.2 ((w64 (a2 - b2.1))) a2 b2.1).bind fun v10 => some v10)
def slices_symMergeCmpFunc_api_Route_r0_l1 (a0 : List TRoute) (a1 : Int) (s2 : Int × Int) : Option (Step (Int × Int) Int) :=
  (bif decide (s2.1 < s2.2) then (idx a0 ((w64 ((uShr ((wu64 ((w64 (s2.1 + s2.2))))) 1))))).bind fun v6 => (idx a0 ((w64 ((uShr ((wu64 ((w64 (s2.1 + s2.2))))) 1))))).bind fun v8 => (idx a0 a1).bind fun v10 => (idx a0 a1).bind fun v12 => (bif decide ((w64 (v8.Preference - v12.Preference)) < 0) then some (.cont ((w64 ((w64 ((uShr ((wu64 ((w64 (s2.1 + s2.2))))) 1))) + 1)), s2.2)) else some (.cont (s2.1, (w64 ((uShr ((wu64 ((w64 (s2.1 + s2.2))))) 1)))))) else some (.out s2.1))
def slices_symMergeCmpFunc_api_Route_r0_l2 (b3 : Int) (s15 : Int × (List TRoute)) : Option (Step (Int × (List TRoute)) (List TRoute)) :=
  (bif decide (s15.1 < (w64 (b3 - 1))) then (idx s15.2 ((w64 (s15.1 + 1)))).bind fun v19 => (idx s15.2 ((w64 (s15.1 + 1)))).bind fun v21 => (idx s15.2 s15.1).bind fun v23 => (idx s15.2 s15.1).bind fun v25 => (idx s15.2 s15.1).bind fun v27 => (idx s15.2 s15.1).bind fun v29 => (idx ((List.set s15.2 (Int.toNat s15.1) v21)) ((w64 (s15.1 + 1)))).bind fun v31 => (idx ((List.set s15.2 (Int.toNat s15.1) v21)) ((w64 (s15.1 + 1)))).bind fun v33 => some (.cont ((w64 (s15.1 + 1)), (List.set ((List.set s15.2 (Int.toNat s15.1) v21)) (Int.toNat ((w64 (s15.1 + 1)))) v25))) else some (.out s15.2))
def slices_symMergeCmpFunc_api_Route_r0_l3 (a0 : List TRoute) (a2 : Int) (s36 : Int × Int) : Option (Step (Int × Int) Int) :=
  (bif decide (s36.1 < s36.2) then (idx a0 a2).bind fun v40 => (idx a0 a2).bind fun v42 => (idx a0 ((w64 ((uShr ((wu64 ((w64 (s36.1 + s36.2))))) 1))))).bind fun v44 => (idx a0 ((w64 ((uShr ((wu64 ((w64 (s36.1 + s36.2))))) 1))))).bind fun v46 => (bif (!(decide ((w64 (v42.Preference - v46.Preference)) < 0))) then some (.cont ((w64 ((w64 ((uShr ((wu64 ((w64 (s36.1 + s36.2))))) 1))) + 1)), s36.2)) else some (.cont (s36.1, (w64 ((uShr ((wu64 ((w64 (s36.1 + s36.2))))) 1)))))) else some (.out s36.1))
def slices_symMergeCmpFunc_api_Route_r0_l4 (b37 : Int) (s49 : Int × (List TRoute)) : Option (Step (Int × (List TRoute)) (List TRoute)) :=
  (bif decide (b37 < s49.1) then (idx s49.2 ((w64 (s49.1 - 1)))).bind fun v53 => (idx s49.2 ((w64 (s49.1 - 1)))).bind fun v55 => (idx s49.2 s49.1).bind fun v57 => (idx s49.2 s49.1).bind fun v59 => (idx s49.2 s49.1).bind fun v61 => (idx s49.2 s49.1).bind fun v63 => (idx ((List.set s49.2 (Int.toNat s49.1) v55)) ((w64 (s49.1 - 1)))).bind fun v65 => (idx ((List.set s49.2 (Int.toNat s49.1) v55)) ((w64 (s49.1 - 1)))).bind fun v67 => some (.cont ((w64 (s49.1 - 1)), (List.set ((List.set s49.2 (Int.toNat s49.1) v55)) (Int.toNat ((w64 (s49.1 - 1)))) v59))) else some (.out s49.2))
def slices_symMergeCmpFunc_api_Route_r0_l5 (a0 : List TRoute) (j69 : Int × Int × Int × Int) (s71 : Int × Int) : Option (Step (Int × Int) Int) :=
  (bif decide (s71.1 < s71.2) then (idx a0 ((w64 ((w64 (j69.2.1 - 1)) - (w64 ((uShr ((wu64 ((w64 (s71.1 + s71.2))))) 1))))))).bind fun v75 => (idx a0 ((w64 ((w64 (j69.2.1 - 1)) - (w64 ((uShr ((wu64 ((w64 (s71.1 + s71.2))))) 1))))))).bind fun v77 => (idx a0 ((w64 ((uShr ((wu64 ((w64 (s71.1 + s71.2))))) 1))))).bind fun v79 => (idx a0 ((w64 ((uShr ((wu64 ((w64 (s71.1 + s71.2))))) 1))))).bind fun v81 => (bif (!(decide ((w64 (v77.Preference - v81.Preference)) < 0))) then some (.cont ((w64 ((w64 ((uShr ((wu64 ((w64 (s71.1 + s71.2))))) 1))) + 1)), s71.2)) else some (.cont (s71.1, (w64 ((uShr ((wu64 ((w64 (s71.1 + s71.2))))) 1)))))) else some (.out s71.1))
noncomputable def slices_symMergeCmpFunc_api_Route_r0 (a0 : List TRoute) (a1 : Int) (a2 : Int) (a3 : Int) : Option (List TRoute) :=
  bif a0.isEmpty then none else ((bif ((w64 (a2 - a1)) == 1) then (iter (slices_symMergeCmpFunc_api_Route_r0_l1 a0 a1) ((a2, a3))).bind fun b3 => (iter (slices_symMergeCmpFunc_api_Route_r0_l2 b3) ((a1, a0))).bind fun b16 => some b16 else (bif ((w64 (a3 - a2)) == 1) then (iter (slices_symMergeCmpFunc_api_Route_r0_l3 a0 a2) ((a1, a2))).bind fun b37 => (iter (slices_symMergeCmpFunc_api_Route_r0_l4 b37) ((a2, a0))).bind fun b50 => some b50 else ((bif decide ((w64 ((uShr ((wu64 ((w64 (a1 + a3))))) 1))) < a2) then some (((w64 ((uShr ((wu64 ((w64 (a1 + a3))))) 1))), (w64 ((w64 ((uShr ((wu64 ((w64 (a1 + a3))))) 1))) + a2)), (w64 ((w64 ((w64 ((uShr ((wu64 ((w64 (a1 + a3))))) 1))) + a2)) - a3)), (w64 ((uShr ((wu64 ((w64 (a1 + a3))))) 1))))) else some (((w64 ((uShr ((wu64 ((w64 (a1 + a3))))) 1))), (w64 ((w64 ((uShr ((wu64 ((w64 (a1 + a3))))) 1))) + a2)), a1, a2))) : Option (Int × Int × Int × Int)).bind fun (j69 : Int × Int × Int × Int) => (iter (slices_symMergeCmpFunc_api_Route_r0_l5 a0 j69) ((j69.2.2.1, j69.2.2.2))).bind fun b72 => (((bif decide (b72 < a2) then some (((w64 (j69.2.1 - b72)), decide (a2 < (w64 (j69.2.1 - b72))))) else some (((w64 (j69.2.1 - b72)), false))) : Option (Int × Bool)).bind fun (j85 : Int × Bool) => (bif j85.2 then (slices_rotateCmpFunc_api_Route a0 b72 a2 j85.1).bind fun v88 => some ((j85.1, v88)) else some ((j85.1, a0))) : Option (Int × (List TRoute))).bind fun (j84 : Int × (List TRoute)) => ((bif decide (a1 < b72) then some (decide (b72 < j69.1)) else some false) : Option Bool).bind fun (j90 : Bool) => (bif j90 then none else ((bif decide (j69.1 < j84.1) then some (decide (j84.1 < a3)) else some false) : Option Bool).bind fun (j93 : Bool) => (bif j93 then none else some j84.2)))))
def slices_symMergeCmpFunc_api_Route_r1_l1 (a0 : List TRoute) (a1 : Int) (s2 : Int × Int) : Option (Step (Int × Int) Int) :=
  (bif decide (s2.1 < s2.2) then (idx a0 ((w64 ((uShr ((wu64 ((w64 (s2.1 + s2.2))))) 1))))).bind fun v6 => (idx a0 ((w64 ((uShr ((wu64 ((w64 (s2.1 + s2.2))))) 1))))).bind fun v8 => (idx a0 a1).bind fun v10 => (idx a0 a1).bind fun v12 => (bif decide ((w64 (v8.Preference - v12.Preference)) < 0) then some (.cont ((w64 ((w64 ((uShr ((wu64 ((w64 (s2.1 + s2.2))))) 1))) + 1)), s2.2)) else some (.cont (s2.1, (w64 ((uShr ((wu64 ((w64 (s2.1 + s2.2))))) 1)))))) else some (.out s2.1))
def slices_symMergeCmpFunc_api_Route_r1_l2 (b3 : Int) (s15 : Int × (List TRoute)) : Option (Step (Int × (List TRoute)) (List TRoute)) :=
  (bif decide (s15.1 < (w64 (b3 - 1))) then (idx s15.2 ((w64 (s15.1 + 1)))).bind fun v19 => (idx s15.2 ((w64 (s15.1 + 1)))).bind fun v21 => (idx s15.2 s15.1).bind fun v23 => (idx s15.2 s15.1).bind fun v25 => (idx s15.2 s15.1).bind fun v27 => (idx s15.2 s15.1).bind fun v29 => (idx ((List.set s15.2 (Int.toNat s15.1) v21)) ((w64 (s15.1 + 1)))).bind fun v31 => (idx ((List.set s15.2 (Int.toNat s15.1) v21)) ((w64 (s15.1 + 1)))).bind fun v33 => some (.cont ((w64 (s15.1 + 1)), (List.set ((List.set s15.2 (Int.toNat s15.1) v21)) (Int.toNat ((w64 (s15.1 + 1)))) v25))) else some (.out s15.2))
def slices_symMergeCmpFunc_api_Route_r1_l3 (a0 : List TRoute) (a2 : Int) (s36 : Int × Int) : Option (Step (Int × Int) Int) :=
  (bif decide (s36.1 < s36.2) then (idx a0 a2).bind fun v40 => (idx a0 a2).bind fun v42 => (idx a0 ((w64 ((uShr ((wu64 ((w64 (s36.1 + s36.2))))) 1))))).bind fun v44 => (idx a0 ((w64 ((uShr ((wu64 ((w64 (s36.1 + s36.2))))) 1))))).bind fun v46 => (bif (!(decide ((w64 (v42.Preference - v46.Preference)) < 0))) then some (.cont ((w64 ((w64 ((uShr ((wu64 ((w64 (s36.1 + s36.2))))) 1))) + 1)), s36.2)) else some (.cont (s36.1, (w64 ((uShr ((wu64 ((w64 (s36.1 + s36.2))))) 1)))))) else some (.out s36.1))
def slices_symMergeCmpFunc_api_Route_r1_l4 (b37 : Int) (s49 : Int × (List TRoute)) : Option (Step (Int × (List TRoute)) (List TRoute)) :=
  (bif decide (b37 < s49.1) then (idx s49.2 ((w64 (s49.1 - 1)))).bind fun v53 => (idx s49.2 ((w64 (s49.1 - 1)))).bind fun v55 => (idx s49.2 s49.1).bind fun v57 => (idx s49.2 s49.1).bind fun v59 => (idx s49.2 s49.1).bind fun v61 => (idx s49.2 s49.1).bind fun v63 => (idx ((List.set s49.2 (Int.toNat s49.1) v55)) ((w64 (s49.1 - 1)))).bind fun v65 => (idx ((List.set s49.2 (Int.toNat s49.1) v55)) ((w64 (s49.1 - 1)))).bind fun v67 => some (.cont ((w64 (s49.1 - 1)), (List.set ((List.set s49.2 (Int.toNat s49.1) v55)) (Int.toNat ((w64 (s49.1 - 1)))) v59))) else some (.out s49.2))
def slices_symMergeCmpFunc_api_Route_r1_l5 (a0 : List TRoute) (j69 : Int × Int × Int × Int) (s71 : Int × Int) : Option (Step (Int × Int) Int) :=
  (bif decide (s71.1 < s71.2) then (idx a0 ((w64 ((w64 (j69.2.1 - 1)) - (w64 ((uShr ((wu64 ((w64 (s71.1 + s71.2))))) 1))))))).bind fun v75 => (idx a0 ((w64 ((w64 (j69.2.1 - 1)) - (w64 ((uShr ((wu64 ((w64 (s71.1 + s71.2))))) 1))))))).bind fun v77 => (idx a0 ((w64 ((uShr ((wu64 ((w64 (s71.1 + s71.2))))) 1))))).bind fun v79 => (idx a0 ((w64 ((uShr ((wu64 ((w64 (s71.1 + s71.2))))) 1))))).bind fun v81 => (bif (!(decide ((w64 (v77.Preference - v81.Preference)) < 0))) then some (.cont ((w64 ((w64 ((uShr ((wu64 ((w64 (s71.1 + s71.2))))) 1))) + 1)), s71.2)) else some (.cont (s71.1, (w64 ((uShr ((wu64 ((w64 (s71.1 + s71.2))))) 1)))))) else some (.out s71.1))
noncomputable def slices_symMergeCmpFunc_api_Route_r1 (a0 : List TRoute) (a1 : Int) (a2 : Int) (a3 : Int) : Option (List TRoute) :=
  bif a0.isEmpty then none else ((bif ((w64 (a2 - a1)) == 1) then (iter (slices_symMergeCmpFunc_api_Route_r1_l1 a0 a1) ((a2, a3))).bind fun b3 => (iter (slices_symMergeCmpFunc_api_Route_r1_l2 b3) ((a1, a0))).bind fun b16 => some b16 else (bif ((w64 (a3 - a2)) == 1) then (iter (slices_symMergeCmpFunc_api_Route_r1_l3 a0 a2) ((a1, a2))).bind fun b37 => (iter (slices_symMergeCmpFunc_api_Route_r1_l4 b37) ((a2, a0))).bind fun b50 => some b50 else ((bif decide ((w64 ((uShr ((wu64 ((w64 (a1 + a3))))) 1))) < a2) then some (((w64 ((uShr ((wu64 ((w64 (a1 + a3))))) 1))), (w64 ((w64 ((uShr ((wu64 ((w64 (a1 + a3))))) 1))) + a2)), (w64 ((w64 ((w64 ((uShr ((wu64 ((w64 (a1 + a3))))) 1))) + a2)) - a3)), (w64 ((uShr ((wu64 ((w64 (a1 + a3))))) 1))))) else some (((w64 ((uShr ((wu64 ((w64 (a1 + a3))))) 1))), (w64 ((w64 ((uShr ((wu64 ((w64 (a1 + a3))))) 1))) + a2)), a1, a2))) : Option (Int × Int × Int × Int)).bind fun (j69 : Int × Int × Int × Int) => (iter (slices_symMergeCmpFunc_api_Route_r1_l5 a0 j69) ((j69.2.2.1, j69.2.2.2))).bind fun b72 => (((bif decide (b72 < a2) then some (((w64 (j69.2.1 - b72)), decide (a2 < (w64 (j69.2.1 - b72))))) else some (((w64 (j69.2.1 - b72)), false))) : Option (Int × Bool)).bind fun (j85 : Int × Bool) => (bif j85.2 then (slices_rotateCmpFunc_api_Route a0 b72 a2 j85.1).bind fun v88 => some ((j85.1, v88)) else some ((j85.1, a0))) : Option (Int × (List TRoute))).bind fun (j84 : Int × (List TRoute)) => (((bif decide (a1 < b72) then some (decide (b72 < j69.1)) else some false) : Option Bool).bind fun (j91 : Bool) => (bif j91 then (slices_symMergeCmpFunc_api_Route_r0 j84.2 a1 b72 j69.1).bind fun v94 => some v94 else some j84.2) : Option (List TRoute)).bind fun (j90 : List TRoute) => ((bif decide (j69.1 < j84.1) then some (decide (j84.1 < a3)) else some false) : Option Bool).bind fun (j96 : Bool) => (bif j96 then (slices_symMergeCmpFunc_api_Route_r0 j90 j69.1 j84.1 a3).bind fun v99 => some v99 else some j90))))
def slices_symMergeCmpFunc_api_Route_r2_l1 (a0 : List TRoute) (a1 : Int) (s2 : Int × Int) : Option (Step (Int × Int) Int) :=
  (bif decide (s2.1 < s2.2) then (idx a0 ((w64 ((uShr ((wu64 ((w64 (s2.1 + s2.2))))) 1))))).bind fun v6 => (idx a0 ((w64 ((uShr ((wu64 ((w64 (s2.1 + s2.2))))) 1))))).bind fun v8 => (idx a0 a1).bind fun v10 => (idx a0 a1).bind fun v12 => (bif decide ((w64 (v8.Preference - v12.Preference)) < 0) then some (.cont ((w64 ((w64 ((uShr ((wu64 ((w64 (s2.1 + s2.2))))) 1))) + 1)), s2.2)) else some (.cont (s2.1, (w64 ((uShr ((wu64 ((w64 (s2.1 + s2.2))))) 1)))))) else some (.out s2.1))
def slices_symMergeCmpFunc_api_Route_r2_l2 (b3 : Int) (s15 : Int × (List TRoute)) : Option (Step (Int × (List TRoute)) (List TRoute)) :=
  (bif decide (s15.1 < (w64 (b3 - 1))) then (idx s15.2 ((w64 (s15.1 + 1)))).bind fun v19 => (idx s15.2 ((w64 (s15.1 + 1)))).bind fun v21 => (idx s15.2 s15.1).bind fun v23 => (idx s15.2 s15.1).bind fun v25 => (idx s15.2 s15.1).bind fun v27 => (idx s15.2 s15.1).bind fun v29 => (idx ((List.set s15.2 (Int.toNat s15.1) v21)) ((w64 (s15.1 + 1)))).bind fun v31 => (idx ((List.set s15.2 (Int.toNat s15.1) v21)) ((w64 (s15.1 + 1)))).bind fun v33 => some (.cont ((w64 (s15.1 + 1)), (List.set ((List.set s15.2 (Int.toNat s15.1) v21)) (Int.toNat ((w64 (s15.1 + 1)))) v25))) else some (.out s15.2))
def slices_symMergeCmpFunc_api_Route_r2_l3 (a0 : List TRoute) (a2 : Int) (s36 : Int × Int) : Option (Step (Int × Int) Int) :=
  (bif decide (s36.1 < s36.2) then (idx a0 a2).bind fun v40 => (idx a0 a2).bind fun v42 => (idx a0 ((w64 ((uShr ((wu64 ((w64 (s36.1 + s36.2))))) 1))))).bind fun v44 => (idx a0 ((w64 ((uShr ((wu64 ((w64 (s36.1 + s36.2))))) 1))))).bind fun v46 => (bif (!(decide ((w64 (v42.Preference - v46.Preference)) < 0))) then some (.cont ((w64 ((w64 ((uShr ((wu64 ((w64 (s36.1 + s36.2))))) 1))) + 1)), s36.2)) else some (.cont (s36.1, (w64 ((uShr ((wu64 ((w64 (s36.1 + s36.2))))) 1)))))) else some (.out s36.1))
def slices_symMergeCmpFunc_api_Route_r2_l4 (b37 : Int) (s49 : Int × (List TRoute)) : Option (Step (Int × (List TRoute)) (List TRoute)) :=
  (bif decide (b37 < s49.1) then (idx s49.2 ((w64 (s49.1 - 1)))).bind fun v53 => (idx s49.2 ((w64 (s49.1 - 1)))).bind fun v55 => (idx s49.2 s49.1).bind fun v57 => (idx s49.2 s49.1).bind fun v59 => (idx s49.2 s49.1).bind fun v61 => (idx s49.2 s49.1).bind fun v63 => (idx ((List.set s49.2 (Int.toNat s49.1) v55)) ((w64 (s49.1 - 1)))).bind fun v65 => (idx ((List.set s49.2 (Int.toNat s49.1) v55)) ((w64 (s49.1 - 1)))).bind fun v67 => some (.cont ((w64 (s49.1 - 1)), (List.set ((List.set s49.2 (Int.toNat s49.1) v55)) (Int.toNat ((w64 (s49.1 - 1)))) v59))) else some (.out s49.2))
def slices_symMergeCmpFunc_api_Route_r2_l5 (a0 : List TRoute) (j69 : Int × Int × Int × Int) (s71 : Int × Int) : Option (Step (Int × Int) Int) :=
  (bif decide (s71.1 < s71.2) then (idx a0 ((w64 ((w64 (j69.2.1 - 1)) - (w64 ((uShr ((wu64 ((w64 (s71.1 + s71.2))))) 1))))))).bind fun v75 => (idx a0 ((w64 ((w64 (j69.2.1 - 1)) - (w64 ((uShr ((wu64 ((w64 (s71.1 + s71.2))))) 1))))))).bind fun v77 => (idx a0 ((w64 ((uShr ((wu64 ((w64 (s71.1 + s71.2))))) 1))))).bind fun v79 => (idx a0 ((w64 ((uShr ((wu64 ((w64 (s71.1 + s71.2))))) 1))))).bind fun v81 => (bif (!(decide ((w64 (v77.Preference - v81.Preference)) < 0))) then some (.cont ((w64 ((w64 ((uShr ((wu64 ((w64 (s71.1 + s71.2))))) 1))) + 1)), s71.2)) else some (.cont (s71.1, (w64 ((uShr ((wu64 ((w64 (s71.1 + s71.2))))) 1)))))) else some (.out s71.1))
noncomputable def slices_symMergeCmpFunc_api_Route_r2 (a0 : List TRoute) (a1 : Int) (a2 : Int) (a3 : Int) : Option (List TRoute) :=
  bif a0.isEmpty then none else ((bif ((w64 (a2 - a1)) == 1) then (iter (slices_symMergeCmpFunc_api_Route_r2_l1 a0 a1) ((a2, a3))).bind fun b3 => (iter (slices_symMergeCmpFunc_api_Route_r2_l2 b3) ((a1, a0))).bind fun b16 => some b16 else (bif ((w64 (a3 - a2)) == 1) then (iter (slices_symMergeCmpFunc_api_Route_r2_l3 a0 a2) ((a1, a2))).bind fun b37 => (iter (slices_symMergeCmpFunc_api_Route_r2_l4 b37) ((a2, a0))).bind fun b50 => some b50 else ((bif decide ((w64 ((uShr ((wu64 ((w64 (a1 + a3))))) 1))) < a2) then some (((w64 ((uShr ((wu64 ((w64 (a1 + a3))))) 1))), (w64 ((w64 ((uShr ((wu64 ((w64 (a1 + a3))))) 1))) + a2)), (w64 ((w64 ((w64 ((uShr ((wu64 ((w64 (a1 + a3))))) 1))) + a2)) - a3)), (w64 ((uShr ((wu64 ((w64 (a1 + a3))))) 1))))) else some (((w64 ((uShr ((wu64 ((w64 (a1 + a3))))) 1))), (w64 ((w64 ((uShr ((wu64 ((w64 (a1 + a3))))) 1))) + a2)), a1, a2))) : Option (Int × Int × Int × Int)).bind fun (j69 : Int × Int × Int × Int) => (iter (slices_symMergeCmpFunc_api_Route_r2_l5 a0 j69) ((j69.2.2.1, j69.2.2.2))).bind fun b72 => (((bif decide (b72 < a2) then some (((w64 (j69.2.1 - b72)), decide (a2 < (w64 (j69.2.1 - b72))))) else some (((w64 (j69.2.1 - b72)), false))) : Option (Int × Bool)).bind fun (j85 : Int × Bool) => (bif j85.2 then (slices_rotateCmpFunc_api_Route a0 b72 a2 j85.1).bind fun v88 => some ((j85.1, v88)) else some ((j85.1, a0))) : Option (Int × (List TRoute))).bind fun (j84 : Int × (List TRoute)) => (((bif decide (a1 < b72) then some (decide (b72 < j69.1)) else some false) : Option Bool).bind fun (j91 : Bool) => (bif j91 then (slices_symMergeCmpFunc_api_Route_r1 j84.2 a1 b72 j69.1).bind fun v94 => some v94 else some j84.2) : Option (List TRoute)).bind fun (j90 : List TRoute) => ((bif decide (j69.1 < j84.1) then some (decide (j84.1 < a3)) else some false) : Option Bool).bind fun (j96 : Bool) => (bif j96 then (slices_symMergeCmpFunc_api_Route_r1 j90 j69.1 j84.1 a3).bind fun v99 => some v99 else some j90))))
def slices_symMergeCmpFunc_api_Route_r3_l1 (a0 : List TRoute) (a1 : Int) (s2 : Int × Int) : Option (Step (Int × Int) Int) :=
  (bif decide (s2.1 < s2.2) then (idx a0 ((w64 ((uShr ((wu64 ((w64 (s2.1 + s2.2))))) 1))))).bind fun v6 => (idx a0 ((w64 ((uShr ((wu64 ((w64 (s2.1 + s2.2))))) 1))))).bind fun v8 => (idx a0 a1).bind fun v10 => (idx a0 a1).bind fun v12 => (bif decide ((w64 (v8.Preference - v12.Preference)) < 0) then some (.cont ((w64 ((w64 ((uShr ((wu64 ((w64 (s2.1 + s2.2))))) 1))) + 1)), s2.2)) else some (.cont (s2.1, (w64 ((uShr ((wu64 ((w64 (s2.1 + s2.2))))) 1)))))) else some (.out s2.1))
def slices_symMergeCmpFunc_api_Route_r3_l2 (b3 : Int) (s15 : Int × (List TRoute)) : Option (Step (Int × (List TRoute)) (List TRoute)) :=
  (bif decide (s15.1 < (w64 (b3 - 1))) then (idx s15.2 ((w64 (s15.1 + 1)))).bind fun v19 => (idx s15.2 ((w64 (s15.1 + 1)))).bind fun v21 => (idx s15.2 s15.1).bind fun v23 => (idx s15.2 s15.1).bind fun v25 => (idx s15.2 s15.1).bind fun v27 => (idx s15.2 s15.1).bind fun v29 => (idx ((List.set s15.2 (Int.toNat s15.1) v21)) ((w64 (s15.1 + 1)))).bind fun v31 => (idx ((List.set s15.2 (Int.toNat s15.1) v21)) ((w64 (s15.1 + 1)))).bind fun v33 => some (.cont ((w64 (s15.1 + 1)), (List.set ((List.set s15.2 (Int.toNat s15.1) v21)) (Int.toNat ((w64 (s15.1 + 1)))) v25))) else some (.out s15.2))
def slices_symMergeCmpFunc_api_Route_r3_l3 (a0 : List TRoute) (a2 : Int) (s36 : Int × Int) : Option (Step (Int × Int) Int) :=
  (bif decide (s36.1 < s36.2) then (idx a0 a2).bind fun v40 => (idx a0 a2).bind fun v42 => (idx a0 ((w64 ((uShr ((wu64 ((w64 (s36.1 + s36.2))))) 1))))).bind fun v44 => (idx a0 ((w64 ((uShr ((wu64 ((w64 (s36.1 + s36.2))))) 1))))).bind fun v46 => (bif (!(decide ((w64 (v42.Preference - v46.Preference)) < 0))) then some (.cont ((w64 ((w64 ((uShr ((wu64 ((w64 (s36.1 + s36.2))))) 1))) + 1)), s36.2)) else some (.cont (s36.1, (w64 ((uShr ((wu64 ((w64 (s36.1 + s36.2))))) 1)))))) else some (.out s36.1))
def slices_symMergeCmpFunc_api_Route_r3_l4 (b37 : Int) (s49 : Int × (List TRoute)) : Option (Step (Int × (List TRoute)) (List TRoute)) :=
  (bif decide (b37 < s49.1) then (idx s49.2 ((w64 (s49.1 - 1)))).bind fun v53 => (idx s49.2 ((w64 (s49.1 - 1)))).bind fun v55 => (idx s49.2 s49.1).bind fun v57 => (idx s49.2 s49.1).bind fun v59 => (idx s49.2 s49.1).bind fun v61 => (idx s49.2 s49.1).bind fun v63 => (idx ((List.set s49.2 (Int.toNat s49.1) v55)) ((w64 (s49.1 - 1)))).bind fun v65 => (idx ((List.set s49.2 (Int.toNat s49.1) v55)) ((w64 (s49.1 - 1)))).bind fun v67 => some (.cont ((w64 (s49.1 - 1)), (List.set ((List.set s49.2 (Int.toNat s49.1) v55)) (Int.toNat ((w64 (s49.1 - 1)))) v59))) else some (.out s49.2))
def slices_symMergeCmpFunc_api_Route_r3_l5 (a0 : List TRoute) (j69 : Int × Int × Int × Int) (s71 : Int × Int) : Option (Step (Int × Int) Int) :=
  (bif decide (s71.1 < s71.2) then (idx a0 ((w64 ((w64 (j69.2.1 - 1)) - (w64 ((uShr ((wu64 ((w64 (s71.1 + s71.2))))) 1))))))).bind fun v75 => (idx a0 ((w64 ((w64 (j69.2.1 - 1)) - (w64 ((uShr ((wu64 ((w64 (s71.1 + s71.2))))) 1))))))).bind fun v77 => (idx a0 ((w64 ((uShr ((wu64 ((w64 (s71.1 + s71.2))))) 1))))).bind fun v79 => (idx a0 ((w64 ((uShr ((wu64 ((w64 (s71.1 + s71.2))))) 1))))).bind fun v81 => (bif (!(decide ((w64 (v77.Preference - v81.Preference)) < 0))) then some (.cont ((w64 ((w64 ((uShr ((wu64 ((w64 (s71.1 + s71.2))))) 1))) + 1)), s71.2)) else some (.cont (s71.1, (w64 ((uShr ((wu64 ((w64 (s71.1 + s71.2))))) 1)))))) else some (.out s71.1))
noncomputable def slices_symMergeCmpFunc_api_Route_r3 (a0 : List TRoute) (a1 : Int) (a2 : Int) (a3 : Int) : Option (List TRoute) :=
  bif a0.isEmpty then none else ((bif ((w64 (a2 - a1)) == 1) then (iter (slices_symMergeCmpFunc_api_Route_r3_l1 a0 a1) ((a2, a3))).bind fun b3 => (iter (slices_symMergeCmpFunc_api_Route_r3_l2 b3) ((a1, a0))).bind fun b16 => some b16 else (bif ((w64 (a3 - a2)) == 1) then (iter (slices_symMergeCmpFunc_api_Route_r3_l3 a0 a2) ((a1, a2))).bind fun b37 => (iter (slices_symMergeCmpFunc_api_Route_r3_l4 b37) ((a2, a0))).bind fun b50 => some b50 else ((bif decide ((w64 ((uShr ((wu64 ((w64 (a1 + a3))))) 1))) < a2) then some (((w64 ((uShr ((wu64 ((w64 (a1 + a3))))) 1))), (w64 ((w64 ((uShr ((wu64 ((w64 (a1 + a3))))) 1))) + a2)), (w64 ((w64 ((w64 ((uShr ((wu64 ((w64 (a1 + a3))))) 1))) + a2)) - a3)), (w64 ((uShr ((wu64 ((w64 (a1 + a3))))) 1))))) else some (((w64 ((uShr ((wu64 ((w64 (a1 + a3))))) 1))), (w64 ((w64 ((uShr ((wu64 ((w64 (a1 + a3))))) 1))) + a2)), a1, a2))) : Option (Int × Int × Int × Int)).bind fun (j69 : Int × Int × Int × Int) => (iter (slices_symMergeCmpFunc_api_Route_r3_l5 a0 j69) ((j69.2.2.1, j69.2.2.2))).bind fun b72 => (((bif decide (b72 < a2) then some (((w64 (j69.2.1 - b72)), decide (a2 < (w64 (j69.2.1 - b72))))) else some (((w64 (j69.2.1 - b72)), false))) : Option (Int × Bool)).bind fun (j85 : Int × Bool) => (bif j85.2 then (slices_rotateCmpFunc_api_Route a0 b72 a2 j85.1).bind fun v88 => some ((j85.1, v88)) else some ((j85.1, a0))) : Option (Int × (List TRoute))).bind fun (j84 : Int × (List TRoute)) => (((bif decide (a1 < b72) then some (decide (b72 < j69.1)) else some false) : Option Bool).bind fun (j91 : Bool) => (bif j91 then (slices_symMergeCmpFunc_api_Route_r2 j84.2 a1 b72 j69.1).bind fun v94 => some v94 else some j84.2) : Option (List TRoute)).bind fun (j90 : List TRoute) => ((bif decide (j69.1 < j84.1) then some (decide (j84.1 < a3)) else some false) : Option Bool).bind fun (j96 : Bool) => (bif j96 then (slices_symMergeCmpFunc_api_Route_r2 j90 j69.1 j84.1 a3).bind fun v99 => some v99 else some j90))))
def slices_symMergeCmpFunc_api_Route_r4_l1 (a0 : List TRoute) (a1 : Int) (s2 : Int × Int) : Option (Step (Int × Int) Int) :=
  (bif decide (s2.1 < s2.2) then (idx a0 ((w64 ((uShr ((wu64 ((w64 (s2.1 + s2.2))))) 1))))).bind fun v6 => (idx a0 ((w64 ((uShr ((wu64 ((w64 (s2.1 + s2.2))))) 1))))).bind fun v8 => (idx a0 a1).bind fun v10 => (idx a0 a1).bind fun v12 => (bif decide ((w64 (v8.Preference - v12.Preference)) < 0) then some (.cont ((w64 ((w64 ((uShr ((wu64 ((w64 (s2.1 + s2.2))))) 1))) + 1)), s2.2)) else some (.cont (s2.1, (w64 ((uShr ((wu64 ((w64 (s2.1 + s2.2))))) 1)))))) else some (.out s2.1))
def slices_symMergeCmpFunc_api_Route_r4_l2 (b3 : Int) (s15 : Int × (List TRoute)) : Option (Step (Int × (List TRoute)) (List TRoute)) :=
  (bif decide (s15.1 < (w64 (b3 - 1))) then (idx s15.2 ((w64 (s15.1 + 1)))).bind fun v19 => (idx s15.2 ((w64 (s15.1 + 1)))).bind fun v21 => (idx s15.2 s15.1).bind fun v23 => (idx s15.2 s15.1).bind fun v25 => (idx s15.2 s15.1).bind fun v27 => (idx s15.2 s15.1).bind fun v29 => (idx ((List.set s15.2 (Int.toNat s15.1) v21)) ((w64 (s15.1 + 1)))).bind fun v31 => (idx ((List.set s15.2 (Int.toNat s15.1) v21)) ((w64 (s15.1 + 1)))).bind fun v33 => some (.cont ((w64 (s15.1 + 1)), (List.set ((List.set s15.2 (Int.toNat s15.1) v21)) (Int.toNat ((w64 (s15.1 + 1)))) v25))) else some (.out s15.2))
def slices_symMergeCmpFunc_api_Route_r4_l3 (a0 : List TRoute) (a2 : Int) (s36 : Int × Int) : Option (Step (Int × Int) Int) :=
  (bif decide (s36.1 < s36.2) then (idx a0 a2).bind fun v40 => (idx a0 a2).bind fun v42 => (idx a0 ((w64 ((uShr ((wu64 ((w64 (s36.1 + s36.2))))) 1))))).bind fun v44 => (idx a0 ((w64 ((uShr ((wu64 ((w64 (s36.1 + s36.2))))) 1))))).bind fun v46 => (bif (!(decide ((w64 (v42.Preference - v46.Preference)) < 0))) then some (.cont ((w64 ((w64 ((uShr ((wu64 ((w64 (s36.1 + s36.2))))) 1))) + 1)), s36.2)) else some (.cont (s36.1, (w64 ((uShr ((wu64 ((w64 (s36.1 + s36.2))))) 1)))))) else some (.out s36.1))
def slices_symMergeCmpFunc_api_Route_r4_l4 (b37 : Int) (s49 : Int × (List TRoute)) : Option (Step (Int × (List TRoute)) (List TRoute)) :=
  (bif decide (b37 < s49.1) then (idx s49.2 ((w64 (s49.1 - 1)))).bind fun v53 => (idx s49.2 ((w64 (s49.1 - 1)))).bind fun v55 => (idx s49.2 s49.1).bind fun v57 => (idx s49.2 s49.1).bind fun v59 => (idx s49.2 s49.1).bind fun v61 => (idx s49.2 s49.1).bind fun v63 => (idx ((List.set s49.2 (Int.toNat s49.1) v55)) ((w64 (s49.1 - 1)))).bind fun v65 => (idx ((List.set s49.2 (Int.toNat s49.1) v55)) ((w64 (s49.1 - 1)))).bind fun v67 => some (.cont ((w64 (s49.1 - 1)), (List.set ((List.set s49.2 (Int.toNat s49.1) v55)) (Int.toNat ((w64 (s49.1 - 1)))) v59))) else some (.out s49.2))
def slices_symMergeCmpFunc_api_Route_r4_l5 (a0 : List TRoute) (j69 : Int × Int × Int × Int) (s71 : Int × Int) : Option (Step (Int × Int) Int) :=
  (bif decide (s71.1 < s71.2) then (idx a0 ((w64 ((w64 (j69.2.1 - 1)) - (w64 ((uShr ((wu64 ((w64 (s71.1 + s71.2))))) 1))))))).bind fun v75 => (idx a0 ((w64 ((w64 (j69.2.1 - 1)) - (w64 ((uShr ((wu64 ((w64 (s71.1 + s71.2))))) 1))))))).bind fun v77 => (idx a0 ((w64 ((uShr ((wu64 ((w64 (s71.1 + s71.2))))) 1))))).bind fun v79 => (idx a0 ((w64 ((uShr ((wu64 ((w64 (s71.1 + s71.2))))) 1))))).bind fun v81 => (bif (!(decide ((w64 (v77.Preference - v81.Preference)) < 0))) then some (.cont ((w64 ((w64 ((uShr ((wu64 ((w64 (s71.1 + s71.2))))) 1))) + 1)), s71.2)) else some (.cont (s71.1, (w64 ((uShr ((wu64 ((w64 (s71.1 + s71.2))))) 1)))))) else some (.out s71.1))
noncomputable def slices_symMergeCmpFunc_api_Route_r4 (a0 : List TRoute) (a1 : Int) (a2 : Int) (a3 : Int) : Option (List TRoute) :=
  bif a0.isEmpty then none else ((bif ((w64 (a2 - a1)) == 1) then (iter (slices_symMergeCmpFunc_api_Route_r4_l1 a0 a1) ((a2, a3))).bind fun b3 => (iter (slices_symMergeCmpFunc_api_Route_r4_l2 b3) ((a1, a0))).bind fun b16 => some b16 else (bif ((w64 (a3 - a2)) == 1) then (iter (slices_symMergeCmpFunc_api_Route_r4_l3 a0 a2) ((a1, a2))).bind fun b37 => (iter (slices_symMergeCmpFunc_api_Route_r4_l4 b37) ((a2, a0))).bind fun b50 => some b50 else ((bif decide ((w64 ((uShr ((wu64 ((w64 (a1 + a3))))) 1))) < a2) then some (((w64 ((uShr ((wu64 ((w64 (a1 + a3))))) 1))), (w64 ((w64 ((uShr ((wu64 ((w64 (a1 + a3))))) 1))) + a2)), (w64 ((w64 ((w64 ((uShr ((wu64 ((w64 (a1 + a3))))) 1))) + a2)) - a3)), (w64 ((uShr ((wu64 ((w64 (a1 + a3))))) 1))))) else some (((w64 ((uShr ((wu64 ((w64 (a1 + a3))))) 1))), (w64 ((w64 ((uShr ((wu64 ((w64 (a1 + a3))))) 1))) + a2)), a1, a2))) : Option (Int × Int × Int × Int)).bind fun (j69 : Int × Int × Int × Int) => (iter (slices_symMergeCmpFunc_api_Route_r4_l5 a0 j69) ((j69.2.2.1, j69.2.2.2))).bind fun b72 => (((bif decide (b72 < a2) then some (((w64 (j69.2.1 - b72)), decide (a2 < (w64 (j69.2.1 - b72))))) else some (((w64 (j69.2.1 - b72)), false))) : Option (Int × Bool)).bind fun (j85 : Int × Bool) => (bif j85.2 then (slices_rotateCmpFunc_api_Route a0 b72 a2 j85.1).bind fun v88 => some ((j85.1, v88)) else some ((j85.1, a0))) : Option (Int × (List TRoute))).bind fun (j84 : Int × (List TRoute)) => (((bif decide (a1 < b72) then some (decide (b72 < j69.1)) else some false) : Option Bool).bind fun (j91 : Bool) => (bif j91 then (slices_symMergeCmpFunc_api_Route_r3 j84.2 a1 b72 j69.1).bind fun v94 => some v94 else some j84.2) : Option (List TRoute)).bind fun (j90 : List TRoute) => ((bif decide (j69.1 < j84.1) then some (decide (j84.1 < a3)) else some false) : Option Bool).bind fun (j96 : Bool) => (bif j96 then (slices_symMergeCmpFunc_api_Route_r3 j90 j69.1 j84.1 a3).bind fun v99 => some v99 else some j90))))
def slices_symMergeCmpFunc_api_Route_l1 (a0 : List TRoute) (a1 : Int) (s2 : Int × Int) : Option (Step (Int × Int) Int) :=
  (bif decide (s2.1 < s2.2) then (idx a0 ((w64 ((uShr ((wu64 ((w64 (s2.1 + s2.2))))) 1))))).bind fun v6 => (idx a0 ((w64 ((uShr ((wu64 ((w64 (s2.1 + s2.2))))) 1))))).bind fun v8 => (idx a0 a1).bind fun v10 => (idx a0 a1).bind fun v12 => (bif decide ((w64 (v8.Preference - v12.Preference)) < 0) then some (.cont ((w64 ((w64 ((uShr ((wu64 ((w64 (s2.1 + s2.2))))) 1))) + 1)), s2.2)) else some (.cont (s2.1, (w64 ((uShr ((wu64 ((w64 (s2.1 + s2.2))))) 1)))))) else some (.out s2.1))
def slices_symMergeCmpFunc_api_Route_l2 (b3 : Int) (s15 : Int × (List TRoute)) : Option (Step (Int × (List TRoute)) (List TRoute)) :=
  (bif decide (s15.1 < (w64 (b3 - 1))) then (idx s15.2 ((w64 (s15.1 + 1)))).bind fun v19 => (idx s15.2 ((w64 (s15.1 + 1)))).bind fun v21 => (idx s15.2 s15.1).bind fun v23 => (idx s15.2 s15.1).bind fun v25 => (idx s15.2 s15.1).bind fun v27 => (idx s15.2 s15.1).bind fun v29 => (idx ((List.set s15.2 (Int.toNat s15.1) v21)) ((w64 (s15.1 + 1)))).bind fun v31 => (idx ((List.set s15.2 (Int.toNat s15.1) v21)) ((w64 (s15.1 + 1)))).bind fun v33 => some (.cont ((w64 (s15.1 + 1)), (List.set ((List.set s15.2 (Int.toNat s15.1) v21)) (Int.toNat ((w64 (s15.1 + 1)))) v25))) else some (.out s15.2))
def slices_symMergeCmpFunc_api_Route_l3 (a0 : List TRoute) (a2 : Int) (s36 : Int × Int) : Option (Step (Int × Int) Int) :=
  (bif decide (s36.1 < s36.2) then (idx a0 a2).bind fun v40 => (idx a0 a2).bind fun v42 => (idx a0 ((w64 ((uShr ((wu64 ((w64 (s36.1 + s36.2))))) 1))))).bind fun v44 => (idx a0 ((w64 ((uShr ((wu64 ((w64 (s36.1 + s36.2))))) 1))))).bind fun v46 => (bif (!(decide ((w64 (v42.Preference - v46.Preference)) < 0))) then some (.cont ((w64 ((w64 ((uShr ((wu64 ((w64 (s36.1 + s36.2))))) 1))) + 1)), s36.2)) else some (.cont (s36.1, (w64 ((uShr ((wu64 ((w64 (s36.1 + s36.2))))) 1)))))) else some (.out s36.1))
def slices_symMergeCmpFunc_api_Route_l4 (b37 : Int) (s49 : Int × (List TRoute)) : Option (Step (Int × (List TRoute)) (List TRoute)) :=
  (bif decide (b37 < s49.1) then (idx s49.2 ((w64 (s49.1 - 1)))).bind fun v53 => (idx s49.2 ((w64 (s49.1 - 1)))).bind fun v55 => (idx s49.2 s49.1).bind fun v57 => (idx s49.2 s49.1).bind fun v59 => (idx s49.2 s49.1).bind fun v61 => (idx s49.2 s49.1).bind fun v63 => (idx ((List.set s49.2 (Int.toNat s49.1) v55)) ((w64 (s49.1 - 1)))).bind fun v65 => (idx ((List.set s49.2 (Int.toNat s49.1) v55)) ((w64 (s49.1 - 1)))).bind fun v67 => some (.cont ((w64 (s49.1 - 1)), (List.set ((List.set s49.2 (Int.toNat s49.1) v55)) (Int.toNat ((w64 (s49.1 - 1)))) v59))) else some (.out s49.2))
def slices_symMergeCmpFunc_api_Route_l5 (a0 : List TRoute) (j69 : Int × Int × Int × Int) (s71 : Int × Int) : Option (Step (Int × Int) Int) :=
  (bif decide (s71.1 < s71.2) then (idx a0 ((w64 ((w64 (j69.2.1 - 1)) - (w64 ((uShr ((wu64 ((w64 (s71.1 + s71.2))))) 1))))))).bind fun v75 => (idx a0 ((w64 ((w64 (j69.2.1 - 1)) - (w64 ((uShr ((wu64 ((w64 (s71.1 + s71.2))))) 1))))))).bind fun v77 => (idx a0 ((w64 ((uShr ((wu64 ((w64 (s71.1 + s71.2))))) 1))))).bind fun v79 => (idx a0 ((w64 ((uShr ((wu64 ((w64 (s71.1 + s71.2))))) 1))))).bind fun v81 => (bif (!(decide ((w64 (v77.Preference - v81.Preference)) < 0))) then some (.cont ((w64 ((w64 ((uShr ((wu64 ((w64 (s71.1 + s71.2))))) 1))) + 1)), s71.2)) else some (.cont (s71.1, (w64 ((uShr ((wu64 ((w64 (s71.1 + s71.2))))) 1)))))) else some (.out s71.1))
noncomputable def slices_symMergeCmpFunc_api_Route (a0 : List TRoute) (a1 : Int) (a2 : Int) (a3 : Int) : Option (List TRoute) :=
  bif a0.isEmpty then none else ((bif ((w64 (a2 - a1)) == 1) then (iter (slices_symMergeCmpFunc_api_Route_l1 a0 a1) ((a2, a3))).bind fun b3 => (iter (slices_symMergeCmpFunc_api_Route_l2 b3) ((a1, a0))).bind fun b16 => some b16 else (bif ((w64 (a3 - a2)) == 1) then (iter (slices_symMergeCmpFunc_api_Route_l3 a0 a2) ((a1, a2))).bind fun b37 => (iter (slices_symMergeCmpFunc_api_Route_l4 b37) ((a2, a0))).bind fun b50 => some b50 else ((bif decide ((w64 ((uShr ((wu64 ((w64 (a1 + a3))))) 1))) < a2) then some (((w64 ((uShr ((wu64 ((w64 (a1 + a3))))) 1))), (w64 ((w64 ((uShr ((wu64 ((w64 (a1 + a3))))) 1))) + a2)), (w64 ((w64 ((w64 ((uShr ((wu64 ((w64 (a1 + a3))))) 1))) + a2)) - a3)), (w64 ((uShr ((wu64 ((w64 (a1 + a3))))) 1))))) else some (((w64 ((uShr ((wu64 ((w64 (a1 + a3))))) 1))), (w64 ((w64 ((uShr ((wu64 ((w64 (a1 + a3))))) 1))) + a2)), a1, a2))) : Option (Int × Int × Int × Int)).bind fun (j69 : Int × Int × Int × Int) => (iter (slices_symMergeCmpFunc_api_Route_l5 a0 j69) ((j69.2.2.1, j69.2.2.2))).bind fun b72 => (((bif decide (b72 < a2) then some (((w64 (j69.2.1 - b72)), decide (a2 < (w64 (j69.2.1 - b72))))) else some (((w64 (j69.2.1 - b72)), false))) : Option (Int × Bool)).bind fun (j85 : Int × Bool) => (bif j85.2 then (slices_rotateCmpFunc_api_Route a0 b72 a2 j85.1).bind fun v88 => some ((j85.1, v88)) else some ((j85.1, a0))) : Option (Int × (List TRoute))).bind fun (j84 : Int × (List TRoute)) => (((bif decide (a1 < b72) then some (decide (b72 < j69.1)) else some false) : Option Bool).bind fun (j91 : Bool) => (bif j91 then (slices_symMergeCmpFunc_api_Route_r4 j84.2 a1 b72 j69.1).bind fun v94 => some v94 else some j84.2) : Option (List TRoute)).bind fun (j90 : List TRoute) => ((bif decide (j69.1 < j84.1) then some (decide (j84.1 < a3)) else some false) : Option Bool).bind fun (j96 : Bool) => (bif j96 then (slices_symMergeCmpFunc_api_Route_r4 j90 j69.1 j84.1 a3).bind fun v99 => some v99 else some j90))))
noncomputable def slices_stableCmpFunc_api_Route_l1 (a1 : Int) (s1 : Int × Int × (List TRoute)) : Option (Step (Int × Int × (List TRoute)) (Int × (List TRoute))) :=
  (bif decide (s1.2.1 ≤ a1) then (slices_insertionSortCmpFunc_api_Route s1.2.2 s1.1 s1.2.1).bind fun v5 => some (.cont (s1.2.1, (w64 (s1.2.1 + 20)), v5)) else some (.out ((s1.1, s1.2.2))))
noncomputable def slices_stableCmpFunc_api_Route_l3 (a1 : Int) (s9 : Int × (List TRoute)) (s13 : Int × Int × (List TRoute)) : Option (Step (Int × Int × (List TRoute)) (Int × (List TRoute))) :=
  (bif decide (s13.2.1 ≤ a1) then (slices_symMergeCmpFunc_api_Route s13.2.2 s13.1 ((w64 (s13.1 + s9.1))) s13.2.1).bind fun v17 => some (.cont (s13.2.1, (w64 (s13.2.1 + (w64 (2 * s9.1)))), v17)) else some (.out ((s13.1, s13.2.2))))
noncomputable def slices_stableCmpFunc_api_Route_l2 (a1 : Int) (s9 : Int × (List TRoute)) : Option (Step (Int × (List TRoute)) (List TRoute)) :=
  (bif decide (s9.1 < a1) then (iter (slices_stableCmpFunc_api_Route_l3 a1 s9) ((0, (w64 (2 * s9.1)), s9.2))).bind fun b14 => ((bif decide ((w64 (b14.1 + s9.1)) < a1) then (slices_symMergeCmpFunc_api_Route b14.2 b14.1 ((w64 (b14.1 + s9.1))) a1).bind fun v21 => some v21 else some b14.2) : Option (List TRoute)).bind fun (j19 : List TRoute) => some (.cont ((w64 (s9.1 * 2)), j19)) else some (.out s9.2))
noncomputable def slices_stableCmpFunc_api_Route (a0 : List TRoute) (a1 : Int) : Option (List TRoute) :=
  bif a0.isEmpty then none else ((iter (slices_stableCmpFunc_api_Route_l1 a1) ((0, 20, a0))).bind fun b2 => (slices_insertionSortCmpFunc_api_Route b2.2 b2.1 a1).bind fun v7 => (iter (slices_stableCmpFunc_api_Route_l2 a1) ((20, v7))).bind fun b10 => some b10)
def routes_Find_l1 (v11 : Str) (j16 : List TRoute) (s22 : Int) : Option (Step Int (Unit ⊕ Int)) :=
  (bif decide (s22 < (j16.length : Int)) then (idx j16 s22).bind fun v28 => (idx j16 s22).bind fun v30 => (bif (v30.Pattern != v11) then some (.out (.inr s22)) else some (.cont (w64 (s22 + 1)))) else some (.out (.inl (()))))
def routes_Find_l2 (v11 : Str) (s34 : Int × Int × (List TRoute)) : Option (Step (Int × Int × (List TRoute)) (Int × (List TRoute))) :=
  (bif decide (s34.2.1 < (s34.2.2.length : Int)) then ((idx s34.2.2 s34.2.1).bind fun v39 => (idx s34.2.2 s34.2.1).bind fun v41 => (bif (!((v41.Pattern != v11))) then (idx s34.2.2 s34.1).bind fun v44 => (idx s34.2.2 s34.1).bind fun v46 => some (((w64 (s34.1 + 1)), (List.set s34.2.2 (Int.toNat s34.1) v41))) else some ((s34.1, s34.2.2))) : Option (Int × (List TRoute))).bind fun (j38 : Int × (List TRoute)) => some (.cont (j38.1, (w64 (s34.2.1 + 1)), j38.2)) else some (.out ((s34.1, s34.2.2))))
noncomputable def routes_Find_l3 (v52 : List TRoute) (s54 : Int × (List Str)) : Option (Step (Int × (List Str)) (List Str)) :=
  (bif decide (s54.1 < (v52.length : Int)) then ((idx v52 s54.1).bind fun v59 => (idx v52 s54.1).bind fun v61 => (slices_Contains_string_string s54.2 v61.Host).bind fun v63 => (bif (!v63) then (app 8796093022208 s54.2 (([v61.Host] : List Str))).bind fun v66 => some v66 else some s54.2) : Option (List Str)).bind fun (j58 : List Str) => some (.cont ((w64 (s54.1 + 1)), j58)) else some (.out s54.2))
noncomputable def routes_Find (a0 : List TRoute) (a1 : Str) : Option ((List Str) × TFault) :=
  (routes_Validate a0).bind fun v1 => (basic_Failed v1).bind fun v3 => (bif v3 then some (([], v1)) else (envelope_Domain a1).bind fun v6 => (bif (!v6) then (basic_Fault 10 ((-2))).bind fun v9 => some (([], v9)) else (routes_best a0 a1).bind fun v11 => (bif (v11 == ([] : Str)) then (basic_Fault 6 ((-3))).bind fun v14 => some (([], v14)) else ((nilE a0.isEmpty (some (([] : List TRoute))) ((app 3518437208883 ([] : List TRoute) a0).bind fun v18 => some v18)) : Option (List TRoute)).bind fun (j16 : List TRoute) => (((iter (routes_Find_l1 v11 j16) 0).bind (Sum.elim (fun b23 => some ((-1))) (fun b24 => some b24)) : Option Int).bind fun (j21 : Int) => (bif (j21 == (-1)) then some j16 else (iter (routes_Find_l2 v11) ((j21, (w64 (j21 + 1)), j16))).bind fun b35 => (cut b35.2 b35.1 (b35.2.length : Int)).bind fun v48 => (cut ((clr0 b35.2 (Int.toNat b35.1) ((TRoute.mk (([] : Str)) (([] : Str)) 0)))) 0 b35.1).bind fun v50 => some v50) : Option (List TRoute)).bind fun (j20 : List TRoute) => (slices_stableCmpFunc_api_Route j20 ((j20.length : Int))).bind fun v52 => (iter (routes_Find_l3 v52) ((0, ([] : List Str)))).bind fun b55 => (basic_None).bind fun v68 => some ((b55, v68)))))
noncomputable def L_finds  : Option Bool :=
  (routes_Find (([(TRoute.mk (([42] : Str)) (([99] : Str)) 0), (TRoute.mk (([42, 46, 98] : Str)) (([100] : Str)) 2), (TRoute.mk (([42, 46, 98] : Str)) (([101] : Str)) 1)] : List TRoute)) (([97, 46, 98] : Str))).bind fun v1 => (routes_Find (([(TRoute.mk (([42] : Str)) (([99] : Str)) 0), (TRoute.mk (([42, 46, 98] : Str)) (([100] : Str)) 2), (TRoute.mk (([42, 46, 98] : Str)) (([101] : Str)) 1)] : List TRoute)) (([98] : Str))).bind fun v3 => (routes_Find ([]) (([98] : Str))).bind fun v5 => ((bif (v1.2.Code == 0) then (bif (v3.2.Code == 0) then (R_At 6 ((-3))).bind fun v10 => (bif (allEq [(v5.2.Code == v10.Code), (v5.2.Index == v10.Index)]) then (R_Strings v1.1 (([([101] : Str), ([100] : Str)] : List Str))).bind fun v13 => (bif v13 then (R_Strings v3.1 (([([99] : Str)] : List Str))).bind fun v16 => some v16 else some false) else some false) else some false) else some false) : Option Bool).bind fun (j7 : Bool) => some j7
def L_RoutesHostsOnce_l2 (a0 : List TRoute) (v1 : (List Str) × TFault) (s12 : Int) (s18 : Bool × Int) : Option (Step (Bool × Int) Bool) :=
  (bif decide (s18.2 < (a0.length : Int)) then ((bif s18.1 then some true else (idx a0 s18.2).bind fun v24 => (idx v1.1 s12).bind fun v26 => some ((v24.Host == v26))) : Option Bool).bind fun (j22 : Bool) => some (.cont (j22, (w64 (s18.2 + 1)))) else some (.out s18.1))
noncomputable def L_RoutesHostsOnce_l1 (a0 : List TRoute) (v1 : (List Str) × TFault) (s12 : Int) : Option (Step Int (Unit ⊕ Bool)) :=
  (bif decide (s12 < (v1.1.length : Int)) then (iter (L_RoutesHostsOnce_l2 a0 v1 s12) ((false, 0))).bind fun b19 => ((bif (!b19) then some true else (cut v1.1 0 s12).bind fun v30 => (idx v1.1 s12).bind fun v32 => (R_Has v30 v32).bind fun v34 => some v34) : Option Bool).bind fun (j28 : Bool) => (bif j28 then some (.out (.inr false)) else some (.cont (w64 (s12 + 1)))) else some (.out (.inl (()))))
noncomputable def L_RoutesHostsOnce (a0 : List TRoute) (a1 : Str) : Option Bool :=
  (routes_Find a0 a1).bind fun v1 => ((L_finds).bind fun v4 => (bif (!v4) then some true else some ((v1.2.Code != 0))) : Option Bool).bind fun (j3 : Bool) => (bif j3 then ((L_finds).bind fun v9 => (bif v9 then some (((v1.1.length : Int) == 0)) else some false) : Option Bool).bind fun (j8 : Bool) => some j8 else (iter (L_RoutesHostsOnce_l1 a0 v1) 0).bind (Sum.elim (fun b13 => some (decide (0 < (v1.1.length : Int)))) (fun b14 => some b14)))
end Go.Proofs.Ytpclhpncmlbccaa

/- slices.SortStableFunc at routes: what it leaves is the stable sorting by preference. -/
namespace Go.Proofs.Ytpclhpncmlbccaa
open Go.RowKit
set_option linter.unusedVariables false
set_option maxHeartbeats 1000000
def PrOk (x : TRoute) : Prop := 0 ≤ x.Preference ∧ x.Preference ≤ 1000000
def PrAll (l : List TRoute) : Prop := ∀ x ∈ l, PrOk x
theorem pr_lt {x y : TRoute} (hx : PrOk x) (hy : PrOk y) : decide (w64 (x.Preference - y.Preference) < 0) = decide (x.Preference < y.Preference) := by
  obtain ⟨a, b⟩ := hx
  obtain ⟨c, d⟩ := hy
  rw [w64_id (by omega) (by omega)]
  congr 1
  apply propext
  omega
theorem half_eq {s r : Nat} (h : s + r ≤ 1000) : w64 (uShr (wu64 (w64 ((s : Int) + (r : Int)))) 1) = (((s + r) / 2 : Nat) : Int) := by
  rw [w64_nn _ _ (by omega)]
  have e1 : wu64 ((s + r : Nat) : Int) = ((s + r : Nat) : Int) := by unfold wu64; omega
  have e2 : uShr ((s + r : Nat) : Int) 1 = (((s + r) / 2 : Nat) : Int) := by
    unfold uShr
    rw [show min (1 : Int).toNat 64 = 1 by decide]
    omega
  rw [e1, e2, w64_n _ (by omega)]
theorem w64_m1 {a : Nat} (h : 1 ≤ a) (ha : a ≤ 1000) : w64 ((a : Int) - 1) = ((a - 1 : Nat) : Int) := by
  rw [show ((a : Int) - 1) = ((a - 1 : Nat) : Int) by omega]; exact w64_n _ (by omega)
theorem set_mid {α : Type} (P : List α) (x y : α) (R : List α) : (P ++ x :: R).set P.length y = P ++ y :: R := by
  rw [List.set_append_right _ _ (Nat.le_refl _)]; simp
theorem idx_mid {α : Type} {P : List α} {x : α} {R : List α} {n : Nat} (h : n = P.length) : idx (P ++ x :: R) (n : Int) = some x := by rw [h]; exact idx_app P x R
theorem set_mid' {α : Type} {P : List α} {x y : α} {R : List α} {n : Nat} (h : n = P.length) : (P ++ x :: R).set n y = P ++ y :: R := by rw [h]; exact set_mid P x y R
/-! ### two parts change their places -/
theorem swap_iter : ∀ (A B : List TRoute), A.length = B.length → ∀ (P M S : List TRoute) (k a b n : Nat), a + k = P.length → b + k = P.length + A.length + M.length → n = k + A.length → P.length + A.length + M.length + B.length ≤ 1000 →
    iter (slices_swapRangeCmpFunc_api_Route_l1 a b n) ((k : Int), P ++ (A ++ (M ++ (B ++ S)))) = some (P ++ (B ++ (M ++ (A ++ S))))
  | [], [], _, P, M, S, k, a, b, n, h1, h2, h3, h4 => by
    refine iter_out ?_
    unfold slices_swapRangeCmpFunc_api_Route_l1
    have : decide ((k : Int) < (n : Int)) = false := by simp only [List.length_nil] at h3; simp; omega
    dsimp only
    rw [this]
    simp
  | x :: A, y :: B, hl, P, M, S, k, a, b, n, h1, h2, h3, h4 => by
    simp only [List.length_cons] at hl h2 h3 h4
    have ih := swap_iter A B (by omega) (P ++ [y]) (M ++ [x]) S (k + 1) a b n (by simp; omega) (by simp; omega) (by omega) (by simp; omega)
    have e : (P ++ [y]) ++ (A ++ ((M ++ [x]) ++ (B ++ S))) = P ++ y :: (A ++ (M ++ x :: (B ++ S))) := by simp
    rw [e] at ih
    have e2 : (P ++ [y]) ++ (B ++ ((M ++ [x]) ++ (A ++ S))) = P ++ (y :: B ++ (M ++ (x :: A ++ S))) := by simp
    rw [e2] at ih
    refine (iter_cont ?_).trans ih
    unfold slices_swapRangeCmpFunc_api_Route_l1
    dsimp only
    have hk : decide ((k : Int) < (n : Int)) = true := by simp; omega
    rw [hk, cond_true, w64_nn a k (by omega), w64_nn b k (by omega)]
    have i1 : ∀ z : TRoute, idx (P ++ z :: (A ++ (M ++ y :: (B ++ S)))) ((b + k : Nat) : Int) = some y := fun z => by
      rw [show P ++ z :: (A ++ (M ++ y :: (B ++ S))) = (P ++ z :: (A ++ M)) ++ y :: (B ++ S) by simp]
      exact idx_mid (by simp; omega)
    have i2 : idx (P ++ x :: (A ++ (M ++ y :: (B ++ S)))) ((a + k : Nat) : Int) = some x := idx_mid h1
    have e3 : P ++ (x :: A ++ (M ++ (y :: B ++ S))) = P ++ x :: (A ++ (M ++ y :: (B ++ S))) := by simp
    have s1 : (P ++ x :: (A ++ (M ++ y :: (B ++ S)))).set ((a + k : Nat) : Int).toNat y = P ++ y :: (A ++ (M ++ y :: (B ++ S))) := by
      rw [Int.toNat_natCast]; exact set_mid' h1
    have s2 : (P ++ y :: (A ++ (M ++ y :: (B ++ S)))).set ((b + k : Nat) : Int).toNat x = P ++ y :: (A ++ (M ++ x :: (B ++ S))) := by
      rw [Int.toNat_natCast, show P ++ y :: (A ++ (M ++ y :: (B ++ S))) = (P ++ y :: (A ++ M)) ++ y :: (B ++ S) by simp, set_mid' (by simp; omega)]
      simp
    rw [e3, i1 x, i2]
    simp only [Option.bind_some]
    rw [s1, i1 y]
    simp only [Option.bind_some]
    rw [s2, sc k (by omega)]
theorem swapRange_eq {A B P M S : List TRoute} {a b n : Nat} (hl : A.length = B.length) (h1 : a = P.length) (h2 : b = P.length + A.length + M.length) (h3 : n = A.length) (h4 : P.length + A.length + M.length + B.length ≤ 1000) (hne : P ++ (A ++ (M ++ (B ++ S))) ≠ []) :
    slices_swapRangeCmpFunc_api_Route (P ++ (A ++ (M ++ (B ++ S)))) a b n = some (P ++ (B ++ (M ++ (A ++ S)))) := by
  unfold slices_swapRangeCmpFunc_api_Route
  rw [show (P ++ (A ++ (M ++ (B ++ S)))).isEmpty = false by simpa using hne]
  have := swap_iter A B hl P M S 0 a b n (by omega) (by omega) (by omega) h4
  simp only [cond_false]
  rw [show ((0 : Nat) : Int) = (0 : Int) from rfl] at this
  rw [this]
  rfl
/-! ### rotation -/
theorem rot_iter : ∀ (N : Nat) (X Y P S : List TRoute), X.length + Y.length ≤ N → X ≠ [] → Y ≠ [] → P.length + X.length + Y.length ≤ 1000 →
    ∃ (i : Nat) (L : List TRoute), iter (slices_rotateCmpFunc_api_Route_l1 ((P.length + X.length : Nat) : Int)) ((X.length : Int), (Y.length : Int), P ++ (X ++ (Y ++ S))) = some ((i : Int), L) ∧ i ≤ P.length + X.length ∧ slices_swapRangeCmpFunc_api_Route L ((P.length + X.length - i : Nat) : Int) ((P.length + X.length : Nat) : Int) (i : Int) = some (P ++ (Y ++ (X ++ S)))
  | 0, X, Y, P, S, h, hX, hY, _ => by
    have : X.length = 0 := by omega
    exact absurd (List.eq_nil_of_length_eq_zero this) hX
  | N + 1, X, Y, P, S, h, hX, hY, hb => by
    have hX1 : 0 < X.length := List.length_pos_iff.2 hX
    have hY1 : 0 < Y.length := List.length_pos_iff.2 hY
    have hne : P ++ (X ++ (Y ++ S)) ≠ [] := by simp [hX]
    rcases Nat.lt_trichotomy X.length Y.length with hlt | heq | hgt
    · -- the second part is longer
      obtain ⟨Y1, Y2, rfl, hY2⟩ : ∃ Y1 Y2, Y = Y1 ++ Y2 ∧ Y2.length = X.length := ⟨Y.take (Y.length - X.length), Y.drop (Y.length - X.length), (List.take_append_drop _ _).symm, by simp; omega⟩
      simp only [List.length_append] at hlt h hb hY1
      have hY1' : Y1 ≠ [] := by rintro rfl; simp at hlt; omega
      obtain ⟨i, L, q1, q2, q3⟩ := rot_iter N Y2 Y1 P (X ++ S) (by omega) (by rintro rfl; simp at hY2; omega) hY1' (by omega)
      rw [hY2] at q1 q2 q3
      refine ⟨i, L, (iter_cont ?_).trans q1, q2, by rw [q3]; simp⟩
      unfold slices_rotateCmpFunc_api_Route_l1
      dsimp only
      have e1 : ((X.length : Int) != ((Y1 ++ Y2).length : Int)) = true := by simp; omega
      have e2 : decide (((Y1 ++ Y2).length : Int) < (X.length : Int)) = false := by simp; omega
      rw [e1, e2]
      simp only [cond_true, cond_false]
      have hs := swapRange_eq (A := X) (B := Y2) (P := P) (M := Y1) (S := S) (a := P.length) (b := P.length + X.length + Y1.length) (n := X.length) hY2.symm rfl rfl rfl (by omega) (by simp [hX])
      have w1 : w64 (((P.length + X.length : Nat) : Int) - (X.length : Int)) = (P.length : Int) := by rw [w64_ns _ _ (by omega) (by omega)]; congr 1; omega
      have w2 : w64 (w64 (((P.length + X.length : Nat) : Int) + ((Y1 ++ Y2).length : Int)) - (X.length : Int)) = ((P.length + X.length + Y1.length : Nat) : Int) := by
        rw [List.length_append, w64_nn _ _ (by omega), w64_ns _ _ (by omega) (by omega)]; congr 1; omega
      have w3 : w64 (((Y1 ++ Y2).length : Int) - (X.length : Int)) = (Y1.length : Int) := by rw [List.length_append, w64_ns _ _ (by omega) (by omega)]; congr 1; omega
      rw [w1, w2, w3, show P ++ (X ++ ((Y1 ++ Y2) ++ S)) = P ++ (X ++ (Y1 ++ (Y2 ++ S))) by simp, hs]
      rfl
    · refine ⟨X.length, P ++ (X ++ (Y ++ S)), iter_out ?_, by omega, ?_⟩
      · unfold slices_rotateCmpFunc_api_Route_l1
        dsimp only
        rw [heq]
        simp
      · have hs := swapRange_eq (A := X) (B := Y) (P := P) (M := []) (S := S) (a := P.length + X.length - X.length) (b := P.length + X.length) (n := X.length) heq (by omega) (by simp) rfl (by simp; omega) (by simp [hX])
        simpa using hs
    · -- the first part is longer
      obtain ⟨X1, X2, rfl, hX1'⟩ : ∃ X1 X2, X = X1 ++ X2 ∧ X1.length = Y.length := ⟨X.take Y.length, X.drop Y.length, (List.take_append_drop _ _).symm, by simp; omega⟩
      simp only [List.length_append] at hgt h hb hX1
      have hX2 : X2 ≠ [] := by rintro rfl; simp at hgt; omega
      obtain ⟨i, L, q1, q2, q3⟩ := rot_iter N X2 X1 (P ++ Y) S (by omega) hX2 (by rintro rfl; simp at hX1'; omega) (by simp; omega)
      have el : (P ++ Y).length + X2.length = P.length + (X1 ++ X2).length := by simp; omega
      rw [el] at q1 q2 q3
      refine ⟨i, L, (iter_cont ?_).trans q1, q2, by rw [q3]; simp⟩
      unfold slices_rotateCmpFunc_api_Route_l1
      dsimp only
      have e1 : (((X1 ++ X2).length : Int) != (Y.length : Int)) = true := by simp; omega
      have e2 : decide ((Y.length : Int) < ((X1 ++ X2).length : Int)) = true := by simp; omega
      rw [e1, e2]
      simp only [cond_true]
      have hs := swapRange_eq (A := X1) (B := Y) (P := P) (M := X2) (S := S) (a := P.length) (b := P.length + (X1 ++ X2).length) (n := Y.length) hX1' rfl (by rw [List.length_append]; omega) hX1'.symm (by omega) (by intro hh; exact hne (by simpa using hh))
      have hXl : (X1 ++ X2).length = X1.length + X2.length := List.length_append
      have w1 : w64 (((P.length + (X1 ++ X2).length : Nat) : Int) - ((X1 ++ X2).length : Int)) = (P.length : Int) := by rw [w64_ns _ _ (by omega) (by omega)]; congr 1; omega
      have w3 : w64 (((X1 ++ X2).length : Int) - (Y.length : Int)) = (X2.length : Int) := by rw [List.length_append, w64_ns _ _ (by omega) (by omega)]; congr 1; omega
      rw [w1, w3, show P ++ ((X1 ++ X2) ++ (Y ++ S)) = P ++ (X1 ++ (X2 ++ (Y ++ S))) by simp, hs, ← hX1']
      simp
theorem rotate_eq {X Y P S : List TRoute} (hX : X ≠ []) (hY : Y ≠ []) (hb : P.length + X.length + Y.length ≤ 1000) :
    slices_rotateCmpFunc_api_Route (P ++ (X ++ (Y ++ S))) (P.length : Int) ((P.length + X.length : Nat) : Int) ((P.length + X.length + Y.length : Nat) : Int) = some (P ++ (Y ++ (X ++ S))) := by
  unfold slices_rotateCmpFunc_api_Route
  rw [show (P ++ (X ++ (Y ++ S))).isEmpty = false by simp [hX]]
  obtain ⟨i, L, q1, q2, q3⟩ := rot_iter _ X Y P S (Nat.le_refl _) hX hY hb
  have w1 : w64 (((P.length + X.length : Nat) : Int) - (P.length : Int)) = (X.length : Int) := by rw [w64_ns _ _ (by omega) (by omega)]; congr 1; omega
  have w2 : w64 (((P.length + X.length + Y.length : Nat) : Int) - ((P.length + X.length : Nat) : Int)) = (Y.length : Int) := by rw [w64_ns _ _ (by omega) (by omega)]; congr 1; omega
  rw [w1, w2, cond_false, q1]
  simp only [Option.bind_some]
  rw [w64_ns _ _ q2 (by omega), q3]
  rfl
/-! ### one element moves -/
theorem mvr_iter : ∀ (B P R : List TRoute) (x : TRoute) (e : Nat), e = P.length + B.length + 1 → e ≤ 1000 → iter (slices_symMergeCmpFunc_api_Route_r0_l2 (e : Int)) ((P.length : Int), P ++ x :: (B ++ R)) = some (P ++ (B ++ x :: R))
  | [], P, R, x, e, h, hb => by
    refine iter_out ?_
    unfold slices_symMergeCmpFunc_api_Route_r0_l2
    dsimp only
    rw [w64_m1 (by omega) hb]
    have : decide ((P.length : Int) < ((e - 1 : Nat) : Int)) = false := by simp at h; simp; omega
    rw [this]
    rfl
  | y :: B, P, R, x, e, h, hb => by
    simp only [List.length_cons] at h
    have ih := mvr_iter B (P ++ [y]) R x e (by simp; omega) hb
    rw [show (P ++ [y]) ++ x :: (B ++ R) = P ++ y :: x :: (B ++ R) by simp, show (P ++ [y]) ++ (B ++ x :: R) = P ++ (y :: B ++ x :: R) by simp, show ((P ++ [y]).length : Int) = ((P.length + 1 : Nat) : Int) by simp] at ih
    refine (iter_cont ?_).trans ih
    unfold slices_symMergeCmpFunc_api_Route_r0_l2
    dsimp only
    rw [w64_m1 (by omega) hb, sc P.length (by omega)]
    have : decide ((P.length : Int) < ((e - 1 : Nat) : Int)) = true := by simp; omega
    have e1 : P ++ x :: (y :: B ++ R) = (P ++ [x]) ++ y :: (B ++ R) := by simp
    have i1 : idx (P ++ x :: (y :: B ++ R)) ((P.length + 1 : Nat) : Int) = some y := by rw [e1]; exact idx_mid (by simp)
    have i2 : idx (P ++ x :: (y :: B ++ R)) (P.length : Int) = some x := idx_mid rfl
    have s1 : (P ++ x :: (y :: B ++ R)).set (P.length : Int).toNat y = P ++ y :: (y :: B ++ R) := by rw [Int.toNat_natCast]; exact set_mid _ _ _ _
    have i3 : idx (P ++ y :: (y :: B ++ R)) ((P.length + 1 : Nat) : Int) = some y := by rw [show P ++ y :: (y :: B ++ R) = (P ++ [y]) ++ y :: (B ++ R) by simp]; exact idx_mid (by simp)
    have s2 : (P ++ y :: (y :: B ++ R)).set ((P.length + 1 : Nat) : Int).toNat x = P ++ y :: x :: (B ++ R) := by
      rw [Int.toNat_natCast, show P ++ y :: (y :: B ++ R) = (P ++ [y]) ++ y :: (B ++ R) by simp, set_mid' (by simp)]; simp
    rw [this, cond_true, i1, i2]
    simp only [Option.bind_some]
    rw [s1, i3]
    simp only [Option.bind_some]
    rw [s2]
theorem left_step {P R : List TRoute} {x y : TRoute} {n : Nat} (h : n = P.length + 1) (hb : n ≤ 1000) :
    idx (P ++ x :: y :: R) ((n : Nat) : Int) = some y ∧ w64 ((n : Int) - 1) = (P.length : Int) ∧ idx (P ++ x :: y :: R) (P.length : Int) = some x ∧ (P ++ x :: y :: R).set (n : Int).toNat x = P ++ x :: x :: R ∧ idx (P ++ x :: x :: R) (P.length : Int) = some x ∧ (P ++ x :: x :: R).set (P.length : Int).toNat y = P ++ y :: x :: R := by
  refine ⟨?_, ?_, idx_mid rfl, ?_, idx_mid rfl, ?_⟩
  · rw [show P ++ x :: y :: R = (P ++ [x]) ++ y :: R by simp]; exact idx_mid (by simp; omega)
  · rw [w64_m1 (by omega) hb]; congr 1; omega
  · rw [Int.toNat_natCast, show P ++ x :: y :: R = (P ++ [x]) ++ y :: R by simp, set_mid' (by simp; omega)]; simp
  · rw [Int.toNat_natCast]; exact set_mid _ _ _ _
theorem mvl_iter : ∀ (n : Nat) (A P R : List TRoute) (y : TRoute), A.length = n → P.length + n ≤ 1000 → iter (slices_symMergeCmpFunc_api_Route_r0_l4 (P.length : Int)) (((P.length + n : Nat) : Int), P ++ (A ++ y :: R)) = some (P ++ y :: (A ++ R))
  | 0, A, P, R, y, h, hb => by
    obtain rfl := List.eq_nil_of_length_eq_zero h
    refine iter_out ?_
    unfold slices_symMergeCmpFunc_api_Route_r0_l4
    simp
  | n + 1, A, P, R, y, h, hb => by
    obtain ⟨A', x, rfl⟩ : ∃ A' x, A = A' ++ [x] := ⟨A.dropLast, A.getLast (by rintro rfl; simp at h), (List.dropLast_concat_getLast _).symm⟩
    simp only [List.length_append, List.length_singleton] at h
    have ih := mvl_iter n A' P (x :: R) y (by omega) (by omega)
    rw [show P ++ y :: ((A' ++ [x]) ++ R) = P ++ y :: (A' ++ x :: R) by simp]
    refine (iter_cont ?_).trans ih
    unfold slices_symMergeCmpFunc_api_Route_r0_l4
    dsimp only
    have e : P ++ ((A' ++ [x]) ++ y :: R) = (P ++ A') ++ x :: y :: R := by simp
    obtain ⟨i1, w1, i2, s1, i3, s2⟩ := left_step (P := P ++ A') (R := R) (x := x) (y := y) (n := P.length + (n + 1)) (by simp; omega) hb
    have hd : decide ((P.length : Int) < ((P.length + (n + 1) : Nat) : Int)) = true := by simp; omega
    rw [hd, cond_true, e, w1, i1, i2]
    simp only [Option.bind_some]
    rw [s1, i3]
    simp only [Option.bind_some]
    rw [s2]
    simp
    omega
end Go.Proofs.Ytpclhpncmlbccaa

/- slices.SortStableFunc at routes: insertion, the search for a place, merging. -/
namespace Go.Proofs.Ytpclhpncmlbccaa
open Go.RowKit
set_option linter.unusedVariables false
set_option maxHeartbeats 1000000
abbrev pk (x : TRoute) : Int := x.Preference
/-! ### insertion -/
theorem insl_iter : ∀ (n : Nat) (A P R : List TRoute) (y : TRoute) (A1 : List TRoute) (a : Nat), A.length = n → a ≤ P.length → P.length + n ≤ 1000 → PrOk y → PrAll A → PrAll P → (∀ x ∈ A, pk y < pk x) → (a = P.length ∨ ∃ P' z, P = P' ++ [z] ∧ pk z ≤ pk y) →
    iter (slices_insertionSortCmpFunc_api_Route_l2 (a : Int)) (((P.length + n : Nat) : Int), P ++ (A ++ y :: R)) = some (P ++ y :: (A ++ R))
  | 0, A, P, R, y, A1, a, h, ha, hb, hy, hA, hP, hgt, hz => by
    obtain rfl := List.eq_nil_of_length_eq_zero h
    refine iter_out ?_
    unfold slices_insertionSortCmpFunc_api_Route_l2
    dsimp only
    rcases hz with rfl | ⟨P', z, rfl, hz⟩
    · have : decide ((P.length : Int) < ((P.length + 0 : Nat) : Int)) = false := by simp
      rw [this]
      rfl
    · have hzo : PrOk z := hP z (by simp)
      by_cases hlt : a < (P' ++ [z]).length
      · have hd : decide ((a : Int) < (((P' ++ [z]).length + 0 : Nat) : Int)) = true := by simp at hlt; simp; omega
        have e : (P' ++ [z]) ++ ([] ++ y :: R) = P' ++ z :: y :: R := by simp
        obtain ⟨i1, w1, i2, _⟩ := left_step (P := P') (R := R) (x := z) (y := y) (n := (P' ++ [z]).length + 0) (by simp) (by simpa using hb)
        rw [hd, cond_true, e, w1, i1, i2]
        simp only [Option.bind_some, pr_lt hy hzo]
        have hz' : z.Preference ≤ y.Preference := hz
        rw [decide_eq_false (by omega)]
        show some (Step.out (P' ++ z :: y :: R)) = _
        simp
      · have hd : decide ((a : Int) < (((P' ++ [z]).length + 0 : Nat) : Int)) = false := by simp at hlt; simp; omega
        rw [hd]
        rfl
  | n + 1, A, P, R, y, A1, a, h, ha, hb, hy, hA, hP, hgt, hz => by
    obtain ⟨A', x, rfl⟩ : ∃ A' x, A = A' ++ [x] := ⟨A.dropLast, A.getLast (by rintro rfl; simp at h), (List.dropLast_concat_getLast _).symm⟩
    simp only [List.length_append, List.length_singleton] at h
    have ih := insl_iter n A' P (x :: R) y A1 a (by omega) ha (by omega) hy (fun z hz => hA z (by simp [hz])) hP (fun z hz => hgt z (by simp [hz])) hz
    rw [show P ++ y :: ((A' ++ [x]) ++ R) = P ++ y :: (A' ++ x :: R) by simp]
    refine (iter_cont ?_).trans ih
    unfold slices_insertionSortCmpFunc_api_Route_l2
    dsimp only
    have e : P ++ ((A' ++ [x]) ++ y :: R) = (P ++ A') ++ x :: y :: R := by simp
    obtain ⟨i1, w1, i2, s1, i3, s2⟩ := left_step (P := P ++ A') (R := R) (x := x) (y := y) (n := P.length + (n + 1)) (by simp; omega) hb
    have hd : decide ((a : Int) < ((P.length + (n + 1) : Nat) : Int)) = true := by simp; omega
    have hlt : y.Preference < x.Preference := hgt x (by simp)
    rw [hd, cond_true, e, w1, i1, i2]
    simp only [Option.bind_some, pr_lt hy (hA x (by simp))]
    rw [decide_eq_true hlt]
    simp only [Option.bind_some, cond_true]
    rw [s1, i3]
    simp only [Option.bind_some]
    rw [s2]
    simp
    omega
theorem sorted_parts {key : TRoute → Int} : ∀ {l : List TRoute} (y : Int), sortd key l → ∃ A1 A2, l = A1 ++ A2 ∧ (∀ x ∈ A1, key x ≤ y) ∧ ∀ x ∈ A2, y < key x
  | [], y, _ => ⟨[], [], rfl, by simp, by simp⟩
  | x :: l, y, h => by
    by_cases hx : key x ≤ y
    · obtain ⟨A1, A2, h1, h2, h3⟩ := sorted_parts y h.2
      exact ⟨x :: A1, A2, by rw [h1]; rfl, fun z hz => by rcases List.mem_cons.1 hz with rfl | hz; · exact hx
                                                          · exact h2 z hz, h3⟩
    · exact ⟨[], x :: l, rfl, by simp, fun z hz => by
        rcases List.mem_cons.1 hz with rfl | hz
        · omega
        · have := h.1 z hz; omega⟩
theorem ins_outer : ∀ (R D P S : List TRoute), D ≠ [] → P.length + D.length + R.length ≤ 1000 → PrAll (D ++ R) → PrAll P →
    iter (slices_insertionSortCmpFunc_api_Route_l1 (P.length : Int) ((P.length + D.length + R.length : Nat) : Int)) (((P.length + D.length : Nat) : Int), P ++ (isort pk D ++ (R ++ S))) = some (P ++ (isort pk (D ++ R) ++ S))
  | [], D, P, S, hD, hb, hA, hP => by
    refine iter_out ?_
    unfold slices_insertionSortCmpFunc_api_Route_l1
    simp
  | y :: R, D, P, S, hD, hb, hA, hP => by
    simp only [List.length_cons] at hb
    have ih := ins_outer R (D ++ [y]) P S (by simp) (by simp; omega) (by simpa using hA) hP
    have e1 : P.length + (D ++ [y]).length + R.length = P.length + D.length + (y :: R).length := by simp; omega
    have e2 : ((P.length + (D ++ [y]).length : Nat) : Int) = ((P.length + D.length + 1 : Nat) : Int) := by simp; omega
    rw [e1, e2, show (D ++ [y]) ++ R = D ++ y :: R by simp] at ih
    refine (iter_cont ?_).trans ih
    unfold slices_insertionSortCmpFunc_api_Route_l1
    dsimp only
    have hd : decide (((P.length + D.length : Nat) : Int) < ((P.length + D.length + (y :: R).length : Nat) : Int)) = true := by simp; omega
    rw [hd, cond_true]
    obtain ⟨A1, A2, h1, h2, h3⟩ := sorted_parts (pk y) (isort_sorted pk D)
    have hlen : A1.length + A2.length = D.length := by rw [← List.length_append, ← h1, len_isort]
    have hmem : ∀ z, z ∈ A1 ∨ z ∈ A2 → PrOk z := fun z hz => hA z (by
      have : z ∈ isort pk D := by rw [h1]; exact List.mem_append.2 hz
      simp [(mem_isort pk).1 this])
    have hin := insl_iter A2.length A2 (P ++ A1) (R ++ S) y [] P.length rfl (by simp) (by simp; omega) (hA y (by simp)) (fun z hz => hmem z (.inr hz)) (fun z hz => by
      rcases List.mem_append.1 hz with h | h
      · exact hP z h
      · exact hmem z (.inl h)) h3 (by
      rcases List.eq_nil_or_concat A1 with rfl | ⟨A', z, rfl⟩
      · left; simp
      · exact .inr ⟨P ++ A', z, by simp, h2 z (by simp)⟩)
    have e3 : ((P ++ A1).length + A2.length : Nat) = P.length + D.length := by simp; omega
    rw [e3] at hin
    have e4 : P ++ (isort pk D ++ (y :: R ++ S)) = (P ++ A1) ++ (A2 ++ y :: (R ++ S)) := by rw [h1]; simp
    rw [e4, hin]
    simp only [Option.bind_some]
    rw [sc _ (by omega)]
    have e5 : isort pk (D ++ [y]) = A1 ++ y :: A2 := by
      rw [isort_append, h1]
      exact mrg_one_right pk h2 h3
    rw [e5]
    simp
theorem insertion_eq {P D S : List TRoute} (hb : P.length + D.length ≤ 1000) (hA : PrAll D) (hP : PrAll P) (hne : P ++ (D ++ S) ≠ []) :
    slices_insertionSortCmpFunc_api_Route (P ++ (D ++ S)) (P.length : Int) ((P.length + D.length : Nat) : Int) = some (P ++ (isort pk D ++ S)) := by
  unfold slices_insertionSortCmpFunc_api_Route
  rw [show (P ++ (D ++ S)).isEmpty = false by simpa using hne, cond_false]
  cases D with
  | nil =>
    have : iter (slices_insertionSortCmpFunc_api_Route_l1 (P.length : Int) ((P.length + ([] : List TRoute).length : Nat) : Int)) (w64 ((P.length : Int) + 1), P ++ ([] ++ S)) = some (P ++ ([] ++ S)) := by
      refine iter_out ?_
      unfold slices_insertionSortCmpFunc_api_Route_l1
      dsimp only
      rw [sc P.length (by simp at hb; omega)]
      have : decide (((P.length + 1 : Nat) : Int) < ((P.length + ([] : List TRoute).length : Nat) : Int)) = false := by simp; omega
      rw [this]
      rfl
    rw [this]
    rfl
  | cons x D =>
    simp only [List.length_cons] at hb
    have := ins_outer D [x] P S (by simp) (by simp; omega) (by simpa using hA) hP
    have e1 : P.length + [x].length + D.length = P.length + (x :: D).length := by simp; omega
    rw [e1] at this
    rw [sc P.length (by omega)]
    have e2 : isort pk [x] = [x] := rfl
    rw [e2] at this
    simp only [List.length_singleton] at this
    rw [show P ++ (x :: D ++ S) = P ++ ([x] ++ (D ++ S)) by simp, this]
    rfl
/-! ### the search -/
theorem search_eq (q : Nat → Bool) (lo hi : Nat) (hhi : hi ≤ 400) {body : Int × Int → Option (Step (Int × Int) Int)}
    (hend : ∀ i j : Nat, lo ≤ i → j ≤ hi → ¬ i < j → body ((i : Int), (j : Int)) = some (.out (i : Int)))
    (hstep : ∀ i j : Nat, lo ≤ i → i < j → j ≤ hi → body ((i : Int), (j : Int)) = some (.cont (bif q ((i + j) / 2) then (((i + j) / 2 + 1 : Nat) : Int) else (i : Int), bif q ((i + j) / 2) then (j : Int) else (((i + j) / 2 : Nat) : Int))))
    (hmono : ∀ s t, lo ≤ s → s ≤ t → t < hi → q t = true → q s = true) :
    ∀ (n i j : Nat), j - i ≤ n → lo ≤ i → i ≤ j → j ≤ hi → (∀ t, lo ≤ t → t < i → q t = true) → (∀ t, j ≤ t → t < hi → q t = false) → ∃ r : Nat, iter body ((i : Int), (j : Int)) = some (r : Int) ∧ i ≤ r ∧ r ≤ j ∧ (∀ t, lo ≤ t → t < r → q t = true) ∧ (∀ t, r ≤ t → t < hi → q t = false)
  | n, i, j, hn, h1, h2, h3, h4, h5 => by
    by_cases hij : i < j
    · have hs := hstep i j h1 hij h3
      cases n with
      | zero => omega
      | succ n =>
        cases hq : q ((i + j) / 2) with
        | true =>
          rw [hq] at hs
          obtain ⟨r, r1, r2, r3, r4, r5⟩ := search_eq q lo hi hhi hend hstep hmono n ((i + j) / 2 + 1) j (by omega) (by omega) (by omega) h3 (fun t ht1 ht2 => hmono t ((i + j) / 2) ht1 (by omega) (by omega) hq) h5
          exact ⟨r, (iter_cont hs).trans r1, by omega, r3, r4, r5⟩
        | false =>
          rw [hq] at hs
          obtain ⟨r, r1, r2, r3, r4, r5⟩ := search_eq q lo hi hhi hend hstep hmono n i ((i + j) / 2) (by omega) h1 (by omega) (by omega) h4 (fun t ht1 ht2 => by
            cases hqt : q t with
            | false => rfl
            | true => rw [hmono ((i + j) / 2) t (by omega) ht1 ht2 hqt] at hq; cases hq)
          exact ⟨r, (iter_cont hs).trans r1, r2, by omega, r4, r5⟩
    · obtain rfl : i = j := by omega
      exact ⟨i, iter_out (hend i i h1 h3 hij), Nat.le_refl _, Nat.le_refl _, h4, h5⟩
theorem sorted_get {key : TRoute → Int} : ∀ {l : List TRoute}, sortd key l → ∀ {i j : Nat} {x y : TRoute}, i ≤ j → l[i]? = some x → l[j]? = some y → key x ≤ key y
  | [], _, i, j, x, y, _, h, _ => by simp at h
  | z :: l, h, 0, 0, x, y, _, h1, h2 => by rw [h1] at h2; cases h2; exact Int.le_refl _
  | z :: l, h, 0, j + 1, x, y, _, h1, h2 => by
    simp at h1 h2
    subst h1
    exact h.1 y (List.mem_of_getElem? h2)
  | z :: l, h, i + 1, 0, x, y, hij, h1, h2 => by omega
  | z :: l, h, i + 1, j + 1, x, y, hij, h1, h2 => sorted_get h.2 (Nat.le_of_succ_le_succ hij) (by simpa using h1) (by simpa using h2)
theorem sorted_append {key : TRoute → Int} : ∀ {A B : List TRoute}, sortd key (A ++ B) → sortd key A ∧ sortd key B
  | [], B, h => ⟨trivial, h⟩
  | x :: A, B, h => ⟨⟨fun y hy => h.1 y (by simp [hy]), (sorted_append h.2).1⟩, (sorted_append h.2).2⟩
end Go.Proofs.Ytpclhpncmlbccaa

/- slices.SortStableFunc at routes: two sorted parts are merged in place. -/
namespace Go.Proofs.Ytpclhpncmlbccaa
open Go.RowKit
set_option linter.unusedVariables false
set_option maxHeartbeats 2000000
abbrev SMf := List TRoute → Int → Int → Int → Option (List TRoute)
def SMok (f : SMf) (s : Nat) : Prop := ∀ P A B S : List TRoute, A ≠ [] → B ≠ [] → A.length + B.length ≤ s → P.length + A.length + B.length ≤ 400 → PrAll A → PrAll B → sortd pk A → sortd pk B →
  f (P ++ (A ++ (B ++ S))) (P.length : Int) ((P.length + A.length : Nat) : Int) ((P.length + A.length + B.length : Nat) : Int) = some (P ++ (mrg pk A B ++ S))
theorem idx_in {P A R : List TRoute} {i : Nat} {x : TRoute} (h : A[i]? = some x) {n : Nat} (hn : n = P.length + i) : idx (P ++ (A ++ R)) (n : Int) = some x := by
  have hi := lt_get h
  rw [idx_nat, hn, List.getElem?_append_right (by omega), List.getElem?_append_left (by omega)]
  rw [show P.length + i - P.length = i by omega]
  exact h
theorem idx_in2 {P A B R : List TRoute} {i : Nat} {x : TRoute} (h : B[i]? = some x) {n : Nat} (hn : n = P.length + A.length + i) : idx (P ++ (A ++ (B ++ R))) (n : Int) = some x := by
  rw [show P ++ (A ++ (B ++ R)) = (P ++ A) ++ (B ++ R) by simp]
  exact idx_in h (by simp; omega)
/-- one element and a sorted part -/
theorem sm_left {P B S : List TRoute} {x : TRoute} (hb : P.length + 1 + B.length ≤ 400) (hx : PrOk x) (hB : PrAll B) (hs : sortd pk B) :
    ((iter (slices_symMergeCmpFunc_api_Route_r0_l1 (P ++ ([x] ++ (B ++ S))) (P.length : Int)) (((P.length + 1 : Nat) : Int), ((P.length + 1 + B.length : Nat) : Int))).bind fun b3 => (iter (slices_symMergeCmpFunc_api_Route_r0_l2 b3) ((P.length : Int), P ++ ([x] ++ (B ++ S)))).bind fun b16 => some b16) = some (P ++ (mrg pk [x] B ++ S)) := by
  have hget : ∀ t, P.length + 1 ≤ t → t < P.length + 1 + B.length → ∃ y, B[t - (P.length + 1)]? = some y ∧ PrOk y ∧ idx (P ++ ([x] ++ (B ++ S))) (t : Int) = some y := by
    intro t h1 h2
    have hlt : t - (P.length + 1) < B.length := by omega
    exact ⟨B[t - (P.length + 1)], List.getElem?_eq_getElem hlt, hB _ (List.getElem_mem hlt), idx_in2 (List.getElem?_eq_getElem hlt) (by simp; omega)⟩
  let q : Nat → Bool := fun t => decide (((B[t - (P.length + 1)]?).map pk).getD 0 < pk x)
  have hq : ∀ {t : Nat} {y}, B[t - (P.length + 1)]? = some y → q t = decide (pk y < pk x) := fun h => by simp [q, h]
  obtain ⟨r, r1, r2, r3, r4, r5⟩ := search_eq q (P.length + 1) (P.length + 1 + B.length) hb (body := slices_symMergeCmpFunc_api_Route_r0_l1 (P ++ ([x] ++ (B ++ S))) (P.length : Int)) (fun i j _ _ hij => by
    unfold slices_symMergeCmpFunc_api_Route_r0_l1
    have : decide ((i : Int) < (j : Int)) = false := by simp; omega
    dsimp only
    rw [this]
    rfl) (fun i j h1 hij h2 => by
    obtain ⟨y, y1, y2, y3⟩ := hget ((i + j) / 2) (by omega) (by omega)
    unfold slices_symMergeCmpFunc_api_Route_r0_l1
    have : decide ((i : Int) < (j : Int)) = true := by simp; omega
    have ix : idx (P ++ ([x] ++ (B ++ S))) (P.length : Int) = some x := idx_mid rfl
    dsimp only
    rw [this, cond_true, half_eq (by omega), y3, ix]
    simp only [Option.bind_some, pr_lt y2 hx, hq y1, sc ((i + j) / 2) (by omega)]
    cases decide (pk y < pk x) <;> rfl) (fun s t h1 h2 h3 h4 => by
    obtain ⟨y, y1, _⟩ := hget s h1 (by omega)
    obtain ⟨z, z1, _⟩ := hget t (by omega) h3
    rw [hq z1] at h4
    rw [hq y1]
    have := sorted_get hs (by omega) y1 z1
    simp only [decide_eq_true_eq] at h4 ⊢
    omega) B.length (P.length + 1) (P.length + 1 + B.length) (by omega) (Nat.le_refl _) (by omega) (Nat.le_refl _) (fun t h1 h2 => by omega) (fun t h1 h2 => by omega)
  rw [r1]
  simp only [Option.bind_some]
  have hBs : B = B.take (r - (P.length + 1)) ++ B.drop (r - (P.length + 1)) := (List.take_append_drop _ _).symm
  have hm := mvr_iter (B.take (r - (P.length + 1))) P (B.drop (r - (P.length + 1)) ++ S) x r (by rw [List.length_take]; omega) (by omega)
  rw [show P ++ x :: (B.take (r - (P.length + 1)) ++ (B.drop (r - (P.length + 1)) ++ S)) = P ++ ([x] ++ (B ++ S)) by rw [← List.append_assoc (B.take _), List.take_append_drop]; rfl] at hm
  rw [hm]
  have e : mrg pk [x] B = B.take (r - (P.length + 1)) ++ x :: B.drop (r - (P.length + 1)) := by
    conv => lhs; rw [hBs]
    refine mrg_one_left pk (fun y hy => ?_) (fun y hy => ?_)
    · obtain ⟨i, hi⟩ := List.mem_iff_getElem?.1 hy
      have hlt := lt_get hi
      rw [List.length_take] at hlt
      rw [List.getElem?_take_of_lt (by omega)] at hi
      have := r4 (P.length + 1 + i) (by omega) (by omega)
      rw [hq (y := y) (by rw [show P.length + 1 + i - (P.length + 1) = i by omega]; exact hi)] at this
      simpa using this
    · obtain ⟨i, hi⟩ := List.mem_iff_getElem?.1 hy
      have hlt := lt_get hi
      rw [List.length_drop] at hlt
      rw [List.getElem?_drop] at hi
      have := r5 (r + i) (by omega) (by omega)
      rw [hq (y := y) (by rw [show r + i - (P.length + 1) = r - (P.length + 1) + i by omega]; exact hi)] at this
      simpa using this
  rw [e]
  simp
theorem sm_right {P A S : List TRoute} {y : TRoute} (hb : P.length + A.length + 1 ≤ 400) (hy : PrOk y) (hA : PrAll A) (hs : sortd pk A) :
    ((iter (slices_symMergeCmpFunc_api_Route_r0_l3 (P ++ (A ++ ([y] ++ S))) ((P.length + A.length : Nat) : Int)) ((P.length : Int), ((P.length + A.length : Nat) : Int))).bind fun b37 => (iter (slices_symMergeCmpFunc_api_Route_r0_l4 b37) (((P.length + A.length : Nat) : Int), P ++ (A ++ ([y] ++ S)))).bind fun b50 => some b50) = some (P ++ (mrg pk A [y] ++ S)) := by
  have hget : ∀ t, P.length ≤ t → t < P.length + A.length → ∃ x, A[t - P.length]? = some x ∧ PrOk x ∧ idx (P ++ (A ++ ([y] ++ S))) (t : Int) = some x := by
    intro t h1 h2
    have hlt : t - P.length < A.length := by omega
    exact ⟨A[t - P.length], List.getElem?_eq_getElem hlt, hA _ (List.getElem_mem hlt), idx_in (List.getElem?_eq_getElem hlt) (by omega)⟩
  let q : Nat → Bool := fun t => !(decide (pk y < ((A[t - P.length]?).map pk).getD 0))
  have hq : ∀ {t : Nat} {x}, A[t - P.length]? = some x → q t = !(decide (pk y < pk x)) := fun h => by simp [q, h]
  obtain ⟨r, r1, r2, r3, r4, r5⟩ := search_eq q P.length (P.length + A.length) (by omega) (body := slices_symMergeCmpFunc_api_Route_r0_l3 (P ++ (A ++ ([y] ++ S))) ((P.length + A.length : Nat) : Int)) (fun i j _ _ hij => by
    unfold slices_symMergeCmpFunc_api_Route_r0_l3
    have : decide ((i : Int) < (j : Int)) = false := by simp; omega
    dsimp only
    rw [this]
    rfl) (fun i j h1 hij h2 => by
    obtain ⟨x, x1, x2, x3⟩ := hget ((i + j) / 2) (by omega) (by omega)
    unfold slices_symMergeCmpFunc_api_Route_r0_l3
    have : decide ((i : Int) < (j : Int)) = true := by simp; omega
    have iy : idx (P ++ (A ++ ([y] ++ S))) ((P.length + A.length : Nat) : Int) = some y := idx_in2 (B := [y]) (i := 0) rfl (by omega)
    dsimp only
    rw [this, cond_true, half_eq (by omega), iy, x3]
    simp only [Option.bind_some, pr_lt hy x2, hq x1, sc ((i + j) / 2) (by omega)]
    cases decide (pk y < pk x) <;> rfl) (fun s t h1 h2 h3 h4 => by
    obtain ⟨x, x1, _⟩ := hget s h1 (by omega)
    obtain ⟨z, z1, _⟩ := hget t (by omega) h3
    rw [hq z1] at h4
    rw [hq x1]
    have := sorted_get hs (by omega) x1 z1
    simp only [Bool.not_eq_true', decide_eq_false_iff_not] at h4 ⊢
    omega) A.length P.length (P.length + A.length) (by omega) (Nat.le_refl _) (by omega) (Nat.le_refl _) (fun t h1 h2 => by omega) (fun t h1 h2 => by omega)
  rw [r1]
  simp only [Option.bind_some]
  have hAs : A = A.take (r - P.length) ++ A.drop (r - P.length) := (List.take_append_drop _ _).symm
  have hl1 : (P ++ A.take (r - P.length)).length = r := by simp; omega
  have hm := mvl_iter (A.drop (r - P.length)).length (A.drop (r - P.length)) (P ++ A.take (r - P.length)) S y rfl (by simp; omega)
  rw [hl1, show r + (A.drop (r - P.length)).length = P.length + A.length by simp; omega, show (P ++ A.take (r - P.length)) ++ (A.drop (r - P.length) ++ y :: S) = P ++ (A ++ ([y] ++ S)) by rw [List.append_assoc, ← List.append_assoc (A.take _), List.take_append_drop]; rfl] at hm
  rw [hm]
  have e : mrg pk A [y] = A.take (r - P.length) ++ y :: A.drop (r - P.length) := by
    conv => lhs; rw [hAs]
    refine mrg_one_right pk (fun x hx => ?_) (fun x hx => ?_)
    · obtain ⟨i, hi⟩ := List.mem_iff_getElem?.1 hx
      have hlt := lt_get hi
      rw [List.length_take] at hlt
      rw [List.getElem?_take_of_lt (by omega)] at hi
      have := r4 (P.length + i) (by omega) (by omega)
      rw [hq (x := x) (by rw [show P.length + i - P.length = i by omega]; exact hi)] at this
      simpa using this
    · obtain ⟨i, hi⟩ := List.mem_iff_getElem?.1 hx
      have hlt := lt_get hi
      rw [List.length_drop] at hlt
      rw [List.getElem?_drop] at hi
      have := r5 (r + i) (by omega) (by omega)
      rw [hq (x := x) (by rw [show r + i - P.length = r - P.length + i by omega]; exact hi)] at this
      simpa using this
  rw [e]
  simp
theorem len_one {l : List TRoute} (h : l.length = 1) : ∃ x, l = [x] := by
  match l, h with
  | [x], _ => exact ⟨x, rfl⟩
theorem ne_one {n : Nat} (h : 2 ≤ n) : ((n : Int) == 1) = false := by simp; omega
theorem r0_ok : SMok slices_symMergeCmpFunc_api_Route_r0 3 := by
  intro P A B S hA hB hs hb pA pB sA sB
  have hA1 : 0 < A.length := List.length_pos_iff.2 hA
  have hB1 : 0 < B.length := List.length_pos_iff.2 hB
  unfold slices_symMergeCmpFunc_api_Route_r0
  rw [show (P ++ (A ++ (B ++ S))).isEmpty = false by simp [hA], cond_false]
  have w1 : w64 (((P.length + A.length : Nat) : Int) - (P.length : Int)) = (A.length : Int) := by rw [w64_ns _ _ (by omega) (by omega)]; congr 1; omega
  have w2 : w64 (((P.length + A.length + B.length : Nat) : Int) - ((P.length + A.length : Nat) : Int)) = (B.length : Int) := by rw [w64_ns _ _ (by omega) (by omega)]; congr 1; omega
  rw [w1, w2]
  by_cases h1 : A.length = 1
  · obtain ⟨x, rfl⟩ := len_one h1
    have := sm_left (P := P) (B := B) (S := S) (x := x) (by simp at hb; omega) (pA x (by simp)) pB sB
    exact this
  · have h2 : B.length = 1 := by omega
    obtain ⟨y, rfl⟩ := len_one h2
    rw [ne_one (by omega : 2 ≤ A.length), cond_false]
    have := sm_right (P := P) (A := A) (S := S) (y := y) (by simp at hb; omega) (pB y (by simp)) pA sA
    exact this
/-- the step of the merging, over what is called for the parts -/
noncomputable def smBody (rec : SMf) (a0 : List TRoute) (a1 : Int) (a2 : Int) (a3 : Int) : Option (List TRoute) :=
  bif a0.isEmpty then none else ((bif ((w64 (a2 - a1)) == 1) then (iter (slices_symMergeCmpFunc_api_Route_r0_l1 a0 a1) ((a2, a3))).bind fun b3 => (iter (slices_symMergeCmpFunc_api_Route_r0_l2 b3) ((a1, a0))).bind fun b16 => some b16 else (bif ((w64 (a3 - a2)) == 1) then (iter (slices_symMergeCmpFunc_api_Route_r0_l3 a0 a2) ((a1, a2))).bind fun b37 => (iter (slices_symMergeCmpFunc_api_Route_r0_l4 b37) ((a2, a0))).bind fun b50 => some b50 else ((bif decide ((w64 ((uShr ((wu64 ((w64 (a1 + a3))))) 1))) < a2) then some (((w64 ((uShr ((wu64 ((w64 (a1 + a3))))) 1))), (w64 ((w64 ((uShr ((wu64 ((w64 (a1 + a3))))) 1))) + a2)), (w64 ((w64 ((w64 ((uShr ((wu64 ((w64 (a1 + a3))))) 1))) + a2)) - a3)), (w64 ((uShr ((wu64 ((w64 (a1 + a3))))) 1))))) else some (((w64 ((uShr ((wu64 ((w64 (a1 + a3))))) 1))), (w64 ((w64 ((uShr ((wu64 ((w64 (a1 + a3))))) 1))) + a2)), a1, a2))) : Option (Int × Int × Int × Int)).bind fun (j69 : Int × Int × Int × Int) => (iter (slices_symMergeCmpFunc_api_Route_r0_l5 a0 j69) ((j69.2.2.1, j69.2.2.2))).bind fun b72 => (((bif decide (b72 < a2) then some (((w64 (j69.2.1 - b72)), decide (a2 < (w64 (j69.2.1 - b72))))) else some (((w64 (j69.2.1 - b72)), false))) : Option (Int × Bool)).bind fun (j85 : Int × Bool) => (bif j85.2 then (slices_rotateCmpFunc_api_Route a0 b72 a2 j85.1).bind fun v88 => some ((j85.1, v88)) else some ((j85.1, a0))) : Option (Int × (List TRoute))).bind fun (j84 : Int × (List TRoute)) => (((bif decide (a1 < b72) then some (decide (b72 < j69.1)) else some false) : Option Bool).bind fun (j91 : Bool) => (bif j91 then (rec j84.2 a1 b72 j69.1).bind fun v94 => some v94 else some j84.2) : Option (List TRoute)).bind fun (j90 : List TRoute) => ((bif decide (j69.1 < j84.1) then some (decide (j84.1 < a3)) else some false) : Option Bool).bind fun (j96 : Bool) => (bif j96 then (rec j90 j69.1 j84.1 a3).bind fun v99 => some v99 else some j90))))
theorem r1_eq : slices_symMergeCmpFunc_api_Route_r1 = smBody slices_symMergeCmpFunc_api_Route_r0 := rfl
theorem r2_eq : slices_symMergeCmpFunc_api_Route_r2 = smBody slices_symMergeCmpFunc_api_Route_r1 := rfl
theorem r3_eq : slices_symMergeCmpFunc_api_Route_r3 = smBody slices_symMergeCmpFunc_api_Route_r2 := rfl
theorem r4_eq : slices_symMergeCmpFunc_api_Route_r4 = smBody slices_symMergeCmpFunc_api_Route_r3 := rfl
theorem rt_eq : slices_symMergeCmpFunc_api_Route = smBody slices_symMergeCmpFunc_api_Route_r4 := rfl
end Go.Proofs.Ytpclhpncmlbccaa

/- slices.SortStableFunc at routes: merging in general, and the whole. -/
namespace Go.Proofs.Ytpclhpncmlbccaa
open Go.RowKit
set_option linter.unusedVariables false
set_option maxHeartbeats 4000000
theorem PrAll.mrg {A B : List TRoute} (hA : PrAll A) (hB : PrAll B) : PrAll (mrg pk A B) := fun x hx => by
  rcases (mem_mrg' pk).1 hx with h | h
  · exact hA x h
  · exact hB x h
theorem sm_search {P A B S : List TRoute} {mid lo hi : Nat} (hb : P.length + A.length + B.length ≤ 400) (pA : PrAll A) (pB : PrAll B) (sA : sortd pk A) (sB : sortd pk B)
    (hlo : P.length ≤ lo) (hlh : lo ≤ hi) (hh1 : hi ≤ P.length + A.length) (hh2 : hi ≤ mid) (hlm : mid ≤ lo + B.length) (j69 : Int × Int × Int × Int) (hj : j69.2.1 = ((mid + (P.length + A.length) : Nat) : Int)) (hm : mid ≤ 400) :
    ∃ r : Nat, iter (slices_symMergeCmpFunc_api_Route_r0_l5 (P ++ (A ++ (B ++ S))) j69) ((lo : Int), (hi : Int)) = some (r : Int) ∧ lo ≤ r ∧ r ≤ hi ∧
      (∀ x y, lo < r → A[r - 1 - P.length]? = some x → B[mid - r]? = some y → pk x ≤ pk y) ∧ (∀ x y, r < hi → A[r - P.length]? = some x → B[mid - 1 - r]? = some y → pk y < pk x) := by
  have hget : ∀ t, lo ≤ t → t < hi → ∃ x y, A[t - P.length]? = some x ∧ PrOk x ∧ idx (P ++ (A ++ (B ++ S))) (t : Int) = some x ∧ B[mid - 1 - t]? = some y ∧ PrOk y ∧ idx (P ++ (A ++ (B ++ S))) ((mid + (P.length + A.length) - 1 - t : Nat) : Int) = some y := by
    intro t h1 h2
    have hl1 : t - P.length < A.length := by omega
    have hl2 : mid - 1 - t < B.length := by omega
    exact ⟨A[t - P.length], B[mid - 1 - t], List.getElem?_eq_getElem hl1, pA _ (List.getElem_mem hl1), idx_in (List.getElem?_eq_getElem hl1) (by omega), List.getElem?_eq_getElem hl2, pB _ (List.getElem_mem hl2), idx_in2 (List.getElem?_eq_getElem hl2) (by omega)⟩
  let q : Nat → Bool := fun t => !(decide (((B[mid - 1 - t]?).map pk).getD 0 < ((A[t - P.length]?).map pk).getD 0))
  have hq : ∀ {t : Nat} {x y}, A[t - P.length]? = some x → B[mid - 1 - t]? = some y → q t = !(decide (pk y < pk x)) := fun h1 h2 => by simp [q, h1, h2]
  obtain ⟨r, r1, r2, r3, r4, r5⟩ := search_eq q lo hi (by omega) (body := slices_symMergeCmpFunc_api_Route_r0_l5 (P ++ (A ++ (B ++ S))) j69) (fun i j _ _ hij => by
    unfold slices_symMergeCmpFunc_api_Route_r0_l5
    have : decide ((i : Int) < (j : Int)) = false := by simp; omega
    dsimp only
    rw [this]
    rfl) (fun i j h1 hij h2 => by
    obtain ⟨x, y, x1, x2, x3, y1, y2, y3⟩ := hget ((i + j) / 2) (by omega) (by omega)
    unfold slices_symMergeCmpFunc_api_Route_r0_l5
    have : decide ((i : Int) < (j : Int)) = true := by simp; omega
    dsimp only
    rw [this, cond_true, hj, half_eq (by omega), w64_m1 (by omega) (by omega), w64_ns _ _ (by omega) (by omega), y3, x3]
    simp only [Option.bind_some, pr_lt y2 x2, hq x1 y1, sc ((i + j) / 2) (by omega)]
    cases decide (pk y < pk x) <;> rfl) (fun s t h1 h2 h3 h4 => by
    obtain ⟨x, y, x1, _, _, y1, _⟩ := hget s h1 (by omega)
    obtain ⟨x', y', x1', _, _, y1', _⟩ := hget t (by omega) h3
    rw [hq x1' y1'] at h4
    rw [hq x1 y1]
    have e1 := sorted_get sA (by omega) x1 x1'
    have e2 := sorted_get sB (by omega) y1' y1
    simp only [Bool.not_eq_true', decide_eq_false_iff_not] at h4 ⊢
    omega) (hi - lo) lo hi (Nat.le_refl _) (Nat.le_refl _) hlh (Nat.le_refl _) (fun t h1 h2 => by omega) (fun t h1 h2 => by omega)
  refine ⟨r, r1, r2, r3, fun x y h1 hx hy => ?_, fun x y h1 hx hy => ?_⟩
  · have := r4 (r - 1) (by omega) (by omega)
    rw [hq (x := x) (y := y) (by exact hx) (by rw [show mid - 1 - (r - 1) = mid - r by omega]; exact hy)] at this
    simpa using this
  · have := r5 r (Nat.le_refl _) h1
    rw [hq hx hy] at this
    simpa using this
theorem mem_take_le {l : List TRoute} (hs : sortd pk l) {k : Nat} {x z : TRoute} (hx : x ∈ l.take k) (hz : l[k - 1]? = some z) : pk x ≤ pk z := by
  obtain ⟨i, hi⟩ := List.mem_iff_getElem?.1 hx
  have hlt := lt_get hi
  rw [List.length_take] at hlt
  rw [List.getElem?_take_of_lt (by omega)] at hi
  exact sorted_get hs (by omega) hi hz
theorem mem_drop_ge {l : List TRoute} (hs : sortd pk l) {k : Nat} {x z : TRoute} (hx : x ∈ l.drop k) (hz : l[k]? = some z) : pk z ≤ pk x := by
  obtain ⟨i, hi⟩ := List.mem_iff_getElem?.1 hx
  rw [List.getElem?_drop] at hi
  exact sorted_get hs (by omega) hz hi
theorem smBody_ok {f : SMf} {s : Nat} (hf : SMok f s) : SMok (smBody f) (2 * s) := by
  intro P A B S hA hB hs hb pA pB sA sB
  have hA1 : 0 < A.length := List.length_pos_iff.2 hA
  have hB1 : 0 < B.length := List.length_pos_iff.2 hB
  unfold smBody
  rw [show (P ++ (A ++ (B ++ S))).isEmpty = false by simp [hA], cond_false]
  have w1 : w64 (((P.length + A.length : Nat) : Int) - (P.length : Int)) = (A.length : Int) := by rw [w64_ns _ _ (by omega) (by omega)]; congr 1; omega
  have w2 : w64 (((P.length + A.length + B.length : Nat) : Int) - ((P.length + A.length : Nat) : Int)) = (B.length : Int) := by rw [w64_ns _ _ (by omega) (by omega)]; congr 1; omega
  rw [w1, w2]
  by_cases h1 : A.length = 1
  · obtain ⟨x, rfl⟩ := len_one h1
    exact sm_left (P := P) (B := B) (S := S) (x := x) (by simp at hb; omega) (pA x (by simp)) pB sB
  by_cases h2 : B.length = 1
  · obtain ⟨y, rfl⟩ := len_one h2
    rw [ne_one (by omega : 2 ≤ A.length), cond_false]
    exact sm_right (P := P) (A := A) (S := S) (y := y) (by simp at hb; omega) (pB y (by simp)) pA sA
  rw [ne_one (by omega : 2 ≤ A.length), ne_one (by omega : 2 ≤ B.length), cond_false, cond_false, half_eq (by omega)]
  generalize hmid : (P.length + (P.length + A.length + B.length)) / 2 = mid
  have hm1 : P.length < mid := by omega
  have hm2 : mid < P.length + A.length + B.length := by omega
  -- where the search begins and ends
  obtain ⟨lo, hi, hj, l1, l2, l3, l4, l5, l6, l7⟩ : ∃ lo hi : Nat, (bif decide ((mid : Int) < ((P.length + A.length : Nat) : Int)) then some ((mid : Int), w64 ((mid : Int) + ((P.length + A.length : Nat) : Int)), w64 (w64 ((mid : Int) + ((P.length + A.length : Nat) : Int)) - ((P.length + A.length + B.length : Nat) : Int)), (mid : Int)) else some ((mid : Int), w64 ((mid : Int) + ((P.length + A.length : Nat) : Int)), (P.length : Int), ((P.length + A.length : Nat) : Int)) : Option (Int × Int × Int × Int)) = some ((mid : Int), ((mid + (P.length + A.length) : Nat) : Int), (lo : Int), (hi : Int)) ∧
      P.length ≤ lo ∧ lo ≤ hi ∧ hi ≤ P.length + A.length ∧ hi ≤ mid ∧ mid ≤ lo + B.length ∧ (lo = P.length ∨ lo + B.length = mid) ∧ (hi = P.length + A.length ∨ hi = mid) := by
    rw [w64_nn _ _ (by omega)]
    by_cases hc : mid < P.length + A.length
    · refine ⟨mid + (P.length + A.length) - (P.length + A.length + B.length), mid, ?_, by omega, by omega, by omega, by omega, by omega, by omega, by omega⟩
      rw [w64_ns _ _ (by omega) (by omega), decide_eq_true (by omega)]
      rfl
    · refine ⟨P.length, P.length + A.length, ?_, by omega, by omega, by omega, by omega, by omega, by omega, by omega⟩
      rw [decide_eq_false (by omega)]
      rfl
  rw [hj]
  simp only [Option.bind_some]
  obtain ⟨r, r1, r2, r3, r4, r5⟩ := sm_search (P := P) (A := A) (B := B) (S := S) hb pA pB sA sB l1 l2 l3 l4 l5 ((mid : Int), ((mid + (P.length + A.length) : Nat) : Int), (lo : Int), (hi : Int)) rfl (by omega)
  rw [r1]
  simp only [Option.bind_some]
  -- the four parts
  generalize hA1' : A.take (r - P.length) = A1
  generalize hA2' : A.drop (r - P.length) = A2
  generalize hB1' : B.take (mid - r) = B1
  generalize hB2' : B.drop (mid - r) = B2
  have eA : A = A1 ++ A2 := by rw [← hA1', ← hA2', List.take_append_drop]
  have eB : B = B1 ++ B2 := by rw [← hB1', ← hB2', List.take_append_drop]
  have nA1 : A1.length = r - P.length := by rw [← hA1', List.length_take]; omega
  have nA2 : A2.length = P.length + A.length - r := by rw [← hA2', List.length_drop]; omega
  have nB1 : B1.length = mid - r := by rw [← hB1', List.length_take]; omega
  have nB2 : B2.length = r + B.length - mid := by rw [← hB2', List.length_drop]; omega
  have c1 : ∀ x ∈ A1, ∀ y ∈ B2, pk x ≤ pk y := by
    intro x hx y hy
    have p1 : 0 < A1.length := List.length_pos_of_mem hx
    have p2 : 0 < B2.length := List.length_pos_of_mem hy
    have g1 : r - P.length - 1 < A.length := by omega
    have g2 : mid - r < B.length := by omega
    have e1 := mem_take_le sA (hA1' ▸ hx) (List.getElem?_eq_getElem g1)
    have e2 := mem_drop_ge sB (hB2' ▸ hy) (List.getElem?_eq_getElem g2)
    have e3 := r4 A[r - P.length - 1] B[mid - r] (by omega) (by rw [show r - 1 - P.length = r - P.length - 1 by omega]; exact List.getElem?_eq_getElem g1) (List.getElem?_eq_getElem g2)
    omega
  have c2 : ∀ y ∈ B1, ∀ x ∈ A2, pk y < pk x := by
    intro y hy x hx
    have p1 : 0 < B1.length := List.length_pos_of_mem hy
    have p2 : 0 < A2.length := List.length_pos_of_mem hx
    have g1 : r - P.length < A.length := by omega
    have g2 : mid - r - 1 < B.length := by omega
    have e1 := mem_drop_ge sA (hA2' ▸ hx) (List.getElem?_eq_getElem g1)
    have e2 := mem_take_le sB (hB1' ▸ hy) (List.getElem?_eq_getElem g2)
    have e3 := r5 A[r - P.length] B[mid - r - 1] (by omega) (List.getElem?_eq_getElem g1) (by rw [show mid - 1 - r = mid - r - 1 by omega]; exact List.getElem?_eq_getElem g2)
    omega
  have hmm : mrg pk A B = mrg pk A1 B1 ++ mrg pk A2 B2 := by rw [eA, eB]; exact mrg_split pk _ A1 B1 A2 B2 (Nat.le_refl _) c1 c2
  have pA1 : PrAll A1 := fun x hx => pA x (by rw [eA]; simp [hx])
  have pA2 : PrAll A2 := fun x hx => pA x (by rw [eA]; simp [hx])
  have pB1 : PrAll B1 := fun x hx => pB x (by rw [eB]; simp [hx])
  have pB2 : PrAll B2 := fun x hx => pB x (by rw [eB]; simp [hx])
  have sA' := sorted_append (eA ▸ sA)
  have sB' := sorted_append (eB ▸ sB)
  -- the rotation
  have wend : w64 (((mid + (P.length + A.length) : Nat) : Int) - (r : Int)) = ((mid + (P.length + A.length) - r : Nat) : Int) := w64_ns _ _ (by omega) (by omega)
  have hrot : (((bif decide ((r : Int) < ((P.length + A.length : Nat) : Int)) then some (w64 (((mid + (P.length + A.length) : Nat) : Int) - (r : Int)), decide (((P.length + A.length : Nat) : Int) < w64 (((mid + (P.length + A.length) : Nat) : Int) - (r : Int)))) else some (w64 (((mid + (P.length + A.length) : Nat) : Int) - (r : Int)), false)) : Option (Int × Bool)).bind fun j85 => (bif j85.2 then (slices_rotateCmpFunc_api_Route (P ++ (A ++ (B ++ S))) (r : Int) ((P.length + A.length : Nat) : Int) j85.1).bind fun v88 => some (j85.1, v88) else some (j85.1, P ++ (A ++ (B ++ S))))) = some (((mid + (P.length + A.length) - r : Nat) : Int), P ++ (A1 ++ (B1 ++ (A2 ++ (B2 ++ S))))) := by
    rw [wend]
    have same : A2 = [] ∨ B1 = [] → P ++ (A ++ (B ++ S)) = P ++ (A1 ++ (B1 ++ (A2 ++ (B2 ++ S)))) := by
      rintro (h | h) <;> (rw [eA, eB, h]; simp)
    by_cases h3 : r < P.length + A.length
    · by_cases h4 : r < mid
      · have := rotate_eq (X := A2) (Y := B1) (P := P ++ A1) (S := B2 ++ S) (by intro h; rw [h] at nA2; simp at nA2; omega) (by intro h; rw [h] at nB1; simp at nB1; omega) (by simp; omega)
        have q1 : (P ++ A1).length = r := by simp; omega
        rw [q1, show r + A2.length = P.length + A.length by omega, show P.length + A.length + B1.length = mid + (P.length + A.length) - r by omega, show (P ++ A1) ++ (A2 ++ (B1 ++ (B2 ++ S))) = P ++ (A ++ (B ++ S)) by rw [eA, eB]; simp] at this
        rw [decide_eq_true (by omega), cond_true]
        simp only [Option.bind_some]
        rw [decide_eq_true (by omega), cond_true, this]
        simp
      · rw [decide_eq_true (by omega), cond_true]
        simp only [Option.bind_some]
        rw [decide_eq_false (by omega), cond_false, same (.inr (List.eq_nil_of_length_eq_zero (by omega)))]
    · rw [decide_eq_false (by omega), cond_false]
      simp only [Option.bind_some, cond_false]
      rw [same (.inl (List.eq_nil_of_length_eq_zero (by omega)))]
  rw [hrot]
  simp only [Option.bind_some]
  -- the first part
  have hleft : (((bif decide ((P.length : Int) < (r : Int)) then some (decide ((r : Int) < (mid : Int))) else some false) : Option Bool).bind fun j91 => (bif j91 then (f (P ++ (A1 ++ (B1 ++ (A2 ++ (B2 ++ S))))) (P.length : Int) (r : Int) (mid : Int)).bind fun v94 => some v94 else some (P ++ (A1 ++ (B1 ++ (A2 ++ (B2 ++ S)))))) : Option (List TRoute)) = some (P ++ (mrg pk A1 B1 ++ (A2 ++ (B2 ++ S)))) := by
    by_cases h3 : P.length < r
    · by_cases h4 : r < mid
      · have := hf P A1 B1 (A2 ++ (B2 ++ S)) (by intro h; rw [h] at nA1; simp at nA1; omega) (by intro h; rw [h] at nB1; simp at nB1; omega) (by omega) (by omega) pA1 pB1 sA'.1 sB'.1
        rw [show P.length + A1.length = r by omega, show r + B1.length = mid by omega] at this
        rw [decide_eq_true (by omega), cond_true]
        simp only [Option.bind_some]
        rw [decide_eq_true (by omega), cond_true, this]
        rfl
      · rw [decide_eq_true (by omega), cond_true]
        simp only [Option.bind_some]
        rw [decide_eq_false (by omega), cond_false, List.eq_nil_of_length_eq_zero (by omega : B1.length = 0), mrg_nil]
        rfl
    · rw [decide_eq_false (by omega), cond_false]
      simp only [Option.bind_some, cond_false]
      rw [List.eq_nil_of_length_eq_zero (by omega : A1.length = 0), nil_mrg]
      rfl
  rw [hleft]
  simp only [Option.bind_some]
  have lM : (mrg pk A1 B1).length = A1.length + B1.length := len_mrg pk _ A1 B1 (Nat.le_refl _)
  have fin : P ++ (mrg pk A1 B1 ++ (mrg pk A2 B2 ++ S)) = P ++ (mrg pk A B ++ S) := by rw [hmm]; simp
  by_cases h3 : mid < mid + (P.length + A.length) - r
  · by_cases h4 : mid + (P.length + A.length) - r < P.length + A.length + B.length
    · have := hf (P ++ mrg pk A1 B1) A2 B2 S (by intro h; rw [h] at nA2; simp at nA2; omega) (by intro h; rw [h] at nB2; simp at nB2; omega) (by omega) (by simp [lM]; omega) pA2 pB2 sA'.2 sB'.2
      have q1 : (P ++ mrg pk A1 B1).length = mid := by rw [List.length_append, lM]; omega
      rw [q1, show mid + A2.length = mid + (P.length + A.length) - r by omega, show mid + (P.length + A.length) - r + B2.length = P.length + A.length + B.length by omega, show (P ++ mrg pk A1 B1) ++ (A2 ++ (B2 ++ S)) = P ++ (mrg pk A1 B1 ++ (A2 ++ (B2 ++ S))) by simp] at this
      rw [decide_eq_true (by omega), cond_true]
      simp only [Option.bind_some]
      rw [decide_eq_true (by omega), cond_true, this, ← fin]
      simp
    · rw [decide_eq_true (by omega), cond_true]
      simp only [Option.bind_some]
      rw [decide_eq_false (by omega), cond_false, ← fin, List.eq_nil_of_length_eq_zero (by omega : B2.length = 0), mrg_nil]
      rfl
  · rw [decide_eq_false (by omega), cond_false]
    simp only [Option.bind_some, cond_false]
    rw [← fin, List.eq_nil_of_length_eq_zero (by omega : A2.length = 0), nil_mrg]
    rfl
theorem sym_ok : SMok slices_symMergeCmpFunc_api_Route 96 := by
  have h0 := r0_ok
  have h1 := smBody_ok h0
  rw [← r1_eq] at h1
  have h2 := smBody_ok h1
  rw [← r2_eq] at h2
  have h3 := smBody_ok h2
  rw [← r3_eq] at h3
  have h4 := smBody_ok h3
  rw [← r4_eq] at h4
  have h5 := smBody_ok h4
  rw [← rt_eq] at h5
  exact h5
theorem PrAll.isort {l : List TRoute} (h : PrAll l) : PrAll (isort pk l) := fun x hx => h x ((mem_isort pk).1 hx)
/-- the whole -/
theorem stable_eq (l : List TRoute) (hne : l ≠ []) (hl : l.length ≤ 40) (hp : PrAll l) : slices_stableCmpFunc_api_Route l (l.length : Int) = some (isort pk l) := by
  have hpos : 0 < l.length := List.length_pos_iff.2 hne
  unfold slices_stableCmpFunc_api_Route
  rw [show l.isEmpty = false by simpa using hne, cond_false]
  have hnil : PrAll ([] : List TRoute) := fun x hx => by cases hx
  have stop1 : ∀ (a b : Nat) (L : List TRoute), l.length < b → slices_stableCmpFunc_api_Route_l1 (l.length : Int) ((a : Int), (b : Int), L) = some (.out ((a : Int), L)) := fun a b L h => by
    unfold slices_stableCmpFunc_api_Route_l1
    dsimp only
    rw [decide_eq_false (by omega), cond_false]
  by_cases h20 : l.length < 20
  · rw [show iter (slices_stableCmpFunc_api_Route_l1 (l.length : Int)) (0, 20, l) = some ((0 : Int), l) from iter_out (stop1 0 20 l h20)]
    simp only [Option.bind_some]
    have := insertion_eq (P := []) (D := l) (S := []) (by simp; omega) hp hnil (by simpa using hne)
    simp only [List.length_nil, Nat.zero_add, List.nil_append, List.append_nil] at this
    rw [show slices_insertionSortCmpFunc_api_Route l 0 (l.length : Int) = some (isort pk l) from this]
    simp only [Option.bind_some]
    have e : iter (slices_stableCmpFunc_api_Route_l2 (l.length : Int)) (20, isort pk l) = some (isort pk l) := by
      refine iter_out ?_
      unfold slices_stableCmpFunc_api_Route_l2
      dsimp only
      rw [decide_eq_false (by omega), cond_false]
    rw [e]
    rfl
  · -- the first block
    obtain ⟨D, E, rfl, hD⟩ : ∃ D E, l = D ++ E ∧ D.length = 20 := ⟨l.take 20, l.drop 20, (List.take_append_drop _ _).symm, by simp; omega⟩
    simp only [List.length_append] at hl hpos h20 stop1 ⊢
    have pD : PrAll D := fun x hx => hp x (by simp [hx])
    have pE : PrAll E := fun x hx => hp x (by simp [hx])
    have i1 := insertion_eq (P := []) (D := D) (S := E) (by simp; omega) pD hnil (by simpa using hne)
    simp only [List.length_nil, Nat.zero_add, List.nil_append, hD] at i1
    have c1 : slices_stableCmpFunc_api_Route_l1 ((D.length + E.length : Nat) : Int) (0, 20, D ++ E) = some (.cont (20, 40, isort pk D ++ E)) := by
      unfold slices_stableCmpFunc_api_Route_l1
      dsimp only
      rw [decide_eq_true (by omega), cond_true]
      rw [show slices_insertionSortCmpFunc_api_Route (D ++ E) 0 20 = some (isort pk D ++ E) from i1]
      rfl
    have lD : (isort pk D).length = 20 := by rw [len_isort, hD]
    -- the second one, whole or not
    have i2 := insertion_eq (P := isort pk D) (D := E) (S := []) (by omega) pE pD.isort (by intro h; have := congrArg List.length h; rw [List.length_append, lD] at this; simp at this)
    simp only [List.append_nil, lD] at i2
    have e1 : ∃ a : Int, ∃ L, iter (slices_stableCmpFunc_api_Route_l1 ((D.length + E.length : Nat) : Int)) (0, 20, D ++ E) = some (a, L) ∧ slices_insertionSortCmpFunc_api_Route L a ((D.length + E.length : Nat) : Int) = some (isort pk D ++ isort pk E) := by
      by_cases h40 : E.length < 20
      · refine ⟨20, isort pk D ++ E, (iter_cont c1).trans (iter_out (stop1 20 40 _ (by omega))), ?_⟩
        rw [hD]; exact i2
      · have hE : E.length = 20 := by omega
        have c2 : slices_stableCmpFunc_api_Route_l1 ((D.length + E.length : Nat) : Int) (20, 40, isort pk D ++ E) = some (.cont (40, 60, isort pk D ++ isort pk E)) := by
          unfold slices_stableCmpFunc_api_Route_l1
          dsimp only
          rw [decide_eq_true (by omega), cond_true]
          rw [hE] at i2
          rw [show slices_insertionSortCmpFunc_api_Route (isort pk D ++ E) 20 40 = some (isort pk D ++ isort pk E) from i2]
          rfl
        refine ⟨40, isort pk D ++ isort pk E, ((iter_cont c1).trans (iter_cont c2)).trans (iter_out (stop1 40 60 _ (by omega))), ?_⟩
        have i3 := insertion_eq (P := isort pk D ++ isort pk E) (D := []) (S := []) (by simp [lD, len_isort]; omega) hnil (fun x hx => by
          rcases List.mem_append.1 hx with h | h
          · exact pD.isort x h
          · exact pE.isort x h) (by intro h; have := congrArg List.length h; rw [List.length_append, List.length_append, lD] at this; simp at this)
        have e4 : (isort pk D ++ isort pk E).length = 40 := by simp [lD, len_isort, hE]
        rw [e4] at i3
        rw [hD, hE]
        have : (isort pk D ++ isort pk E) ++ (([] : List TRoute) ++ []) = isort pk D ++ isort pk E := by simp
        rw [this, show isort pk ([] : List TRoute) ++ [] = [] from rfl, List.append_nil] at i3
        exact i3
    obtain ⟨a, L, e2, e3⟩ := e1
    rw [e2]
    simp only [Option.bind_some]
    rw [e3]
    simp only [Option.bind_some]
    rw [isort_append]
    by_cases hE0 : E.length = 0
    · obtain rfl := List.eq_nil_of_length_eq_zero hE0
      have e : iter (slices_stableCmpFunc_api_Route_l2 ((D.length + ([] : List TRoute).length : Nat) : Int)) (20, isort pk D ++ isort pk []) = some (isort pk D ++ isort pk []) := by
        refine iter_out ?_
        unfold slices_stableCmpFunc_api_Route_l2
        dsimp only
        rw [decide_eq_false (by simp; omega), cond_false]
      rw [e, show isort pk ([] : List TRoute) = [] from rfl, mrg_nil]
      simp
    · have sm := sym_ok [] (isort pk D) (isort pk E) [] (by intro h; rw [h] at lD; cases lD) (by intro h; have := congrArg List.length h; rw [len_isort] at this; simp at this; exact hE0 (by simp [this])) (by rw [lD, len_isort]; omega) (by rw [lD, len_isort]; simp; omega) pD.isort pE.isort (isort_sorted pk D) (isort_sorted pk E)
      simp only [List.length_nil, Nat.zero_add, List.nil_append, List.append_nil, lD, len_isort] at sm
      have last : ∀ M : List TRoute, slices_stableCmpFunc_api_Route_l2 ((D.length + E.length : Nat) : Int) (40, M) = some (.out M) := fun M => by
        unfold slices_stableCmpFunc_api_Route_l2
        dsimp only
        rw [decide_eq_false (by omega), cond_false]
      have stop3 : ∀ (a b : Nat) (M N : List TRoute), D.length + E.length < b → slices_stableCmpFunc_api_Route_l3 ((D.length + E.length : Nat) : Int) (20, N) ((a : Int), (b : Int), M) = some (.out ((a : Int), M)) := fun a b M N h => by
        unfold slices_stableCmpFunc_api_Route_l3
        dsimp only
        rw [decide_eq_false (by omega), cond_false]
      have go : slices_stableCmpFunc_api_Route_l2 ((D.length + E.length : Nat) : Int) (20, isort pk D ++ isort pk E) = some (.cont (40, mrg pk (isort pk D) (isort pk E))) := by
        unfold slices_stableCmpFunc_api_Route_l2
        dsimp only
        rw [decide_eq_true (by omega), cond_true]
        have w1 : w64 (2 * 20) = 40 := by decide
        have w2 : w64 (20 * 2) = 40 := by decide
        rw [w1, w2]
        by_cases h40 : E.length < 20
        · rw [show iter (slices_stableCmpFunc_api_Route_l3 ((D.length + E.length : Nat) : Int) (20, isort pk D ++ isort pk E)) (0, 40, isort pk D ++ isort pk E) = some ((0 : Int), isort pk D ++ isort pk E) from iter_out (stop3 0 40 _ _ (by omega))]
          simp only [Option.bind_some]
          rw [show w64 (0 + 20) = 20 by decide, decide_eq_true (by omega), cond_true, hD]
          rw [show slices_symMergeCmpFunc_api_Route (isort pk D ++ isort pk E) 0 20 ((20 + E.length : Nat) : Int) = some (mrg pk (isort pk D) (isort pk E)) from sm]
          rfl
        · have hE : E.length = 20 := by omega
          rw [hE] at sm
          have c3 : slices_stableCmpFunc_api_Route_l3 ((D.length + E.length : Nat) : Int) (20, isort pk D ++ isort pk E) (0, 40, isort pk D ++ isort pk E) = some (.cont (40, 80, mrg pk (isort pk D) (isort pk E))) := by
            unfold slices_stableCmpFunc_api_Route_l3
            dsimp only
            rw [decide_eq_true (by omega), cond_true, show w64 (0 + 20) = 20 by decide]
            rw [show slices_symMergeCmpFunc_api_Route (isort pk D ++ isort pk E) 0 20 40 = some (mrg pk (isort pk D) (isort pk E)) from sm]
            rfl
          rw [(iter_cont c3).trans (iter_out (stop3 40 80 _ _ (by omega)))]
          simp only [Option.bind_some]
          rw [show w64 (((40 : Nat) : Int) + 20) = 60 by decide, decide_eq_false (by omega), cond_false]
          rfl
      rw [(iter_cont go).trans (iter_out (last _))]
      rfl
end Go.Proofs.Ytpclhpncmlbccaa

/- Domains and addresses: the plain functions, and what the typed functions compute. -/
namespace Go.Proofs.Ytpclhpncmlbccaa
open Go.RowKit
set_option linter.unusedVariables false
set_option maxHeartbeats 1000000

def smallC (c : UInt8) : Bool := (decide (97 ≤ c) && decide (c ≤ 122)) || (decide (48 ≤ c) && decide (c ≤ 57)) || c == 45 || c == 46
/-- no dot at the front or behind a dot (p: there is one, or the front), none at the end -/
def dotsOk : Bool → Str → Bool
  | p, [] => !p
  | p, c :: r => if c = 46 then !p && dotsOk true r else dotsOk false r
def domP (s : Str) : Bool := decide (s.length ≤ 60) && s.all smallC && dotsOk true s
theorem u8_le1 (k : Nat) (c : UInt8) (hk : OfNat.ofNat k < 256) : decide ((no_index (OfNat.ofNat k : Int)) ≤ (c.toNat : Int)) = decide ((OfNat.ofNat k : UInt8) ≤ c) := by
  have e : (OfNat.ofNat k : Int) = ((OfNat.ofNat k : Nat) : Int) := rfl
  have h2 : (OfNat.ofNat k : UInt8).toNat = (OfNat.ofNat k : Nat) := by
    show (UInt8.ofNat k).toNat = k
    rw [UInt8.toNat_ofNat']; exact Nat.mod_eq_of_lt hk
  rw [Bool.eq_iff_iff, decide_eq_true_eq, decide_eq_true_eq, UInt8.le_iff_toNat_le, h2, e]; omega
theorem u8_le2 (k : Nat) (c : UInt8) (hk : OfNat.ofNat k < 256) : decide ((c.toNat : Int) ≤ (no_index (OfNat.ofNat k : Int))) = decide (c ≤ (OfNat.ofNat k : UInt8)) := by
  have e : (OfNat.ofNat k : Int) = ((OfNat.ofNat k : Nat) : Int) := rfl
  have h2 : (OfNat.ofNat k : UInt8).toNat = (OfNat.ofNat k : Nat) := by
    show (UInt8.ofNat k).toNat = k
    rw [UInt8.toNat_ofNat']; exact Nat.mod_eq_of_lt hk
  rw [Bool.eq_iff_iff, decide_eq_true_eq, decide_eq_true_eq, UInt8.le_iff_toNat_le, h2, e]; omega

/-! ### the reference's domains -/
/-! ### the reference's addresses -/
/-! ### the program's domains and addresses -/
theorem dots_contains (s : Str) : ∀ p, dotsOk p s = (!(p && (s.isEmpty || s.head? == some 46)) && !(s.getLast? == some 46) && !Lib.contains s [46, 46]) := by
  induction s with
  | nil => intro p; cases p <;> simp [dotsOk, Lib.contains, Lib.index]
  | cons c r ih =>
    intro p
    have hcont : Lib.contains (c :: r) [46, 46] = ((c == 46 && r.head? == some 46) || Lib.contains r [46, 46]) := by
      unfold Lib.contains
      rw [Lib.index]
      have hpre : ([46, 46] : List UInt8).isPrefixOf (c :: r) = (c == 46 && r.head? == some 46) := by
        cases r with
        | nil => simp [List.isPrefixOf]
        | cons d r => simp only [List.isPrefixOf, List.head?_cons, Bool.and_true]; rw [Bool.eq_iff_iff]; simp; constructor <;> rintro ⟨rfl, rfl⟩ <;> exact ⟨rfl, rfl⟩
      rw [hpre]
      have hg := Lib.index_ge r [46, 46]
      cases c == 46 && r.head? == some 46 with
      | true => simp
      | false =>
        simp only [Bool.false_eq_true, if_false, Bool.false_or]
        by_cases h : Lib.index r [46, 46] = -1
        · simp [h]
        · have : (Lib.index r [46, 46] == -1) = false := by simpa using h
          rw [this]
          simp only [Bool.false_eq_true, if_false]
          rw [Bool.eq_iff_iff]; simp; omega
    rw [hcont, dotsOk]
    have hlast : (c :: r).getLast? = if r.isEmpty then some c else r.getLast? := by cases r <;> simp
    rw [hlast]
    by_cases hc : c = 46
    · subst hc
      rw [if_pos rfl, ih true]
      cases r with
      | nil => simp
      | cons d r => cases p <;> cases hd : (d == 46) <;> simp_all [Bool.and_comm, Bool.and_assoc, Bool.and_left_comm]
    · have h1 : (c == 46) = false := by simpa using hc
      have h2 : (some c == some (46 : UInt8)) = false := by simpa using hc
      rw [if_neg hc, ih false]
      cases r with
      | nil => simp [h1, h2, Lib.contains, Lib.index, hc]
      | cons d r => simp [h1, h2, hc]
theorem strings_HasPrefix_eq (s t : Str) : strings_HasPrefix s t = some (t.isPrefixOf s) := by
  unfold strings_HasPrefix internal_stringslite_HasPrefix
  by_cases h : t.length ≤ s.length
  · have : decide ((t.length : Int) ≤ (s.length : Int)) = true := by simp; omega
    rw [this, cut_0n h]
    simp only [cond_true, Option.bind_some, Option.some.injEq]
    rw [Bool.eq_iff_iff, beq_iff_eq, List.isPrefixOf_iff_prefix, List.prefix_iff_eq_take]
    constructor <;> exact fun h => h.symm
  · have : decide ((t.length : Int) ≤ (s.length : Int)) = false := by simp; omega
    rw [this]
    simp only [cond_false, Option.bind_some, Option.some.injEq]
    symm
    rw [Bool.eq_false_iff]
    intro hp
    exact h (List.isPrefixOf_iff_prefix.1 hp).length_le
theorem strings_HasSuffix_eq (s t : Str) (hs : s.length ≤ 9223372036854775806) : strings_HasSuffix s t = some (t.isSuffixOf s) := by
  unfold strings_HasSuffix internal_stringslite_HasSuffix
  by_cases h : t.length ≤ s.length
  · have : decide ((t.length : Int) ≤ (s.length : Int)) = true := by simp; omega
    rw [this, w64_ns _ _ h (by omega), cut_nl (by omega)]
    simp only [cond_true, Option.bind_some, Option.some.injEq]
    rw [Bool.eq_iff_iff, beq_iff_eq, List.isSuffixOf_iff_suffix, List.suffix_iff_eq_drop]
    constructor <;> exact fun h => h.symm
  · have : decide ((t.length : Int) ≤ (s.length : Int)) = false := by simp; omega
    rw [this]
    simp only [cond_false, Option.bind_some, Option.some.injEq]
    symm
    rw [Bool.eq_false_iff]
    intro hp
    exact h (List.isSuffixOf_iff_suffix.1 hp).length_le
theorem dom_char (c : UInt8) : ((bif decide ((97 : UInt8) ≤ c) then (bif decide (c ≤ 122) then some true else (bif decide ((48 : UInt8) ≤ c) then (bif decide (c ≤ 57) then some true else (bif (c == 45) then some true else some (c == 46))) else (bif (c == 45) then some true else some (c == 46)))) else (bif decide ((48 : UInt8) ≤ c) then (bif decide (c ≤ 57) then some true else (bif (c == 45) then some true else some (c == 46))) else (bif (c == 45) then some true else some (c == 46)))) : Option Bool) = some (smallC c) := by
  unfold smallC
  cases decide ((97 : UInt8) ≤ c) <;> cases decide (c ≤ 122) <;> cases decide ((48 : UInt8) ≤ c) <;> cases decide (c ≤ 57) <;> cases (c == 45) <;> rfl
theorem envelope_Domain_eq (s : Str) (hs : s.length < 4294967281) : envelope_Domain s = some (domP s) := by
  have hloop : iter (envelope_Domain_l1 s) 0 = some ((firstI (fun _ c => if !smallC c then some () else none) 0 s).elim (.inl ()) .inr) := by
    refine iter_first s _ (Sum.inl ()) Sum.inr ?_ ?_
    · unfold envelope_Domain_l1; rw [dec_len]; rfl
    · intro i c hc
      have hi := lt_get hc
      unfold envelope_Domain_l1
      rw [dec_lt hc, idx_get hc]
      simp only [cond_true, Option.bind_some, u8_eq c 45 (by decide), u8_eq c 46 (by decide), u8_le1 97 c (by decide), u8_le2 122 c (by decide), u8_le1 48 c (by decide), u8_le2 57 c (by decide), dom_char]
      rw [show ((i : Int) + 1) = ((i + 1 : Nat) : Int) by omega, w64_n _ (by omega)]
      cases smallC c <;> rfl
  unfold envelope_Domain domP
  rw [hloop, firstI_any, dots_contains]
  by_cases hn : s = []
  · subst hn; simp
  · have h1 : (s != ([] : Str)) = true := by simpa using hn
    rw [h1]
    simp only [cond_true]
    by_cases hl : s.length ≤ 60
    · have h2 : decide ((s.length : Int) ≤ 60) = true := by simp; omega
      rw [h2]
      have hall : s.any (fun c => !smallC c) = !(s.all smallC) := by simp [List.not_all_eq_any_not]
      rw [hall]
      cases hg : s.all smallC with
      | false => simp [hl]
      | true =>
        simp only [Bool.not_true, Bool.false_eq_true, if_false, Option.elim, Option.bind_some, cond_true, strings_HasPrefix_eq, strings_HasSuffix_eq s [46] (by omega), strings_Contains, if_pos hs]
        have hp : ([46] : Str).isPrefixOf s = (s.head? == some 46) := by
          cases s with
          | nil => rfl
          | cons d r => simp only [List.isPrefixOf, List.head?_cons, Bool.and_true]; rw [Bool.eq_iff_iff]; simp; exact ⟨fun h => h.symm, fun h => h.symm⟩
        have hsf : ([46] : Str).isSuffixOf s = (s.getLast? == some 46) := by
          rw [Bool.eq_iff_iff, List.isSuffixOf_iff_suffix, beq_iff_eq]
          constructor
          · rintro ⟨t, rfl⟩; simp
          · intro h
            obtain ⟨ys, rfl⟩ := List.getLast?_eq_some_iff.1 h
            exact ⟨ys, rfl⟩
        have he : s.isEmpty = false := by simpa using hn
        rw [hp, hsf, he]
        cases s.head? == some 46 <;> cases s.getLast? == some 46 <;> cases Lib.contains s [46, 46] <;> simp [hl]
    · have h2 : decide ((s.length : Int) ≤ 60) = false := by simp; omega
      rw [h2]; simp [hl]
/-! ### small things -/
theorem R_Has_eq (l : List Str) (s : Str) (hl : l.length ≤ 9223372036854775806) : R_Has l s = some (l.contains s) := by
  unfold R_Has
  rw [iter_first l (fun _ x => if x == s then some true else none) (.inl ()) .inr, firstI_any]
  · simp only [Option.bind_some]
    have : l.any (fun x => x == s) = l.contains s := by
      rw [Bool.eq_iff_iff]; simp
    rw [this]
    cases l.contains s <;> rfl
  · unfold R_Has_l1; rw [dec_len]; rfl
  · intro i x hx
    have hi := lt_get hx
    unfold R_Has_l1
    rw [dec_lt hx, idx_get hx]
    simp only [cond_true, Option.bind_some]
    rw [show ((i : Int) + 1) = ((i + 1 : Nat) : Int) by omega, w64_n _ (by omega)]
    cases x == s <;> rfl
theorem R_Strings_eq (a b : List Str) (ha : a.length ≤ 9223372036854775806) : R_Strings a b = some (a == b) := by
  unfold R_Strings
  by_cases hlen : a.length = b.length
  · have h1 : ((a.length : Int) != (b.length : Int)) = false := by rw [hlen]; simp
    rw [h1]
    simp only [cond_false]
    rw [iter_first a (fun i x => if b[i]? != some x then some false else none) (.inl ()) .inr]
    · simp only [Option.bind_some]
      cases hf : firstI (fun i x => if b[i]? != some x then some false else none) 0 a with
      | none =>
        rw [firstI_none] at hf
        have : a = b := by
          apply List.ext_getElem?
          intro i
          by_cases hi : i < a.length
          · have := hf i a[i] (List.getElem?_eq_getElem hi)
            rw [Nat.zero_add] at this
            rw [List.getElem?_eq_getElem hi]
            simp at this; exact this.symm
          · rw [List.getElem?_eq_none (by omega), List.getElem?_eq_none (by omega)]
        subst this; simp
      | some r =>
        obtain ⟨i, x, hx, hq⟩ := firstI_some hf
        rw [Nat.zero_add] at hq
        split at hq
        · cases hq
          rename_i hne
          have : (a == b) = false := by
            rw [beq_eq_false_iff_ne]
            rintro rfl
            rw [hx] at hne; simp at hne
          rw [this]; rfl
        · cases hq
    · unfold R_Strings_l1; rw [dec_len]; rfl
    · intro i x hx
      have hi := lt_get hx
      unfold R_Strings_l1
      have hib : i < b.length := by omega
      rw [dec_lt hx, idx_get hx, idx_lt hib, List.getElem?_eq_getElem hib]
      simp only [cond_true, Option.bind_some]
      rw [show ((i : Int) + 1) = ((i + 1 : Nat) : Int) by omega, w64_n _ (by omega)]
      by_cases hxb : x = b[i]
      · subst hxb; simp
      · have e1 : (x != b[i]) = true := by simpa using hxb
        have e2 : (some b[i] != some x) = true := by simp; exact fun h => hxb h.symm
        rw [e1, e2]; rfl
  · have h1 : ((a.length : Int) != (b.length : Int)) = true := by simp; omega
    rw [h1]
    simp only [cond_true]
    have : (a == b) = false := by rw [beq_eq_false_iff_ne]; rintro rfl; exact hlen rfl
    rw [this]
end Go.Proofs.Ytpclhpncmlbccaa

/- Small laws on faults and first hits. -/
namespace Go.Proofs.Ytpclhpncmlbccaa
open Go.RowKit
set_option linter.unusedVariables false
theorem R_At_eq (a b : Int) : R_At a b = some ⟨a, b⟩ := rfl
theorem basic_Fault_eq (a b : Int) : basic_Fault a b = some ⟨a, b⟩ := rfl
theorem basic_None_eq : basic_None = some ⟨0, 0⟩ := rfl
theorem basic_Failed_eq (f : TFault) : basic_Failed f = some (f.Code != 0) := rfl
end Go.Proofs.Ytpclhpncmlbccaa

/- Envelopes: the plain functions, and what the typed functions compute. -/
namespace Go.Proofs.Ytpclhpncmlbccaa
open Go.RowKit
set_option linter.unusedVariables false
set_option maxHeartbeats 1000000

/-! ### recipients, envelopes -/
end Go.Proofs.Ytpclhpncmlbccaa

/- Envelopes by domains: the plain functions, and what the typed functions compute. -/
namespace Go.Proofs.Ytpclhpncmlbccaa
open Go.RowKit
set_option linter.unusedVariables false
set_option maxHeartbeats 1000000

instance : DecidableEq TRecipient := fun a b => decidable_of_iff (a.Address = b.Address ∧ a.Notify = b.Notify) (by cases a; cases b; simp)
instance : DecidableEq TFault := fun a b => decidable_of_iff (a.Code = b.Code ∧ a.Index = b.Index) (by cases a; cases b; simp)
instance : DecidableEq TEnvelope := fun a b => decidable_of_iff (a.From = b.From ∧ a.To = b.To ∧ a.Id = b.Id) (by cases a; cases b; simp)
theorem slices_Contains_eq (l : List Str) (s : Str) (hl : l.length ≤ 1048576) : slices_Contains_string_string l s = some (l.contains s) := by
  unfold slices_Contains_string_string slices_Index_string_string
  rw [iter_first l (fun i x => if x == s then some ((i : Nat) : Int) else none) (.inl ()) .inr]
  · simp only [Option.bind_some, elim_idx, first_idx (fun x => x == s) l 0]
    congr 1
    rw [Bool.eq_iff_iff]; simp
  · unfold slices_Index_string_string_l1; rw [dec_len]; rfl
  · intro i x hx
    have hi := lt_get hx
    unfold slices_Index_string_string_l1
    rw [dec_lt hx, idx_get hx]
    have e : (s == x) = (x == s) := by rw [Bool.eq_iff_iff]; simp; exact ⟨fun h => h.symm, fun h => h.symm⟩
    simp only [cond_true, Option.bind_some, sc i (by omega), e]
    cases x == s <;> rfl
end Go.Proofs.Ytpclhpncmlbccaa

/- Small facts that all my walks use: endings, blocks, rows, frames. No program is named. -/
import Derived.WalkKit
import Derived.WalkSpells
import Derived.WalkLawsBesides
import Derived.Deep.QuietTactic
import Derived.BigQuiet
import Derived.Lib.Hide
import Derived.Handy
import Derived.Deep.RegionHeld3
namespace Go.Proofs.Ytlpmbmilnoncdaa
open Go.RowKit

theorem ret_bool {a b : Bool} (h : a = b) : Ending.returned (.bool a) = .returned (.bool b) := by rw [h]
theorem ret_int {k : IntKind} {a b : Int} (h : a = b) : Ending.returned (.int k a) = .returned (.int k b) := by rw [h]

theorem take_all {α : Type} (p : α → Bool) (l : List α) (k : Nat) (h : k < l.length) : (l.take (k + 1)).all p = ((l.take k).all p && p l[k]) := by
  rw [List.take_succ_eq_append_getElem h, List.all_append]; simp
theorem all_false {α : Type} (p : α → Bool) (l : List α) (k : Nat) (h : k < l.length) (hp : p l[k] = false) : l.all p = false := by
  rw [List.all_eq_false]; exact ⟨l[k], List.getElem_mem h, by simp [hp]⟩

theorem bcell {W w1 : World} (hb : Below W.heap.size W w1) : (∀ b o, b < W.heap.size → w1.cell? ⟨b, o, none⟩ = W.cell? ⟨b, o, none⟩) ∧ (∀ b o, b < W.heap.size → w1.frozen? ⟨b, o, none⟩ = W.frozen? ⟨b, o, none⟩) :=
  ⟨fun b o h => hb.cell (p := ⟨b, o, none⟩) h, fun b o h => hb.frozen (p := ⟨b, o, none⟩) h⟩


/-- block b is just these cells, none frozen -/
def Blk (w : World) (b : Nat) (t : TypeId) (cs : Array Value) : Prop := w.heap[b]? = some (.cells cs t (0, 0))
theorem Blk.lt {w : World} {b : Nat} {t : TypeId} {cs : Array Value} (h : Blk w b t cs) : b < w.heap.size := by
  rcases Nat.lt_or_ge b w.heap.size with hlt | hge
  · exact hlt
  · unfold Blk at h; rw [Array.getElem?_eq_none hge] at h; cases h
theorem Blk.two {w : World} {b : Nat} {t : TypeId} {x y : Value} (h : Blk w b t #[x, y]) :
    w.cell? ⟨b, 0, none⟩ = some x ∧ w.cell? ⟨b, 1, none⟩ = some y ∧ w.frozen? ⟨b, 0, none⟩ = false ∧ w.frozen? ⟨b, 1, none⟩ = false ∧ b < w.heap.size := by
  refine ⟨?_, ?_, ?_, ?_, h.lt⟩ <;> unfold Blk at h <;> simp [World.cell?, World.frozen?, h]
theorem Blk.new (w : World) (t : TypeId) (cs : Array Value) : Blk (w.alloc (.cells cs t)) w.heap.size t cs := heap_alloc_new w _
theorem Blk.alloc {w : World} {b : Nat} {t : TypeId} {cs : Array Value} (h : Blk w b t cs) (o : Obj) : Blk (w.alloc o) b t cs := (Below.heap_alloc w o b h.lt).trans h
theorem Blk.below {w w' : World} {b : Nat} {t : TypeId} {cs : Array Value} {B : Nat} (h : Blk w b t cs) (hb : Below B w w') (hg : b < B) : Blk w' b t cs := (hb.block b hg).trans h

theorem val_int {k : IntKind} {a b : Int} (h : a = b) : Value.int k a = .int k b := by rw [h]
theorem tup3 {k : IntKind} {a b : Int} {x y : Value} (h : a = b) : Ending.returned (.tuple #[.int k a, x, y]) = .returned (.tuple #[.int k b, x, y]) := by rw [h]
section
variable {w1 w2 : World} {b t : Nat} {cs : Array Value} {o : Obj}
theorem Blk.step_new (hb : Below (w1.alloc (.cells cs t)).heap.size (w1.alloc (.cells cs t)) w2) : Blk w2 w1.heap.size t cs :=
  (Blk.new w1 t cs).below hb (by simp)
theorem Blk.step_old (h : Blk w1 b t cs) (hb : Below (w1.alloc o).heap.size (w1.alloc o) w2) : Blk w2 b t cs :=
  (h.alloc o).below hb (by have := h.lt; simp; omega)
end
theorem below_step {w w1 w2 : World} {o : Obj} (h : Below w.heap.size w w1) (hb : Below (w1.alloc o).heap.size (w1.alloc o) w2) : Below w.heap.size w w2 :=
  (h.alloc h.size o).trans (hb.mono (by have := h.size; simp; omega))
theorem below_trans {w w1 w2 : World} (h : Below w.heap.size w w1) (hb : Below w1.heap.size w1 w2) : Below w.heap.size w w2 :=
  h.trans (hb.mono h.size)

theorem keep2 {W w5 w6 : World} {b : Nat} {x y : Value} (h : w5.cell? ⟨b, 0, none⟩ = some x ∧ w5.cell? ⟨b, 1, none⟩ = some y ∧ Below W.heap.size W w5) (hb : b < W.heap.size) (k : Below w5.heap.size w5 w6) :
    w6.cell? ⟨b, 0, none⟩ = some x ∧ w6.cell? ⟨b, 1, none⟩ = some y ∧ Below W.heap.size W w6 := by
  have hs := h.2.2.size
  exact ⟨(k.cell (p := ⟨b, 0, none⟩) (Nat.lt_of_lt_of_le hb hs)).trans h.1, (k.cell (p := ⟨b, 1, none⟩) (Nat.lt_of_lt_of_le hb hs)).trans h.2.1, below_trans h.2.2 k⟩

/-- a slice of cells, one a value: it holds these values -/
def Row (w : World) (a : Option Addr) (len : Nat) (vs : List Value) : Prop :=
  vs.length = len ∧ (len = 0 ∨ ∃ b off, a = some ⟨b, off, none⟩ ∧ ∀ i v, vs[i]? = some v → w.cell? ⟨b, off + i, none⟩ = some v)


end Go.Proofs.Ytlpmbmilnoncdaa

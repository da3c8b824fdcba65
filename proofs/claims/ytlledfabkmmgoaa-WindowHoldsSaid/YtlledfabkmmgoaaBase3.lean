/- More words for memory: a cell that is known stays known. -/
import Derived.Test.YtlledfabkmmgoaaBase2
namespace Go.Proofs.Ytlledfabkmmgoaa
open Go.RowKit

section
variable {w w' W w1 : World} {p q : Addr} {v u : Value}
theorem cellDrew (h : w.cell? p = some v) : w.drew.cell? p = some v := h
theorem cellAlloc (h : w.cell? p = some v) (o : Obj) : (w.alloc o).cell? p = some v := (World.cell?_alloc_lt w o p (World.block_lt_of_cell? w p h)).trans h
theorem cellFar (h : w.cell? p = some v) (hne : p.block ≠ q.block) : (w.setCell q u).cell? p = some v := by
  rw [World.cell?_setCell_other w q p u (fun e => hne (by rw [e]))]; exact h
theorem Below.next (h : Below w.heap.size w W) (hb : Below W.heap.size W w1) : Below w.heap.size w w1 := h.trans (hb.mono h.size)
end
end Go.Proofs.Ytlledfabkmmgoaa

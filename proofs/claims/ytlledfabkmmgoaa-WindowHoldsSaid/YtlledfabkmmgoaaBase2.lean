/- More words for memory. -/
import Derived.Test.YtlledfabkmmgoaaBase
namespace Go.Proofs.Ytlledfabkmmgoaa
open Go.RowKit

theorem bcellK {B : Nat} {W w1 : World} (hb : Below B W w1) {N : Nat} (h : N ≤ B) : (∀ b o, b < N → w1.cell? ⟨b, o, none⟩ = W.cell? ⟨b, o, none⟩) ∧ (∀ b o, b < N → w1.frozen? ⟨b, o, none⟩ = W.frozen? ⟨b, o, none⟩) :=
  ⟨fun b o hlt => hb.cell (p := ⟨b, o, none⟩) (Nat.lt_of_lt_of_le hlt h), fun b o hlt => hb.frozen (p := ⟨b, o, none⟩) (Nat.lt_of_lt_of_le hlt h)⟩

theorem keepCell {W w1 : World} (hb : Below W.heap.size W w1) {p : Addr} {v : Value} (h : W.cell? p = some v) : w1.cell? p = some v :=
  (hb.cell (World.block_lt_of_cell? W p h)).trans h

end Go.Proofs.Ytlledfabkmmgoaa

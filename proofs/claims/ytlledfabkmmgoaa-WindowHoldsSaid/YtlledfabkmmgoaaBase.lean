/- Words for memory that all walks of this seat use. -/
import Derived.WalkKit
import Derived.WalkSpells
import Derived.Carry
import Derived.Lib.Hide
namespace Go.Proofs.Ytlledfabkmmgoaa
open Go.RowKit

/-- The call returns v; what was there reads as it did. -/
def Rets (v : Value) (w : World) (e : Ending) (w' : World) : Prop := e = .returned v ∧ Below w.heap.size w w'

theorem bcell {W w1 : World} (hb : Below W.heap.size W w1) : (∀ b o, b < W.heap.size → w1.cell? ⟨b, o, none⟩ = W.cell? ⟨b, o, none⟩) ∧ (∀ b o, b < W.heap.size → w1.frozen? ⟨b, o, none⟩ = W.frozen? ⟨b, o, none⟩) :=
  ⟨fun b o h => hb.cell (p := ⟨b, o, none⟩) h, fun b o h => hb.frozen (p := ⟨b, o, none⟩) h⟩

theorem rets_bool {a b : Bool} {w w' : World} (h : a = b) (hb : Below w.heap.size w w') : Rets (.bool b) w (.returned (.bool a)) w' := ⟨by rw [h], hb⟩
theorem rets_int {k : IntKind} {a b : Int} {w w' : World} (h : a = b) (hb : Below w.heap.size w w') : Rets (.int k b) w (.returned (.int k a)) w' := ⟨by rw [h], hb⟩
theorem rets_int2 {k k' : IntKind} {a b a' b' : Int} {w w' : World} (h : a = b) (h' : a' = b') (hb : Below w.heap.size w w') :
    Rets (.tuple #[.int k b, .int k' b']) w (.returned (.tuple #[.int k a, .int k' a'])) w' := ⟨by rw [h, h'], hb⟩
theorem rets_val {v : Value} {w w' : World} (hb : Below w.heap.size w w') : Rets v w (.returned v) w' := ⟨rfl, hb⟩

/-- Block g holds just these cells, none of them frozen. -/
def Box (w : World) (g : Nat) (t : TypeId) (cs : Array Value) : Prop := w.heap[g]? = some (.cells cs t (0, 0))
section
variable {w w' : World} {g : Nat} {t : TypeId} {cs : Array Value}
theorem Box.lt (h : Box w g t cs) : g < w.heap.size := by
  rcases Nat.lt_or_ge g w.heap.size with hlt | hge
  · exact hlt
  · unfold Box at h; rw [Array.getElem?_eq_none hge] at h; cases h
theorem Box.cell (h : Box w g t cs) (i : Nat) : w.cell? ⟨g, i, none⟩ = cs[i]? := by
  unfold Box at h; simp [World.cell?, h]
theorem Box.free (h : Box w g t cs) (i : Nat) : w.frozen? ⟨g, i, none⟩ = false := by
  unfold Box at h; simp [World.frozen?, h]
theorem Box.drew (h : Box w g t cs) : Box w.drew g t cs := h
theorem Box.new (w : World) (t : TypeId) (cs : Array Value) : Box (w.alloc (.cells cs t)) w.heap.size t cs := by
  show (w.heap.push _)[w.heap.size]? = _
  simp
theorem Box.alloc (h : Box w g t cs) (o : Obj) : Box (w.alloc o) g t cs := (Below.heap_alloc w o g h.lt).trans h
theorem Box.set_ (h : Box w g t cs) (i : Nat) (u : Value) : Box (w.setCell ⟨g, i, none⟩ u) g t (cs.setIfInBounds i u) := by
  unfold Box at h ⊢
  simp [World.setCell, Array.getElem?_modify, h]
theorem Box.far (h : Box w g t cs) {p : Addr} (hp : g ≠ p.block) (u : Value) : Box (w.setCell p u) g t cs := (Below.heap_setCell w p u g hp).trans h
theorem Box.below {B : Nat} (h : Box w g t cs) (hb : Below B w w') (hg : g < B) : Box w' g t cs := (hb.block g hg).trans h
theorem Box.to (h : Box w g t cs) {cs' : Array Value} (e : cs = cs') : Box w g t cs' := e ▸ h
end

/-- Cells of a list of two-cell things: thing i at off + 2 * i. -/
def TwoAt (w : World) (B : Nat) (A : Option Addr) (n : Nat) (l : List (Int × Int)) : Prop :=
  l.length = n ∧ (0 < n → ∃ b off, A = some ⟨b, off, none⟩ ∧ b < B ∧ ∀ i x y, l[i]? = some (x, y) →
    w.cell? ⟨b, off + i * 2, none⟩ = some (.int .i64 x) ∧ w.cell? ⟨b, off + i * 2 + 1, none⟩ = some (.int .i64 y))

theorem TwoAt.below {w w' : World} {B : Nat} {A : Option Addr} {n : Nat} {l : List (Int × Int)} (h : TwoAt w B A n l) (hb : Below B w w') : TwoAt w' B A n l :=
  ⟨h.1, fun hn => by
    obtain ⟨b, off, e, hlt, hc⟩ := h.2 hn
    exact ⟨b, off, e, hlt, fun i x y hi => ⟨(hb.cell hlt).trans (hc i x y hi).1, (hb.cell hlt).trans (hc i x y hi).2⟩⟩⟩

theorem TwoAt.fwd {w W : World} {A : Option Addr} {n : Nat} {l : List (Int × Int)} (h : TwoAt w w.heap.size A n l) (hW : Below w.heap.size w W) : TwoAt W W.heap.size A n l :=
  ⟨h.1, fun hn => by
    obtain ⟨b, off, e, hlt, hc⟩ := h.2 hn
    have := hW.size
    exact ⟨b, off, e, by omega, fun i x y hi => ⟨(hW.cell hlt).trans (hc i x y hi).1, (hW.cell hlt).trans (hc i x y hi).2⟩⟩⟩

theorem TwoAt.nil (w : World) (B : Nat) (A : Option Addr) : TwoAt w B A 0 [] := ⟨rfl, fun h => absurd h (by omega)⟩

theorem TwoAt.at_ {w : World} {B : Nat} {A : Option Addr} {n k : Nat} {l : List (Int × Int)} (h : TwoAt w B A n l) (hk : k < n) :
    ∃ b off x y, A = some ⟨b, off, none⟩ ∧ b < B ∧ l[k]? = some (x, y) ∧ w.cell? ⟨b, off + k * 2, none⟩ = some (.int .i64 x) ∧ w.cell? ⟨b, off + k * 2 + 1, none⟩ = some (.int .i64 y) := by
  obtain ⟨b, off, e, hlt, hc⟩ := h.2 (by omega)
  have hl : k < l.length := by have := h.1; omega
  have hg : l[k]? = some (l[k].1, l[k].2) := List.getElem?_eq_getElem hl
  exact ⟨b, off, _, _, e, hlt, hg, hc k _ _ hg⟩

end Go.Proofs.Ytlledfabkmmgoaa

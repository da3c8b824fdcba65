/- Plain functions on spans, as the window package and the document's Both have them. No program in sight. -/
namespace Go.Proofs.Ytlledfabkmmgoaa

/-- A span: from, to. -/
abbrev Sp := Int × Int

def fitsB (f t n : Int) : Bool := decide (0 ≤ f ∧ f ≤ t ∧ t ≤ n)

def reachP (f t : Int) : List Sp → Int × Int
  | [] => (0, 0)
  | (a, b) :: r =>
    let ah := if a < f ∧ f < b then f - a else 0
    let bh := if a < t ∧ t < b then b - t else 0
    if 0 < ah ∨ 0 < bh then (ah, bh) else reachP f t r

theorem reachP_drop {f t : Int} {l : List Sp} {k : Nat} {a b : Int} (h : l[k]? = some (a, b)) (h1 : ¬ (a < f ∧ f < b)) (h2 : ¬ (a < t ∧ t < b)) :
    reachP f t (l.drop (k + 1)) = reachP f t (l.drop k) := by
  obtain ⟨hk, hv⟩ := List.getElem?_eq_some_iff.1 h
  rw [List.drop_eq_getElem_cons hk, hv]
  simp [reachP, h1, h2]

theorem reachP_hit {f t : Int} {l : List Sp} {k : Nat} {a b : Int} (h : l[k]? = some (a, b)) (hh : (a < f ∧ f < b) ∨ (a < t ∧ t < b)) :
    reachP f t (l.drop k) = (if a < f ∧ f < b then f - a else 0, if a < t ∧ t < b then b - t else 0) := by
  obtain ⟨hk, hv⟩ := List.getElem?_eq_some_iff.1 h
  rw [List.drop_eq_getElem_cons hk, hv]
  simp only [reachP]
  rw [if_pos]
  rcases hh with ⟨h1, h2⟩ | ⟨h1, h2⟩
  · left; rw [if_pos ⟨h1, h2⟩]; omega
  · right; rw [if_pos ⟨h1, h2⟩]; omega

/-- Do both spans fit their buffers? -/
def fitsAll (a b c d n m : Int) : Bool := fitsB a b n && fitsB c d m && decide (a = c) && decide (n - b = m - d)

theorem fitsAll_iff {a b c d n m : Int} : fitsAll a b c d n m = true ↔ (0 ≤ a ∧ a ≤ b ∧ b ≤ n ∧ 0 ≤ c ∧ c ≤ d ∧ d ≤ m ∧ a = c ∧ n - b = m - d) := by
  simp [fitsAll, fitsB]; omega

/-- Are spans right for so many runes, from a place on? -/
def rightP (last n : Int) : List Sp → Bool
  | [] => true
  | (a, b) :: r => decide (last ≤ a ∧ a < b ∧ b ≤ n) && rightP b n r

theorem rightP_drop {last n : Int} {l : List Sp} {k : Nat} {a b : Int} (h : l[k]? = some (a, b)) :
    rightP last n (l.drop k) = (decide (last ≤ a ∧ a < b ∧ b ≤ n) && rightP b n (l.drop (k + 1))) := by
  obtain ⟨hk, hv⟩ := List.getElem?_eq_some_iff.1 h
  rw [List.drop_eq_getElem_cons hk, hv]
  rfl

theorem rightP_mem {n : Int} {l : List Sp} : ∀ {last : Int}, rightP last n l = true → ∀ x ∈ l, last ≤ x.1 ∧ x.1 < x.2 ∧ x.2 ≤ n := by
  induction l with
  | nil => intro last _ x hx; cases hx
  | cons p r ih =>
    obtain ⟨a, b⟩ := p
    intro last h x hx
    simp [rightP] at h
    rcases List.mem_cons.1 hx with rfl | hx
    · exact h.1
    · have := ih h.2 x hx; omega

/-- Is something hidden on both sides of a place? -/
def acrossP (l : List Sp) (at_ : Int) : Bool := l.any fun x => decide (x.1 < at_ ∧ at_ < x.2)

theorem acrossP_drop {l : List Sp} {k : Nat} {a b at_ : Int} (h : l[k]? = some (a, b)) :
    acrossP (l.drop k) at_ = (decide (a < at_ ∧ at_ < b) || acrossP (l.drop (k + 1)) at_) := by
  obtain ⟨hk, hv⟩ := List.getElem?_eq_some_iff.1 h
  rw [List.drop_eq_getElem_cons hk, hv]
  simp [acrossP]

/-- What the law lets in: N, old, now, was, is. -/
def rightT (N f t g u : Int) (was is : List Sp) : Bool :=
  decide (0 ≤ N ∧ N ≤ 1073741824 ∧ was.length ≤ 60 ∧ is.length ≤ 60 ∧ 0 ≤ t ∧ t ≤ N ∧ 0 ≤ u ∧ u ≤ 1073741824) && (fitsAll f t g u N (N - t + u) && (rightP 0 N was && rightP 0 (N - t + u) is))

/-- Is a span on both sides of a place? -/
def acrB (x : Sp) (at_ : Int) : Bool := decide (x.1 < at_ ∧ at_ < x.2)

/-- The document's one step: by how much it goes on, ahead and behind. -/
def onceL (f t : Int) : List Sp → Option (Int × Int)
  | [] => none
  | x :: r => if acrB x f = true then some (f - x.1, 0) else if acrB x t = true then some (0, x.2 - t) else onceL f t r

theorem onceL_drop {f t : Int} {l : List Sp} {k : Nat} {a b : Int} (h : l[k]? = some (a, b)) (h1 : acrB (a, b) f = false) (h2 : acrB (a, b) t = false) :
    onceL f t (l.drop (k + 1)) = onceL f t (l.drop k) := by
  obtain ⟨hk, hv⟩ := List.getElem?_eq_some_iff.1 h
  rw [List.drop_eq_getElem_cons hk, hv]
  simp [onceL, h1, h2]

theorem onceL_one {f t : Int} {l : List Sp} {k : Nat} {a b : Int} (h : l[k]? = some (a, b)) (h1 : acrB (a, b) f = true) :
    onceL f t (l.drop k) = some (f - a, 0) := by
  obtain ⟨hk, hv⟩ := List.getElem?_eq_some_iff.1 h
  rw [List.drop_eq_getElem_cons hk, hv]
  simp [onceL, h1]

theorem onceL_two {f t : Int} {l : List Sp} {k : Nat} {a b : Int} (h : l[k]? = some (a, b)) (h1 : acrB (a, b) f = false) (h2 : acrB (a, b) t = true) :
    onceL f t (l.drop k) = some (0, b - t) := by
  obtain ⟨hk, hv⟩ := List.getElem?_eq_some_iff.1 h
  rw [List.drop_eq_getElem_cons hk, hv]
  simp [onceL, h1, h2]

/-- Both lists: the step of the document. -/
def onceP (f t g u : Int) (was is : List Sp) : Int × Int := ((onceL f t was).or (onceL g u is)).getD (0, 0)

end Go.Proofs.Ytlledfabkmmgoaa

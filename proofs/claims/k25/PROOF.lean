import PyProof.Rows.All
import HandS.TupSets
import KE.KeyNested
import HandS.ForMost
import KE.SortData
import KE.SortKeyHeap
import KE.SortLaws
import KE.DataCmp
import KE.DataMinMax
import HandS.Deep
import HandS.DictComp
import KE.KDictKeyed
import KE.KDictWalk
import KE.KDictCopyH
import KE.KDictSum
import HandS.Lambda
import HandS.Nested
import HandS.SortKw
import KE.KSortKey
import KE.GoesEnum
import KE.GoesMore
import HandS.Iter
import Wide.All
import OpenK.AllK
import Wide.FinOn
import KE.KStateDown
import Lean
import HandS.Defaults
import HandS.Head0
import HandS.Head1
import HandS.Head2
import HandS.Head3
import HandS.HeadEnd
import HandS.HeadHook1
import HandS.HeadHook2
import HandS.HeadHook3
import HandS.HeadHook4
import HandS.HeadWalk
import HandS.Gcd
import HandS.IsInst
import HandS.Wide
import HandS.Flow
import HandS.Style
import HandS.Zip
import PySem.Challenge.RW_trueatlas_k25_whole_cuts_at_whole_points
/-! Plain geometry of the law: segments, how they meet, exact points. Core Lean alone. -/
namespace K25
abbrev Pt := Int × Int
abbrev Sg := Pt × Pt

def turn (a b c : Pt) : Int := (b.1 - a.1) * (c.2 - a.2) - (b.2 - a.2) * (c.1 - a.1)
def PLt (p q : Pt) : Prop := p.1 < q.1 ∨ (p.1 = q.1 ∧ p.2 < q.2)
instance (p q : Pt) : Decidable (PLt p q) := by unfold PLt; infer_instance
def pmax (p q : Pt) : Pt := if PLt p q then q else p
def pmin (p q : Pt) : Pt := if PLt q p then q else p

inductive Told where
  | none
  | touch (p : Pt)
  | overlap (p q : Pt)
  | cross (x y : Int × Int)
  deriving DecidableEq

def onLine (s t : Sg) : Told :=
  if PLt (pmin s.2 t.2) (pmax s.1 t.1) then .none
  else if pmax s.1 t.1 = pmin s.2 t.2 then .touch (pmax s.1 t.1) else .overlap (pmax s.1 t.1) (pmin s.2 t.2)
def Beside (x y : Int) : Prop := (x > 0 ∧ y > 0) ∨ (x < 0 ∧ y < 0)
instance (x y : Int) : Decidable (Beside x y) := by unfold Beside; infer_instance
def lowest (n d : Int) : Int × Int :=
  let g : Int := if d < 0 then -((Nat.gcd n.natAbs d.natAbs : Nat) : Int) else ((Nat.gcd n.natAbs d.natAbs : Nat) : Int)
  (n.fdiv g, d.fdiv g)
def meet (s t : Sg) : Told :=
  let c := turn s.1 s.2 t.1
  let d := turn s.1 s.2 t.2
  if c = 0 ∧ d = 0 then onLine s t
  else
    let a := turn t.1 t.2 s.1
    let b := turn t.1 t.2 s.2
    if Beside c d ∨ Beside a b then .none
    else if c = 0 then .touch t.1
    else if d = 0 then .touch t.2
    else if a = 0 then .touch s.1
    else if b = 0 then .touch s.2
    else .cross (lowest (s.1.1 * (a - b) + (s.2.1 - s.1.1) * a) (a - b)) (lowest (s.1.2 * (a - b) + (s.2.2 - s.1.2) * a) (a - b))
def Apart (s t : Sg) : Prop := s.2.1 < t.1.1 ∨ t.2.1 < s.1.1 ∨ max s.1.2 s.2.2 < min t.1.2 t.2.2 ∨ max t.1.2 t.2.2 < min s.1.2 s.2.2
instance (s t : Sg) : Decidable (Apart s t) := by unfold Apart; infer_instance
def met (s t : Sg) : Told := if Apart s t then .none else meet s t
def nearest (f : Int × Int) : Int := (2 * f.1 + f.2).fdiv (2 * f.2)
def ptsMet (s t : Sg) : List Pt := match met s t with
  | .cross x y => [(nearest x, nearest y)]
  | .none => []
  | .touch p => [p]
  | .overlap p q => [p, q]

/-! ### the order along a segment, as one number -/
def Far (p : Pt) : Prop := -1000 ≤ p.1 ∧ p.1 ≤ 1000 ∧ -1000 ≤ p.2 ∧ p.2 ≤ 1000
def Ok (s : Sg) : Prop := Far s.1 ∧ Far s.2 ∧ PLt s.1 s.2
def lam (x y : Int) : Int := 4001 * x + y
abbrev lm (p : Pt) : Int := lam p.1 p.2
theorem lm_lt {p q : Pt} (hp : Far p) (hq : Far q) : PLt p q ↔ lm p < lm q := by
  unfold Far at hp hq; unfold PLt lm lam; omega
theorem lm_inj {p q : Pt} (hp : Far p) (hq : Far q) (h : lm p = lm q) : p = q := by
  unfold Far at hp hq; unfold lm lam at h
  ext <;> omega
theorem Ok.lt {s : Sg} (h : Ok s) : lm s.1 < lm s.2 := (lm_lt h.1 h.2.1).mp h.2.2

/-- the exact point (X / D, Y / D) lies on s -/
structure On (D X Y : Int) (s : Sg) : Prop where
  line : (s.2.1 - s.1.1) * (Y - D * s.1.2) = (s.2.2 - s.1.2) * (X - D * s.1.1)
  lo : D * lm s.1 ≤ lam X Y
  hi : lam X Y ≤ D * lm s.2

/-- the length of s in the order -/
abbrev len (s : Sg) : Int := lm s.2 - lm s.1
theorem Ok.len_pos {s : Sg} (h : Ok s) : 0 < len s := by have := h.lt; show 0 < lm s.2 - lm s.1; omega

theorem On.px {D X Y : Int} {s : Sg} (h : On D X Y s) : len s * (X - D * s.1.1) = (s.2.1 - s.1.1) * (lam X Y - D * lm s.1) := by
  have h1 := h.line
  show (lam s.2.1 s.2.2 - lam s.1.1 s.1.2) * _ = _ * (lam X Y - D * lam s.1.1 s.1.2)
  unfold lam
  generalize s.2.1 = u at *; generalize s.2.2 = v at *; generalize s.1.1 = a at *; generalize s.1.2 = b at *
  clear h
  grind
theorem On.py {D X Y : Int} {s : Sg} (h : On D X Y s) : len s * (Y - D * s.1.2) = (s.2.2 - s.1.2) * (lam X Y - D * lm s.1) := by
  have h1 := h.line
  show (lam s.2.1 s.2.2 - lam s.1.1 s.1.2) * _ = _ * (lam X Y - D * lam s.1.1 s.1.2)
  unfold lam
  generalize s.2.1 = u at *; generalize s.2.2 = v at *; generalize s.1.1 = a at *; generalize s.1.2 = b at *
  clear h
  grind
/-- from the place in the order -/
theorem On.of {D X Y : Int} {s : Sg} (ok : Ok s) (hx : len s * (X - D * s.1.1) = (s.2.1 - s.1.1) * (lam X Y - D * lm s.1)) (hy : len s * (Y - D * s.1.2) = (s.2.2 - s.1.2) * (lam X Y - D * lm s.1))
    (lo : D * lm s.1 ≤ lam X Y) (hi : lam X Y ≤ D * lm s.2) : On D X Y s := by
  refine ⟨?_, lo, hi⟩
  have hp := ok.len_pos
  have : len s * ((s.2.1 - s.1.1) * (Y - D * s.1.2) - (s.2.2 - s.1.2) * (X - D * s.1.1)) = 0 := by
    unfold lm lam at *; grind
  rcases Int.mul_eq_zero.mp this with z | z
  · omega
  · omega
theorem On.fst {s : Sg} (ok : Ok s) : On 1 s.1.1 s.1.2 s := ⟨by grind, by simp [lm], by have := ok.lt; simp [lm] at *; omega⟩
theorem On.snd {s : Sg} (ok : Ok s) : On 1 s.2.1 s.2.2 s := ⟨by grind, by have := ok.lt; simp [lm] at *; omega, by simp [lm]⟩

/-- the box of a segment, at an exact point -/
theorem On.box {D X Y : Int} {s : Sg} (ok : Ok s) (hD : 0 < D) (h : On D X Y s) :
    D * s.1.1 ≤ X ∧ X ≤ D * s.2.1 ∧ (s.1.2 ≤ s.2.2 → D * s.1.2 ≤ Y ∧ Y ≤ D * s.2.2) ∧ (s.2.2 ≤ s.1.2 → D * s.2.2 ≤ Y ∧ Y ≤ D * s.1.2) := by
  have hp := ok.len_pos
  have hx := h.px
  have hy := h.py
  have m0 : 0 ≤ lam X Y - D * lm s.1 := by have := h.lo; omega
  have m1 : 0 ≤ D * lm s.2 - lam X Y := by have := h.hi; omega
  have dx : 0 ≤ s.2.1 - s.1.1 := by
    have := ok.2.2; unfold PLt at this; omega
  have e1 := Int.mul_nonneg dx m0
  have e2 := Int.mul_nonneg dx m1
  refine ⟨?_, ?_, fun hd => ⟨?_, ?_⟩, fun hd => ⟨?_, ?_⟩⟩
  · refine Int.le_of_sub_nonneg (Int.le_of_mul_le_mul_left (a := len s) ?_ hp)
    grind
  · refine Int.le_of_sub_nonneg (Int.le_of_mul_le_mul_left (a := len s) ?_ hp)
    grind
  · have e3 := Int.mul_nonneg (show 0 ≤ s.2.2 - s.1.2 by omega) m0
    refine Int.le_of_sub_nonneg (Int.le_of_mul_le_mul_left (a := len s) ?_ hp)
    grind
  · have e3 := Int.mul_nonneg (show 0 ≤ s.2.2 - s.1.2 by omega) m1
    refine Int.le_of_sub_nonneg (Int.le_of_mul_le_mul_left (a := len s) ?_ hp)
    grind
  · have e3 := Int.mul_nonneg (show 0 ≤ s.1.2 - s.2.2 by omega) m1
    refine Int.le_of_sub_nonneg (Int.le_of_mul_le_mul_left (a := len s) ?_ hp)
    grind
  · have e3 := Int.mul_nonneg (show 0 ≤ s.1.2 - s.2.2 by omega) m0
    refine Int.le_of_sub_nonneg (Int.le_of_mul_le_mul_left (a := len s) ?_ hp)
    grind
/-- a common point: the boxes meet -/
theorem not_apart {D X Y : Int} {s t : Sg} (hs : Ok s) (ht : Ok t) (hD : 0 < D) (h : On D X Y s) (k : On D X Y t) : ¬ Apart s t := by
  obtain ⟨a1, a2, a3, a4⟩ := h.box hs hD
  obtain ⟨b1, b2, b3, b4⟩ := k.box ht hD
  have mono : ∀ u v : Int, D * u ≤ D * v → u ≤ v := fun u v z => Int.le_of_mul_le_mul_left z hD
  have c1 := mono _ _ (Int.le_trans a1 b2)
  have c2 := mono _ _ (Int.le_trans b1 a2)
  have y1 : min s.1.2 s.2.2 ≤ max t.1.2 t.2.2 := by
    rcases Int.le_total s.1.2 s.2.2 with z | z <;> rcases Int.le_total t.1.2 t.2.2 with z' | z'
    · have := mono _ _ (Int.le_trans (a3 z).1 (b3 z').2); omega
    · have := mono _ _ (Int.le_trans (a3 z).1 (b4 z').2); omega
    · have := mono _ _ (Int.le_trans (a4 z).1 (b3 z').2); omega
    · have := mono _ _ (Int.le_trans (a4 z).1 (b4 z').2); omega
  have y2 : min t.1.2 t.2.2 ≤ max s.1.2 s.2.2 := by
    rcases Int.le_total s.1.2 s.2.2 with z | z <;> rcases Int.le_total t.1.2 t.2.2 with z' | z'
    · have := mono _ _ (Int.le_trans (b3 z').1 (a3 z).2); omega
    · have := mono _ _ (Int.le_trans (b4 z').1 (a3 z).2); omega
    · have := mono _ _ (Int.le_trans (b3 z').1 (a4 z).2); omega
    · have := mono _ _ (Int.le_trans (b4 z').1 (a4 z).2); omega
  unfold Apart
  omega

/-! ### turns -/
theorem comb {D X Y : Int} {t : Sg} (h : On D X Y t) (a b : Pt) :
    len t * ((b.1 - a.1) * (Y - D * a.2) - (b.2 - a.2) * (X - D * a.1)) = (lam X Y - D * lm t.1) * turn a b t.2 + (D * lm t.2 - lam X Y) * turn a b t.1 := by
  have hx := h.px
  have hy := h.py
  have e : len t = lm t.2 - lm t.1 := rfl
  rw [e] at hx hy ⊢
  unfold turn
  generalize lm t.1 = L1 at *; generalize lm t.2 = L2 at *; generalize lam X Y = M at *
  generalize t.1.1 = c1 at *; generalize t.1.2 = c2 at *; generalize t.2.1 = d1 at *; generalize t.2.2 = d2 at *
  generalize b.1 - a.1 = u at *; generalize b.2 - a.2 = v at *; generalize a.1 = a1 at *; generalize a.2 = a2 at *
  clear h e
  grind
theorem turn_self1 (a b : Pt) : turn a b a = 0 := by unfold turn; grind
theorem turn_self2 (a b : Pt) : turn a b b = 0 := by unfold turn; grind
/-- the two differences of turns -/
theorem turns (s t : Sg) : turn t.1 t.2 s.1 - turn t.1 t.2 s.2 = turn s.1 s.2 t.2 - turn s.1 s.2 t.1 := by unfold turn; grind
/-- on one line -/
def Col (s t : Sg) : Prop := turn s.1 s.2 t.1 = 0 ∧ turn s.1 s.2 t.2 = 0
theorem On.turn0 {s : Sg} {p : Pt} (h : On 1 p.1 p.2 s) : turn s.1 s.2 p = 0 := by
  have h1 := h.line
  rw [Int.one_mul, Int.one_mul] at h1
  unfold turn; omega
theorem on_scaled {D : Int} {s : Sg} {p : Pt} (h : On 1 p.1 p.2 s) (hD : 0 < D) : On D (D * p.1) (D * p.2) s := by
  have e : lam (D * p.1) (D * p.2) = D * lam p.1 p.2 := by unfold lam; grind
  refine ⟨?_, ?_, ?_⟩
  · have := h.line
    have e2 : (s.2.1 - s.1.1) * (D * p.2 - D * s.1.2) = D * ((s.2.1 - s.1.1) * (p.2 - 1 * s.1.2)) := by grind
    rw [e2, this]; grind
  · have := h.lo; rw [e]; exact Int.mul_le_mul_of_nonneg_left (by omega) (by omega)
  · have := h.hi; rw [e]; exact Int.mul_le_mul_of_nonneg_left (by omega) (by omega)
theorem on_unscaled {D : Int} {s : Sg} {p : Pt} (h : On D (D * p.1) (D * p.2) s) (hD : 0 < D) : On 1 p.1 p.2 s := by
  have e : lam (D * p.1) (D * p.2) = D * lam p.1 p.2 := by unfold lam; grind
  refine ⟨?_, ?_, ?_⟩
  · have := h.line
    have e2 : D * ((s.2.1 - s.1.1) * (p.2 - 1 * s.1.2) - (s.2.2 - s.1.2) * (p.1 - 1 * s.1.1)) = 0 := by grind
    rcases Int.mul_eq_zero.mp e2 with z | z <;> omega
  · have := h.lo; rw [e] at this; have := Int.le_of_mul_le_mul_left this hD; omega
  · have := h.hi; rw [e] at this; have := Int.le_of_mul_le_mul_left this hD; omega

/-- a point of t on the line of s, t not along it -/
theorem cross_zero {D X Y : Int} {s t : Sg} (h : On D X Y s) (k : On D X Y t) :
    (lam X Y - D * lm t.1) * turn s.1 s.2 t.2 + (D * lm t.2 - lam X Y) * turn s.1 s.2 t.1 = 0 := by
  rw [← comb k s.1 s.2]
  have := h.line
  have e : (s.2.1 - s.1.1) * (Y - D * s.1.2) - (s.2.2 - s.1.2) * (X - D * s.1.1) = 0 := by omega
  rw [e, Int.mul_zero]
theorem not_beside {D X Y : Int} {s t : Sg} (ht : Ok t) (hD : 0 < D) (h : On D X Y s) (k : On D X Y t) : ¬ Beside (turn s.1 s.2 t.1) (turn s.1 s.2 t.2) := by
  have z := cross_zero h k
  have m0 : 0 ≤ lam X Y - D * lm t.1 := by have := k.lo; omega
  have m1 : 0 ≤ D * lm t.2 - lam X Y := by have := k.hi; omega
  have hp : 0 < D * (lm t.2 - lm t.1) := Int.mul_pos hD (by have := ht.lt; omega)
  have hmn : 0 < (lam X Y - D * lm t.1) + (D * lm t.2 - lam X Y) := by grind
  generalize lam X Y - D * lm t.1 = m at *
  generalize D * lm t.2 - lam X Y = n at *
  generalize turn s.1 s.2 t.2 = d at *
  generalize turn s.1 s.2 t.1 = c at *
  rintro (⟨c0, d0⟩ | ⟨c0, d0⟩)
  · have h1 := Int.mul_nonneg m0 (Int.le_of_lt d0)
    have h2 := Int.mul_nonneg m1 (Int.le_of_lt c0)
    have h3 : m * d = 0 := by omega
    have h4 : n * c = 0 := by omega
    rcases Int.mul_eq_zero.mp h3 with q | q <;> rcases Int.mul_eq_zero.mp h4 with q' | q' <;> omega
  · have h1 := Int.mul_nonneg m0 (show 0 ≤ -d by omega)
    have h2 := Int.mul_nonneg m1 (show 0 ≤ -c by omega)
    have h3 : m * d = 0 := by grind
    have h4 : n * c = 0 := by grind
    rcases Int.mul_eq_zero.mp h3 with q | q <;> rcases Int.mul_eq_zero.mp h4 with q' | q' <;> omega
theorem mul_zero_left {a b : Int} (h : a * b = 0) (ha : a ≠ 0) : b = 0 := (Int.mul_eq_zero.mp h).resolve_left ha
theorem mul_left_can {a b c : Int} (ha : a ≠ 0) (h : a * b = a * c) : b = c := by
  have : a * (b - c) = 0 := by rw [Int.mul_sub]; omega
  have := mul_zero_left this ha
  omega
theorem On.at_lo {D X Y : Int} {s : Sg} (ok : Ok s) (h : On D X Y s) (e : lam X Y = D * lm s.1) : X = D * s.1.1 ∧ Y = D * s.1.2 := by
  have hp := ok.len_pos
  have hx := h.px
  have hy := h.py
  rw [show lam X Y - D * lm s.1 = 0 by omega, Int.mul_zero] at hx hy
  have := mul_zero_left hx (by omega)
  have := mul_zero_left hy (by omega)
  omega
theorem On.at_hi {D X Y : Int} {s : Sg} (ok : Ok s) (h : On D X Y s) (e : lam X Y = D * lm s.2) : X = D * s.2.1 ∧ Y = D * s.2.2 := by
  have hp := ok.len_pos
  have hx := h.px
  have hy := h.py
  have e2 : lam X Y - D * lm s.1 = len s * D := by rw [e]; show _ = (lm s.2 - lm s.1) * D; grind
  rw [e2] at hx hy
  have hx' := mul_left_can (a := len s) (b := X - D * s.1.1) (c := (s.2.1 - s.1.1) * D) (by omega) (by rw [hx]; grind)
  have hy' := mul_left_can (a := len s) (b := Y - D * s.1.2) (c := (s.2.2 - s.1.2) * D) (by omega) (by rw [hy]; grind)
  grind
/-- the same place on a line: the same point -/
theorem On.same {D X Y X' Y' : Int} {s : Sg} (ok : Ok s) (h : On D X Y s) (h' : On D X' Y' s) (e : lam X Y = lam X' Y') : X = X' ∧ Y = Y' := by
  have hp := ok.len_pos
  have hx := h.px
  have hy := h.py
  have hx' := h'.px
  have hy' := h'.py
  rw [e, ← hx'] at hx
  rw [e, ← hy'] at hy
  have := mul_left_can (by omega) hx
  have := mul_left_can (by omega) hy
  omega

theorem turns_ne {D X Y : Int} {s t : Sg} (ht : Ok t) (hD : 0 < D) (h : On D X Y s) (k : On D X Y t) (nc : ¬ Col s t) : turn s.1 s.2 t.1 ≠ turn s.1 s.2 t.2 := fun e => by
  have z := cross_zero h k
  have hp : 0 < D * (lm t.2 - lm t.1) := Int.mul_pos hD (by have := ht.lt; omega)
  have z2 : (D * (lm t.2 - lm t.1)) * turn s.1 s.2 t.2 = 0 := by rw [e] at z; grind
  have z3 := mul_zero_left z2 (by omega)
  exact nc ⟨by omega, z3⟩
theorem met_complete {D X Y : Int} {s t : Sg} (hs : Ok s) (ht : Ok t) (hD : 0 < D) (h : On D X Y s) (k : On D X Y t) (nc : ¬ Col s t) :
    (∃ p, met s t = .touch p ∧ X = D * p.1 ∧ Y = D * p.2) ∨
    (∃ n1 n2 w, met s t = .cross (lowest n1 w) (lowest n2 w) ∧ w ≠ 0 ∧ X * w = D * n1 ∧ Y * w = D * n2 ∧
      (w = turn t.1 t.2 s.1 - turn t.1 t.2 s.2 ∧ n1 = s.1.1 * w + (s.2.1 - s.1.1) * turn t.1 t.2 s.1 ∧ n2 = s.1.2 * w + (s.2.2 - s.1.2) * turn t.1 t.2 s.1) ∧
      turn s.1 s.2 t.1 ≠ 0 ∧ turn s.1 s.2 t.2 ≠ 0 ∧ turn t.1 t.2 s.1 ≠ 0 ∧ turn t.1 t.2 s.2 ≠ 0) := by
  have z := cross_zero h k
  have z' := cross_zero k h
  have hp := hs.len_pos
  have ne := turns_ne ht hD h k nc
  have tt := turns s t
  unfold met
  rw [if_neg (not_apart hs ht hD h k)]
  unfold meet
  simp only
  rw [if_neg (show ¬ (turn s.1 s.2 t.1 = 0 ∧ turn s.1 s.2 t.2 = 0) from nc), if_neg (show ¬ (Beside (turn s.1 s.2 t.1) (turn s.1 s.2 t.2) ∨ Beside (turn t.1 t.2 s.1) (turn t.1 t.2 s.2)) from fun q => q.elim (not_beside ht hD h k) (not_beside hs hD k h))]
  by_cases c0 : turn s.1 s.2 t.1 = 0
  · rw [if_pos c0]
    rw [c0, Int.mul_zero, Int.add_zero] at z
    have e := (Int.mul_eq_zero.mp z).resolve_right (by omega)
    obtain ⟨e1, e2⟩ := k.at_lo ht (by omega)
    exact .inl ⟨_, rfl, e1, e2⟩
  rw [if_neg c0]
  by_cases d0 : turn s.1 s.2 t.2 = 0
  · rw [if_pos d0]
    rw [d0, Int.mul_zero, Int.zero_add] at z
    have e := (Int.mul_eq_zero.mp z).resolve_right (by omega)
    obtain ⟨e1, e2⟩ := k.at_hi ht (by omega)
    exact .inl ⟨_, rfl, e1, e2⟩
  rw [if_neg d0]
  by_cases a0 : turn t.1 t.2 s.1 = 0
  · rw [if_pos a0]
    rw [a0, Int.mul_zero, Int.add_zero] at z'
    have e := (Int.mul_eq_zero.mp z').resolve_right (by omega)
    obtain ⟨e1, e2⟩ := h.at_lo hs (by omega)
    exact .inl ⟨_, rfl, e1, e2⟩
  rw [if_neg a0]
  by_cases b0 : turn t.1 t.2 s.2 = 0
  · rw [if_pos b0]
    rw [b0, Int.mul_zero, Int.zero_add] at z'
    have e := (Int.mul_eq_zero.mp z').resolve_right (by omega)
    obtain ⟨e1, e2⟩ := h.at_hi hs (by omega)
    exact .inl ⟨_, rfl, e1, e2⟩
  rw [if_neg b0]
  refine .inr ⟨_, _, _, rfl, by omega, ?_, ?_, ⟨rfl, rfl, rfl⟩, c0, d0, a0, b0⟩
  · have hx := h.px
    have e : len s = lm s.2 - lm s.1 := rfl
    refine mul_left_can (a := len s) (by omega) ?_
    generalize turn t.1 t.2 s.1 = a at *
    generalize turn t.1 t.2 s.2 = b at *
    rw [e] at hx ⊢
    clear z tt ne c0 d0 h k hp nc e
    generalize lm s.1 = L1 at *; generalize lm s.2 = L2 at *; generalize lam X Y = M at *; generalize s.1.1 = a1 at *; generalize s.2.1 = b1 at *
    grind
  · have hy := h.py
    have e : len s = lm s.2 - lm s.1 := rfl
    refine mul_left_can (a := len s) (by omega) ?_
    generalize turn t.1 t.2 s.1 = a at *
    generalize turn t.1 t.2 s.2 = b at *
    rw [e] at hy ⊢
    clear z tt ne c0 d0 h k hp nc e
    generalize lm s.1 = L1 at *; generalize lm s.2 = L2 at *; generalize lam X Y = M at *; generalize s.1.2 = a1 at *; generalize s.2.2 = b1 at *
    grind

/-! ### fractions -/
theorem lowest_spec (n d : Int) (hd : d ≠ 0) : ∃ g : Int, g ≠ 0 ∧ n = g * (lowest n d).1 ∧ d = g * (lowest n d).2 ∧ 0 < (lowest n d).2 := by
  have hG : 0 < Nat.gcd n.natAbs d.natAbs := Nat.gcd_pos_of_pos_right _ (by omega)
  obtain ⟨u, hu⟩ : ((Nat.gcd n.natAbs d.natAbs : Nat) : Int) ∣ n := Int.ofNat_dvd_left.mpr (Nat.gcd_dvd_left _ _)
  obtain ⟨v, hv⟩ : ((Nat.gcd n.natAbs d.natAbs : Nat) : Int) ∣ d := Int.ofNat_dvd_left.mpr (Nat.gcd_dvd_right _ _)
  unfold lowest
  simp only
  have hG1 : (0 : Int) < ((Nat.gcd n.natAbs d.natAbs : Nat) : Int) := by omega
  clear hG
  generalize ((Nat.gcd n.natAbs d.natAbs : Nat) : Int) = G at *
  by_cases h : d < 0
  · rw [if_pos h]
    refine ⟨-G, by omega, ?_, ?_, ?_⟩
    · have e : n = (-G) * (-u) := by rw [hu]; grind
      have e2 : n.fdiv (-G) = -u := by rw [e]; exact Int.mul_fdiv_cancel_left _ (by omega)
      rw [e2, ← e]
    · have e : d = (-G) * (-v) := by rw [hv]; grind
      have e2 : d.fdiv (-G) = -v := by rw [e]; exact Int.mul_fdiv_cancel_left _ (by omega)
      rw [e2, ← e]
    · have e : d = (-G) * (-v) := by rw [hv]; grind
      have e2 : d.fdiv (-G) = -v := by rw [e]; exact Int.mul_fdiv_cancel_left _ (by omega)
      rw [e2]
      rcases Int.lt_or_le 0 (-v) with q | q
      · exact q
      · have := Int.mul_nonneg (show 0 ≤ G by omega) (show 0 ≤ v by omega); omega
  · rw [if_neg h]
    refine ⟨G, by omega, ?_, ?_, ?_⟩
    · rw [show n.fdiv G = u by rw [hu]; exact Int.mul_fdiv_cancel_left _ (by omega)]; exact hu
    · rw [show d.fdiv G = v by rw [hv]; exact Int.mul_fdiv_cancel_left _ (by omega)]; exact hv
    · rw [show d.fdiv G = v by rw [hv]; exact Int.mul_fdiv_cancel_left _ (by omega)]
      rcases Int.lt_or_le 0 v with q | q
      · exact q
      · have := Int.mul_nonneg (show 0 ≤ G by omega) (show 0 ≤ -v by omega); grind
/-- r is N / D, rounded -/
def Rnd (D N r : Int) : Prop := 2 * (D * r) ≤ 2 * N + D ∧ 2 * N + D < 2 * (D * r) + 2 * D
theorem nearest_rnd (n d : Int) (hd : d ≠ 0) : Rnd (if d < 0 then -d else d) (if d < 0 then -n else n) (nearest (lowest n d)) := by
  obtain ⟨g, hg, h1, h2, h3⟩ := lowest_spec n d hd
  unfold nearest
  generalize (lowest n d).1 = u at *
  generalize (lowest n d).2 = v at *
  have k1 := Int.mul_fdiv_add_fmod (2 * u + v) (2 * v)
  have k2 := Int.fmod_nonneg_of_pos (2 * u + v) (show 0 < 2 * v by omega)
  have k3 := Int.fmod_lt_of_pos (2 * u + v) (show 0 < 2 * v by omega)
  generalize (2 * u + v).fdiv (2 * v) = q at *
  generalize (2 * u + v).fmod (2 * v) = r at *
  have m1 : 2 * (v * q) ≤ 2 * u + v := by grind
  have m2 : 2 * u + v < 2 * (v * q) + 2 * v := by grind
  unfold Rnd
  by_cases h : d < 0
  · rw [if_pos h, if_pos h]
    have hg0 : 0 < -g := by
      rcases Int.lt_or_le 0 (-g) with z | z
      · exact z
      · have := Int.mul_nonneg (show 0 ≤ g by omega) (show 0 ≤ v by omega); omega
    have e1 := Int.mul_le_mul_of_nonneg_left m1 (show 0 ≤ -g by omega)
    have e2 := Int.mul_lt_mul_of_pos_left m2 hg0
    clear k1 k2 k3 m1 m2 h hd
    rw [h1, h2]
    clear h1 h2
    constructor <;> grind
  · rw [if_neg h, if_neg h]
    have hg0 : 0 < g := by
      rcases Int.lt_or_le 0 g with z | z
      · exact z
      · have := Int.mul_nonneg (show 0 ≤ -g by omega) (show 0 ≤ v by omega); grind
    have e1 := Int.mul_le_mul_of_nonneg_left m1 (show 0 ≤ g by omega)
    have e2 := Int.mul_lt_mul_of_pos_left m2 hg0
    clear k1 k2 k3 m1 m2 h hd
    rw [h1, h2]
    clear h1 h2
    constructor <;> grind
theorem Rnd.whole {D r q : Int} (hD : 0 < D) (h : Rnd D (D * r) q) : q = r := by
  obtain ⟨h1, h2⟩ := h
  have a1 : q ≤ r := by
    rcases Int.lt_or_le r q with z | z
    · have := Int.mul_le_mul_of_nonneg_left (show r + 1 ≤ q from z) (Int.le_of_lt hD); grind
    · exact z
  have a2 : r ≤ q := by
    rcases Int.lt_or_le q r with z | z
    · have := Int.mul_le_mul_of_nonneg_left (show q + 1 ≤ r from z) (Int.le_of_lt hD); grind
    · exact z
  omega
theorem nearest_whole {n d r : Int} (hd : d ≠ 0) (h : n = d * r) : nearest (lowest n d) = r := by
  subst h
  have k := nearest_rnd (d * r) d hd
  by_cases z : d < 0
  · rw [if_pos z, if_pos z, show -(d * r) = (-d) * r by grind] at k
    exact Rnd.whole (D := -d) (by omega) k
  · rw [if_neg z, if_neg z] at k
    exact Rnd.whole (D := d) (by omega) k

/-! ### what meet tells is so -/
theorem ratio {m W L a b : Int} (hW : W = a - b) (h0 : W ≠ 0) (hL : 0 < L) (nb : ¬ Beside a b) (e : m * W = L * a) : 0 ≤ m ∧ m ≤ L := by
  unfold Beside at nb
  have e2 : (L - m) * W = -(L * b) := by subst hW; grind
  rcases Int.lt_or_le 0 W with z | z
  · have ha : 0 ≤ a := by omega
    have hb : b ≤ 0 := by omega
    have p1 := Int.mul_nonneg (Int.le_of_lt hL) ha
    have p2 := Int.mul_nonneg (Int.le_of_lt hL) (show 0 ≤ -b by omega)
    constructor
    · rcases Int.lt_or_le m 0 with q | q
      · have := Int.mul_pos (show 0 < -m by omega) z; grind
      · exact q
    · rcases Int.lt_or_le L m with q | q
      · have := Int.mul_pos (show 0 < m - L by omega) z; grind
      · exact q
  · have ha : a ≤ 0 := by omega
    have hb : 0 ≤ b := by omega
    have p1 := Int.mul_nonneg (Int.le_of_lt hL) (show 0 ≤ -a by omega)
    have p2 := Int.mul_nonneg (Int.le_of_lt hL) hb
    constructor
    · rcases Int.lt_or_le m 0 with q | q
      · have := Int.mul_pos (show 0 < -m by omega) (show 0 < -W by omega); grind
      · exact q
    · rcases Int.lt_or_le L m with q | q
      · have := Int.mul_pos (show 0 < m - L by omega) (show 0 < -W by omega); grind
      · exact q
/-- a point p of both lines, the line of t parting the ends of s -/
theorem on_parted {s t : Sg} {p : Pt} (hs : Ok s) (h0 : turn s.1 s.2 p = 0) (h1 : turn t.1 t.2 p = 0) (hW : turn t.1 t.2 s.1 ≠ turn t.1 t.2 s.2) (nb : ¬ Beside (turn t.1 t.2 s.1) (turn t.1 t.2 s.2)) : On 1 p.1 p.2 s := by
  have hp := hs.len_pos
  have e : (lm p - lm s.1) * (turn t.1 t.2 s.1 - turn t.1 t.2 s.2) = len s * turn t.1 t.2 s.1 := by
    show (lam p.1 p.2 - lam s.1.1 s.1.2) * _ = (lam s.2.1 s.2.2 - lam s.1.1 s.1.2) * _
    unfold turn at h0 h1 ⊢
    unfold lam
    generalize t.1.1 = c1 at *; generalize t.1.2 = c2 at *; generalize t.2.1 = d1 at *; generalize t.2.2 = d2 at *
    generalize s.1.1 = a1 at *; generalize s.1.2 = a2 at *; generalize s.2.1 = b1 at *; generalize s.2.2 = b2 at *
    generalize p.1 = x at *; generalize p.2 = y at *
    clear hW nb hp hs
    grind
  obtain ⟨m0, m1⟩ := ratio rfl (by omega) hp nb e
  have e2 : len s = lm s.2 - lm s.1 := rfl
  refine ⟨?_, ?_, ?_⟩
  · unfold turn at h0; rw [Int.one_mul, Int.one_mul]; omega
  · show 1 * lm s.1 ≤ lm p; omega
  · show lm p ≤ 1 * lm s.2; omega
def Ends (s t : Sg) (p : Pt) : Prop := p = s.1 ∨ p = s.2 ∨ p = t.1 ∨ p = t.2
def Sound (s t : Sg) : Told → Prop
  | .none => True
  | .touch p => On 1 p.1 p.2 s ∧ On 1 p.1 p.2 t ∧ Ends s t p
  | .overlap p q => (On 1 p.1 p.2 s ∧ On 1 p.1 p.2 t ∧ Ends s t p) ∧ (On 1 q.1 q.2 s ∧ On 1 q.1 q.2 t ∧ Ends s t q)
  | .cross x y => ¬ Col s t ∧ ∃ D X Y, 0 < D ∧ On D X Y s ∧ On D X Y t ∧ Rnd D X (nearest x) ∧ Rnd D Y (nearest y)

theorem Col.symm {s t : Sg} (hs : Ok s) (h : Col s t) : Col t s := by
  obtain ⟨h1, h2⟩ := h
  have hp := hs.len_pos
  have key : ∀ p : Pt, turn s.1 s.2 p = 0 → turn t.1 t.2 p = 0 := fun p h3 => by
    refine mul_zero_left (a := len s) ?_ (by omega)
    show (lam s.2.1 s.2.2 - lam s.1.1 s.1.2) * _ = 0
    unfold turn at h1 h2 h3 ⊢
    unfold lam
    generalize t.1.1 = c1 at *; generalize t.1.2 = c2 at *; generalize t.2.1 = d1 at *; generalize t.2.2 = d2 at *
    generalize s.1.1 = a1 at *; generalize s.1.2 = a2 at *; generalize s.2.1 = b1 at *; generalize s.2.2 = b2 at *
    generalize p.1 = x at *; generalize p.2 = y at *
    clear hp hs
    grind
  exact ⟨key _ (turn_self1 _ _), key _ (turn_self2 _ _)⟩
theorem Col.line {s t : Sg} (hs : Ok s) (h : Col s t) {p : Pt} (h3 : turn s.1 s.2 p = 0) : turn t.1 t.2 p = 0 := by
  obtain ⟨h1, h2⟩ := h
  have hp := hs.len_pos
  refine mul_zero_left (a := len s) ?_ (by omega)
  show (lam s.2.1 s.2.2 - lam s.1.1 s.1.2) * _ = 0
  unfold turn at h1 h2 h3 ⊢
  unfold lam
  generalize t.1.1 = c1 at *; generalize t.1.2 = c2 at *; generalize t.2.1 = d1 at *; generalize t.2.2 = d2 at *
  generalize s.1.1 = a1 at *; generalize s.1.2 = a2 at *; generalize s.2.1 = b1 at *; generalize s.2.2 = b2 at *
  generalize p.1 = x at *; generalize p.2 = y at *
  clear hp hs
  grind
theorem Col.trans {s t u : Sg} (ht : Ok t) (h : Col s t) (k : Col t u) (hs : Ok s) : Col s u :=
  ⟨Col.line ht (Col.symm hs h) k.1, Col.line ht (Col.symm hs h) k.2⟩
theorem Col.refl (s : Sg) : Col s s := ⟨turn_self1 _ _, turn_self2 _ _⟩
/-- on one line: the place tells -/
theorem on_line {s : Sg} {p : Pt} (h : turn s.1 s.2 p = 0) (lo : lm s.1 ≤ lm p) (hi : lm p ≤ lm s.2) : On 1 p.1 p.2 s := by
  refine ⟨?_, ?_, ?_⟩
  · unfold turn at h; rw [Int.one_mul, Int.one_mul]; omega
  · show 1 * lm s.1 ≤ lm p; omega
  · show lm p ≤ 1 * lm s.2; omega
theorem pmax_cases (p q : Pt) : (pmax p q = p ∧ ¬ PLt p q) ∨ (pmax p q = q ∧ PLt p q) := by
  unfold pmax; by_cases h : PLt p q
  · exact .inr ⟨if_pos h, h⟩
  · exact .inl ⟨if_neg h, h⟩
theorem pmin_cases (p q : Pt) : (pmin p q = p ∧ ¬ PLt q p) ∨ (pmin p q = q ∧ PLt q p) := by
  unfold pmin; by_cases h : PLt q p
  · exact .inr ⟨if_pos h, h⟩
  · exact .inl ⟨if_neg h, h⟩
/-- the low and the high end of what is common on one line -/
theorem low_high {s t : Sg} (hs : Ok s) (ht : Ok t) :
    (pmax s.1 t.1 = s.1 ∨ pmax s.1 t.1 = t.1) ∧ (pmin s.2 t.2 = s.2 ∨ pmin s.2 t.2 = t.2) ∧ lm s.1 ≤ lm (pmax s.1 t.1) ∧ lm t.1 ≤ lm (pmax s.1 t.1) ∧ lm (pmin s.2 t.2) ≤ lm s.2 ∧ lm (pmin s.2 t.2) ≤ lm t.2 ∧ Far (pmax s.1 t.1) ∧ Far (pmin s.2 t.2) := by
  have a1 := lm_lt hs.1 ht.1
  have a2 := lm_lt ht.2.1 hs.2.1
  rcases pmax_cases s.1 t.1 with ⟨e, z⟩ | ⟨e, z⟩ <;> rcases pmin_cases s.2 t.2 with ⟨e', z'⟩ | ⟨e', z'⟩ <;> rw [e, e'] <;> rw [a1] at z <;> rw [a2] at z'
  · exact ⟨.inl rfl, .inl rfl, by omega, by omega, by omega, by omega, hs.1, hs.2.1⟩
  · exact ⟨.inl rfl, .inr rfl, by omega, by omega, by omega, by omega, hs.1, ht.2.1⟩
  · exact ⟨.inr rfl, .inl rfl, by omega, by omega, by omega, by omega, ht.1, hs.2.1⟩
  · exact ⟨.inr rfl, .inr rfl, by omega, by omega, by omega, by omega, ht.1, ht.2.1⟩
theorem onLine_sound {s t : Sg} (hs : Ok s) (ht : Ok t) (hc : Col s t) : Sound s t (onLine s t) := by
  obtain ⟨h1, h2, h3, h4, h5, h6, h7, h8⟩ := low_high hs ht
  have hc' := hc.symm hs
  have e1 : Ends s t (pmax s.1 t.1) := by rcases h1 with e | e <;> rw [e]; exact .inl rfl; exact .inr (.inr (.inl rfl))
  have e2 : Ends s t (pmin s.2 t.2) := by rcases h2 with e | e <;> rw [e]; exact .inr (.inl rfl); exact .inr (.inr (.inr rfl))
  have l1 : turn s.1 s.2 (pmax s.1 t.1) = 0 := by rcases h1 with e | e <;> rw [e]; exact turn_self1 _ _; exact hc.1
  have l2 : turn s.1 s.2 (pmin s.2 t.2) = 0 := by rcases h2 with e | e <;> rw [e]; exact turn_self2 _ _; exact hc.2
  have l3 := hc.line hs l1
  have l4 := hc.line hs l2
  unfold onLine
  by_cases z : PLt (pmin s.2 t.2) (pmax s.1 t.1)
  · rw [if_pos z]; trivial
  · rw [if_neg z]
    rw [lm_lt h8 h7] at z
    have q1 : On 1 (pmax s.1 t.1).1 (pmax s.1 t.1).2 s ∧ On 1 (pmax s.1 t.1).1 (pmax s.1 t.1).2 t ∧ Ends s t (pmax s.1 t.1) := ⟨on_line l1 (by omega) (by omega), on_line l3 (by omega) (by omega), e1⟩
    have q2 : On 1 (pmin s.2 t.2).1 (pmin s.2 t.2).2 s ∧ On 1 (pmin s.2 t.2).1 (pmin s.2 t.2).2 t ∧ Ends s t (pmin s.2 t.2) := ⟨on_line l2 (by omega) (by omega), on_line l4 (by omega) (by omega), e2⟩
    by_cases y : pmax s.1 t.1 = pmin s.2 t.2
    · rw [if_pos y]; exact q1
    · rw [if_neg y]; exact ⟨q1, q2⟩
theorem meet_sound {s t : Sg} (hs : Ok s) (ht : Ok t) : Sound s t (meet s t) := by
  have tt := turns s t
  unfold meet
  simp only
  by_cases hc : turn s.1 s.2 t.1 = 0 ∧ turn s.1 s.2 t.2 = 0
  · rw [if_pos hc]; exact onLine_sound hs ht hc
  rw [if_neg hc]
  by_cases hb : Beside (turn s.1 s.2 t.1) (turn s.1 s.2 t.2) ∨ Beside (turn t.1 t.2 s.1) (turn t.1 t.2 s.2)
  · rw [if_pos hb]; trivial
  rw [if_neg hb]
  have nb1 : ¬ Beside (turn s.1 s.2 t.1) (turn s.1 s.2 t.2) := fun z => hb (.inl z)
  have nb2 : ¬ Beside (turn t.1 t.2 s.1) (turn t.1 t.2 s.2) := fun z => hb (.inr z)
  have hW : turn s.1 s.2 t.1 ≠ turn s.1 s.2 t.2 := fun e => by unfold Beside at nb1; omega
  have hW2 : turn t.1 t.2 s.1 ≠ turn t.1 t.2 s.2 := by omega
  by_cases c0 : turn s.1 s.2 t.1 = 0
  · rw [if_pos c0]
    exact ⟨on_parted hs c0 (turn_self1 _ _) hW2 nb2, On.fst ht, .inr (.inr (.inl rfl))⟩
  rw [if_neg c0]
  by_cases d0 : turn s.1 s.2 t.2 = 0
  · rw [if_pos d0]
    exact ⟨on_parted hs d0 (turn_self2 _ _) hW2 nb2, On.snd ht, .inr (.inr (.inr rfl))⟩
  rw [if_neg d0]
  by_cases a0 : turn t.1 t.2 s.1 = 0
  · rw [if_pos a0]
    exact ⟨On.fst hs, on_parted ht a0 (turn_self1 _ _) hW nb1, .inl rfl⟩
  rw [if_neg a0]
  by_cases b0 : turn t.1 t.2 s.2 = 0
  · rw [if_pos b0]
    exact ⟨On.snd hs, on_parted ht b0 (turn_self2 _ _) hW nb1, .inr (.inl rfl)⟩
  rw [if_neg b0]
  refine ⟨hc, if turn t.1 t.2 s.1 - turn t.1 t.2 s.2 < 0 then -(turn t.1 t.2 s.1 - turn t.1 t.2 s.2) else turn t.1 t.2 s.1 - turn t.1 t.2 s.2, _, _, ?_, ?_, ?_, nearest_rnd _ _ (by omega), nearest_rnd _ _ (by omega)⟩
  · split <;> omega
  · -- on s
    have hp := hs.len_pos
    have key : ∀ W N1 N2 : Int, N1 = s.1.1 * W + (s.2.1 - s.1.1) * turn t.1 t.2 s.1 → N2 = s.1.2 * W + (s.2.2 - s.1.2) * turn t.1 t.2 s.1 →
        (s.2.1 - s.1.1) * (N2 - W * s.1.2) = (s.2.2 - s.1.2) * (N1 - W * s.1.1) ∧ lam N1 N2 - W * lm s.1 = len s * turn t.1 t.2 s.1 ∧ lam N1 N2 - W * lm s.2 = len s * (turn t.1 t.2 s.1 - W) := by
      intro W N1 N2 e1 e2
      show _ ∧ lam N1 N2 - W * lam s.1.1 s.1.2 = (lam s.2.1 s.2.2 - lam s.1.1 s.1.2) * _ ∧ lam N1 N2 - W * lam s.2.1 s.2.2 = (lam s.2.1 s.2.2 - lam s.1.1 s.1.2) * _
      unfold lam
      generalize turn t.1 t.2 s.1 = a at *
      generalize s.1.1 = a1 at *; generalize s.1.2 = a2 at *; generalize s.2.1 = b1 at *; generalize s.2.2 = b2 at *
      clear hp hs
      subst e1 e2
      grind
    by_cases z : turn t.1 t.2 s.1 - turn t.1 t.2 s.2 < 0
    · rw [if_pos z, if_pos z, if_pos z]
      obtain ⟨k1, k2, k3⟩ := key (turn t.1 t.2 s.1 - turn t.1 t.2 s.2) _ _ rfl rfl
      have p1 := Int.mul_nonneg (Int.le_of_lt hp) (show 0 ≤ -(turn t.1 t.2 s.1) by unfold Beside at nb2; omega)
      have p2 := Int.mul_nonneg (Int.le_of_lt hp) (show 0 ≤ turn t.1 t.2 s.1 - (turn t.1 t.2 s.1 - turn t.1 t.2 s.2) by unfold Beside at nb2; omega)
      generalize turn t.1 t.2 s.1 = a at *
      generalize turn t.1 t.2 s.2 = b at *
      generalize s.1.1 * (a - b) + (s.2.1 - s.1.1) * a = N1 at *
      generalize s.1.2 * (a - b) + (s.2.2 - s.1.2) * a = N2 at *
      have el : lam (-N1) (-N2) = -(lam N1 N2) := by unfold lam; omega
      refine ⟨by grind, ?_, ?_⟩ <;> rw [el] <;> grind
    · rw [if_neg z, if_neg z, if_neg z]
      obtain ⟨k1, k2, k3⟩ := key (turn t.1 t.2 s.1 - turn t.1 t.2 s.2) _ _ rfl rfl
      have p1 := Int.mul_nonneg (Int.le_of_lt hp) (show 0 ≤ turn t.1 t.2 s.1 by unfold Beside at nb2; omega)
      have p2 := Int.mul_nonneg (Int.le_of_lt hp) (show 0 ≤ -(turn t.1 t.2 s.1 - (turn t.1 t.2 s.1 - turn t.1 t.2 s.2)) by unfold Beside at nb2; omega)
      generalize turn t.1 t.2 s.1 = a at *
      generalize turn t.1 t.2 s.2 = b at *
      generalize s.1.1 * (a - b) + (s.2.1 - s.1.1) * a = N1 at *
      generalize s.1.2 * (a - b) + (s.2.2 - s.1.2) * a = N2 at *
      refine ⟨k1, ?_, ?_⟩ <;> grind
  · -- on t
    have hp := ht.len_pos
    have key : ∀ W N1 N2 : Int, W = turn t.1 t.2 s.1 - turn t.1 t.2 s.2 → N1 = s.1.1 * W + (s.2.1 - s.1.1) * turn t.1 t.2 s.1 → N2 = s.1.2 * W + (s.2.2 - s.1.2) * turn t.1 t.2 s.1 →
        N1 = t.1.1 * W - (t.2.1 - t.1.1) * turn s.1 s.2 t.1 ∧ N2 = t.1.2 * W - (t.2.2 - t.1.2) * turn s.1 s.2 t.1 := by
      intro W N1 N2 e0 e1 e2
      subst e1 e2 e0
      clear tt hW hW2 nb1 nb2 hb hc c0 d0 a0 b0
      unfold turn
      generalize t.1.1 = c1 at *; generalize t.1.2 = c2 at *; generalize t.2.1 = d1 at *; generalize t.2.2 = d2 at *
      generalize s.1.1 = a1 at *; generalize s.1.2 = a2 at *; generalize s.2.1 = b1 at *; generalize s.2.2 = b2 at *
      clear hp hs ht
      constructor <;> grind
    have key2 : ∀ W N1 N2 : Int, N1 = t.1.1 * W - (t.2.1 - t.1.1) * turn s.1 s.2 t.1 → N2 = t.1.2 * W - (t.2.2 - t.1.2) * turn s.1 s.2 t.1 →
        (t.2.1 - t.1.1) * (N2 - W * t.1.2) = (t.2.2 - t.1.2) * (N1 - W * t.1.1) ∧ lam N1 N2 - W * lm t.1 = -(len t * turn s.1 s.2 t.1) ∧ lam N1 N2 - W * lm t.2 = -(len t * (turn s.1 s.2 t.1 + W)) := by
      intro W N1 N2 e1 e2
      show _ ∧ lam N1 N2 - W * lam t.1.1 t.1.2 = -((lam t.2.1 t.2.2 - lam t.1.1 t.1.2) * _) ∧ lam N1 N2 - W * lam t.2.1 t.2.2 = -((lam t.2.1 t.2.2 - lam t.1.1 t.1.2) * _)
      unfold lam
      generalize turn s.1 s.2 t.1 = a at *
      generalize t.1.1 = a1 at *; generalize t.1.2 = a2 at *; generalize t.2.1 = b1 at *; generalize t.2.2 = b2 at *
      clear hp ht
      subst e1 e2
      grind
    obtain ⟨i1, i2⟩ := key _ _ _ rfl rfl rfl
    obtain ⟨k1, k2, k3⟩ := key2 _ _ _ i1 i2
    clear key key2 i1 i2
    by_cases z : turn t.1 t.2 s.1 - turn t.1 t.2 s.2 < 0
    · rw [if_pos z, if_pos z, if_pos z]
      have p1 := Int.mul_nonneg (Int.le_of_lt hp) (show 0 ≤ turn s.1 s.2 t.1 by unfold Beside at nb1; omega)
      have p2 := Int.mul_nonneg (Int.le_of_lt hp) (show 0 ≤ -(turn s.1 s.2 t.1 + (turn t.1 t.2 s.1 - turn t.1 t.2 s.2)) by unfold Beside at nb1; omega)
      generalize s.1.1 * (turn t.1 t.2 s.1 - turn t.1 t.2 s.2) + (s.2.1 - s.1.1) * turn t.1 t.2 s.1 = N1 at *
      generalize s.1.2 * (turn t.1 t.2 s.1 - turn t.1 t.2 s.2) + (s.2.2 - s.1.2) * turn t.1 t.2 s.1 = N2 at *
      generalize turn t.1 t.2 s.1 - turn t.1 t.2 s.2 = W at *
      have el : lam (-N1) (-N2) = -(lam N1 N2) := by unfold lam; omega
      refine ⟨by grind, ?_, ?_⟩ <;> rw [el] <;> grind
    · rw [if_neg z, if_neg z, if_neg z]
      have p1 := Int.mul_nonneg (Int.le_of_lt hp) (show 0 ≤ -(turn s.1 s.2 t.1) by unfold Beside at nb1; omega)
      have p2 := Int.mul_nonneg (Int.le_of_lt hp) (show 0 ≤ turn s.1 s.2 t.1 + (turn t.1 t.2 s.1 - turn t.1 t.2 s.2) by unfold Beside at nb1; omega)
      generalize s.1.1 * (turn t.1 t.2 s.1 - turn t.1 t.2 s.2) + (s.2.1 - s.1.1) * turn t.1 t.2 s.1 = N1 at *
      generalize s.1.2 * (turn t.1 t.2 s.1 - turn t.1 t.2 s.2) + (s.2.2 - s.1.2) * turn t.1 t.2 s.1 = N2 at *
      generalize turn t.1 t.2 s.1 - turn t.1 t.2 s.2 = W at *
      refine ⟨k1, ?_, ?_⟩ <;> grind
theorem met_sound {s t : Sg} (hs : Ok s) (ht : Ok t) : Sound s t (met s t) := by
  unfold met
  split
  · trivial
  · exact meet_sound hs ht
end K25

/-! Where all crossings are whole: one round, and the same points. Core Lean alone. -/
namespace K25
def SLt (s t : Sg) : Prop := PLt s.1 t.1 ∨ (s.1 = t.1 ∧ PLt s.2 t.2)
instance (s t : Sg) : Decidable (SLt s t) := by unfold SLt; infer_instance
/-- the cuts of a pair, as they are reckoned: the lesser segment stands first -/
def pm (s t : Sg) : List Pt := if SLt s t then ptsMet s t else ptsMet t s
theorem PLt.asymm {p q : Pt} (h : PLt p q) : ¬ PLt q p := by unfold PLt at *; omega
theorem PLt.total {p q : Pt} (h : ¬ PLt p q) (k : ¬ PLt q p) : p = q := by
  unfold PLt at *; ext <;> omega
theorem PLt.irrefl (p : Pt) : ¬ PLt p p := by unfold PLt; omega
theorem PLt.trans {p q r : Pt} (h : PLt p q) (k : PLt q r) : PLt p r := by unfold PLt at *; omega
theorem SLt.asymm {s t : Sg} (h : SLt s t) : ¬ SLt t s := by
  intro k
  unfold SLt at h k
  rcases h with h | ⟨e, h⟩ <;> rcases k with k | ⟨e', k⟩
  · exact h.asymm k
  · rw [e'] at h; exact PLt.irrefl _ h
  · rw [e] at k; exact PLt.irrefl _ k
  · exact h.asymm k
theorem SLt.total {s t : Sg} (h : ¬ SLt s t) (k : ¬ SLt t s) : s = t := by
  unfold SLt at h k
  have e1 : s.1 = t.1 := PLt.total (fun z => h (.inl z)) fun z => k (.inl z)
  have e2 : s.2 = t.2 := PLt.total (fun z => h (.inr ⟨e1, z⟩)) fun z => k (.inr ⟨e1.symm, z⟩)
  exact Prod.ext e1 e2
theorem SLt.irrefl (s : Sg) : ¬ SLt s s := fun h => h.asymm h
theorem SLt.trans {s t u : Sg} (h : SLt s t) (k : SLt t u) : SLt s u := by
  unfold SLt at *
  rcases h with h | ⟨e, h⟩ <;> rcases k with k | ⟨e', k⟩
  · exact .inl (h.trans k)
  · rw [← e']; exact .inl h
  · rw [e]; exact .inl k
  · exact .inr ⟨e.trans e', h.trans k⟩
theorem pm_symm {s t : Sg} (h : s ≠ t) : pm s t = pm t s := by
  unfold pm
  by_cases a : SLt s t
  · rw [if_pos a, if_neg a.asymm]
  · by_cases b : SLt t s
    · rw [if_neg a, if_pos b]
    · exact absurd (SLt.total a b) h
theorem rnd_one (r : Int) : Rnd 1 r r := by unfold Rnd; omega
theorem Ends.symm {s t : Sg} {p : Pt} (h : Ends s t p) : Ends t s p := by
  unfold Ends at *
  rcases h with h | h | h | h
  · exact .inr (.inr (.inl h))
  · exact .inr (.inr (.inr h))
  · exact .inl h
  · exact .inr (.inl h)
/-- what a cut is -/
def CutOf (s t : Sg) (r : Pt) : Prop := ∃ D X Y, 0 < D ∧ On D X Y s ∧ On D X Y t ∧ Rnd D X r.1 ∧ Rnd D Y r.2 ∧ ((X = D * r.1 ∧ Y = D * r.2 ∧ Ends s t r) ∨ ¬ Col s t)
theorem ptsMet_sound {s t : Sg} (hs : Ok s) (ht : Ok t) {r : Pt} (h : r ∈ ptsMet s t) : CutOf s t r := by
  have k := met_sound hs ht
  unfold ptsMet at h
  cases e : met s t with
  | none => rw [e] at h; simp at h
  | touch p =>
    rw [e] at h k
    simp only [List.mem_singleton] at h
    subst h
    obtain ⟨k1, k2, k3⟩ := k
    exact ⟨1, _, _, by omega, k1, k2, rnd_one _, rnd_one _, .inl ⟨by omega, by omega, k3⟩⟩
  | overlap p q =>
    rw [e] at h k
    simp only [List.mem_cons, List.not_mem_nil, or_false] at h
    obtain ⟨⟨k1, k2, k3⟩, k4, k5, k6⟩ := k
    rcases h with h | h <;> subst h
    · exact ⟨1, _, _, by omega, k1, k2, rnd_one _, rnd_one _, .inl ⟨by omega, by omega, k3⟩⟩
    · exact ⟨1, _, _, by omega, k4, k5, rnd_one _, rnd_one _, .inl ⟨by omega, by omega, k6⟩⟩
  | cross x y =>
    rw [e] at h k
    simp only [List.mem_singleton] at h
    subst h
    obtain ⟨nc, D, X, Y, k1, k2, k3, k4, k5⟩ := k
    exact ⟨D, X, Y, k1, k2, k3, k4, k5, .inr nc⟩
theorem CutOf.symm {s t : Sg} (ht : Ok t) {r : Pt} (h : CutOf s t r) : CutOf t s r := by
  obtain ⟨D, X, Y, h1, h2, h3, h4, h5, h6⟩ := h
  refine ⟨D, X, Y, h1, h3, h2, h4, h5, h6.imp (fun ⟨a, b, c⟩ => ⟨a, b, c.symm⟩) fun h => fun k => h (k.symm ht)⟩
theorem pm_sound {s t : Sg} (hs : Ok s) (ht : Ok t) {r : Pt} (h : r ∈ pm s t) : CutOf s t r := by
  unfold pm at h
  split at h
  · exact ptsMet_sound hs ht h
  · exact (ptsMet_sound ht hs h).symm hs
theorem ptsMet_int {s t : Sg} (hs : Ok s) (ht : Ok t) {r : Pt} (h : On 1 r.1 r.2 s) (k : On 1 r.1 r.2 t) (nc : ¬ Col s t) : r ∈ ptsMet s t := by
  rcases met_complete hs ht (by omega) h k nc with ⟨p, e, e1, e2⟩ | ⟨n1, n2, w, e, hw, e1, e2, -⟩
  · unfold ptsMet
    rw [e]
    have : r = p := by ext <;> omega
    simp [this]
  · unfold ptsMet
    rw [e]
    have q1 := nearest_whole (n := n1) hw (r := r.1) (by rw [Int.mul_comm]; omega)
    have q2 := nearest_whole (n := n2) hw (r := r.2) (by rw [Int.mul_comm]; omega)
    simp only [List.mem_singleton]
    rw [q1, q2]
theorem ptsMet_end {s t : Sg} (hs : Ok s) (ht : Ok t) {r : Pt} (h : On 1 r.1 r.2 s) (k : On 1 r.1 r.2 t) (he : Ends s t r) : r ∈ ptsMet s t := by
  by_cases nc : Col s t
  · obtain ⟨h1, h2, h3, h4, h5, h6, h7, h8⟩ := low_high hs ht
    have hlo : 1 * lm s.1 ≤ lm r := h.lo
    have hhi : lm r ≤ 1 * lm s.2 := h.hi
    have klo : 1 * lm t.1 ≤ lm r := k.lo
    have khi : lm r ≤ 1 * lm t.2 := k.hi
    have l1 : lm (pmax s.1 t.1) ≤ lm r := by rcases h1 with e | e <;> rw [e] <;> omega
    have l2 : lm r ≤ lm (pmin s.2 t.2) := by rcases h2 with e | e <;> rw [e] <;> omega
    have hr : r = pmax s.1 t.1 ∨ r = pmin s.2 t.2 := by
      rcases he with e | e | e | e
      · exact .inl (lm_inj (by rw [e]; exact hs.1) h7 (by rw [e] at l1 ⊢; omega))
      · exact .inr (lm_inj (by rw [e]; exact hs.2.1) h8 (by rw [e] at l2 ⊢; omega))
      · exact .inl (lm_inj (by rw [e]; exact ht.1) h7 (by rw [e] at l1 ⊢; omega))
      · exact .inr (lm_inj (by rw [e]; exact ht.2.1) h8 (by rw [e] at l2 ⊢; omega))
    have em : met s t = onLine s t := by
      unfold met meet
      rw [if_neg (not_apart hs ht (by omega) h k)]
      simp only
      rw [if_pos (show turn s.1 s.2 t.1 = 0 ∧ turn s.1 s.2 t.2 = 0 from nc)]
    unfold ptsMet
    rw [em]
    unfold onLine
    rw [if_neg (by rw [lm_lt h8 h7]; omega)]
    by_cases y : pmax s.1 t.1 = pmin s.2 t.2
    · rw [if_pos y]
      simp only [List.mem_singleton]
      rcases hr with e | e
      · exact e
      · rw [e, y]
    · rw [if_neg y]
      simp only [List.mem_cons, List.not_mem_nil, or_false]
      exact hr
  · exact ptsMet_int hs ht h k nc
theorem pm_int {s t : Sg} (hs : Ok s) (ht : Ok t) {r : Pt} (h : On 1 r.1 r.2 s) (k : On 1 r.1 r.2 t) (nc : ¬ Col s t) : r ∈ pm s t := by
  unfold pm
  split
  · exact ptsMet_int hs ht h k nc
  · exact ptsMet_int ht hs k h fun z => nc (z.symm ht)
theorem pm_end {s t : Sg} (hs : Ok s) (ht : Ok t) {r : Pt} (h : On 1 r.1 r.2 s) (k : On 1 r.1 r.2 t) (he : Ends s t r) : r ∈ pm s t := by
  unfold pm
  split
  · exact ptsMet_end hs ht h k he
  · exact ptsMet_end ht hs k h he.symm

/-! ### whole crossings -/
def Whole (s t : Sg) : Prop := ∀ D X Y, 0 < D → On D X Y s → On D X Y t → ¬ Col s t → ∃ r : Pt, X = D * r.1 ∧ Y = D * r.2
theorem Whole.symm {s t : Sg} (hs : Ok s) (h : Whole s t) : Whole t s := fun D X Y hD a b nc => h D X Y hD b a fun z => nc (Col.symm hs z)
theorem CutOf.whole {s t : Sg} {r : Pt} (w : Whole s t) (h : CutOf s t r) : On 1 r.1 r.2 s ∧ On 1 r.1 r.2 t := by
  obtain ⟨D, X, Y, h1, h2, h3, h4, h5, h6⟩ := h
  have e : X = D * r.1 ∧ Y = D * r.2 := by
    rcases h6 with h6 | h6
    · exact ⟨h6.1, h6.2.1⟩
    · obtain ⟨q, e1, e2⟩ := w D X Y h1 h2 h3 h6
      rw [e1] at h4
      rw [e2] at h5
      have := h4.whole h1
      have := h5.whole h1
      rw [e1, e2]
      constructor <;> congr 1 <;> omega
  rw [e.1, e.2] at h2 h3
  exact ⟨on_unscaled h2 h1, on_unscaled h3 h1⟩
theorem CutOf.ends {s t : Sg} {r : Pt} (c : Col s t) (h : CutOf s t r) : Ends s t r := by
  obtain ⟨D, X, Y, h1, h2, h3, h4, h5, h6⟩ := h
  rcases h6 with h6 | h6
  · exact h6.2.2
  · exact absurd c h6
theorem On.far {s : Sg} (ok : Ok s) {r : Pt} (h : On 1 r.1 r.2 s) : Far r := by
  obtain ⟨b1, b2, b3, b4⟩ := h.box ok (by omega)
  have h1 := ok.1
  have h2 := ok.2.1
  unfold Far at *
  rcases Int.le_total s.1.2 s.2.2 with z | z
  · have := b3 z; omega
  · have := b4 z; omega

/-- the segments, all of them well formed, all crossings whole -/
structure AllW (E : List Sg) : Prop where
  ok : ∀ s ∈ E, Ok s
  wh : ∀ s ∈ E, ∀ t ∈ E, s ≠ t → Whole s t
/-- an end or a cut of s -/
def Kp (E : List Sg) (s : Sg) (r : Pt) : Prop := r = s.1 ∨ r = s.2 ∨ ∃ t ∈ E, t ≠ s ∧ r ∈ pm s t
section
variable {E : List Sg} (A : AllW E)
include A
theorem AllW.cut {s t : Sg} (hs : s ∈ E) (ht : t ∈ E) (ne : t ≠ s) {r : Pt} (h : r ∈ pm s t) : On 1 r.1 r.2 s ∧ On 1 r.1 r.2 t :=
  (pm_sound (A.ok s hs) (A.ok t ht) h).whole (A.wh s hs t ht ne.symm)
theorem AllW.on {s : Sg} (hs : s ∈ E) {r : Pt} (h : Kp E s r) : On 1 r.1 r.2 s := by
  rcases h with e | e | ⟨t, ht, ne, h⟩
  · rw [e]; exact On.fst (A.ok s hs)
  · rw [e]; exact On.snd (A.ok s hs)
  · exact (A.cut hs ht ne h).1
theorem AllW.far {s : Sg} (hs : s ∈ E) {r : Pt} (h : Kp E s r) : Far r := (A.on hs h).far (A.ok s hs)
theorem AllW.endK {s t : Sg} (hs : s ∈ E) (ht : t ∈ E) {r : Pt} (h1 : On 1 r.1 r.2 s) (h2 : On 1 r.1 r.2 t) (he : Ends s t r) : Kp E t r := by
  by_cases e : t = s
  · subst e
    rcases he with e | e | e | e
    · exact .inl e
    · exact .inr (.inl e)
    · exact .inl e
    · exact .inr (.inl e)
  · exact .inr (.inr ⟨s, hs, fun z => e z.symm, pm_end (A.ok t ht) (A.ok s hs) h2 h1 he.symm⟩)
theorem AllW.carry {s t : Sg} (hs : s ∈ E) (ht : t ∈ E) {r : Pt} (h : Kp E s r) (k : On 1 r.1 r.2 t) : Kp E t r := by
  have o := A.on hs h
  by_cases est : t = s
  · rw [est]; exact h
  rcases h with e | e | ⟨u, hu, ne, h⟩
  · exact A.endK hs ht o k (.inl e)
  · exact A.endK hs ht o k (.inr (.inl e))
  · by_cases eut : u = t
    · subst eut
      exact .inr (.inr ⟨s, hs, fun z => est z.symm, by rw [pm_symm est]; exact h⟩)
    · have ou := (A.cut hs hu ne h).2
      by_cases c : Col s t
      · by_cases c2 : Col s u
        · rcases (pm_sound (A.ok s hs) (A.ok u hu) h).ends c2 with e | e | e | e
          · exact A.endK hs ht o k (.inl e)
          · exact A.endK hs ht o k (.inr (.inl e))
          · exact A.endK hu ht ou k (.inl e)
          · exact A.endK hu ht ou k (.inr (.inl e))
        · refine .inr (.inr ⟨u, hu, eut, pm_int (A.ok t ht) (A.ok u hu) k ou fun z => c2 (c.trans (A.ok t ht) z (A.ok s hs))⟩)
      · exact .inr (.inr ⟨s, hs, fun z => est z.symm, pm_int (A.ok t ht) (A.ok s hs) k o fun z => c (z.symm (A.ok t ht))⟩)
end
/-- a piece of s: two neighbours among its ends and cuts -/
structure Piece (E : List Sg) (s e : Sg) : Prop where
  k1 : Kp E s e.1
  k2 : Kp E s e.2
  lt : lm e.1 < lm e.2
  gap : ∀ r, Kp E s r → lm r ≤ lm e.1 ∨ lm e.2 ≤ lm r
theorem on_line2 {D X Y : Int} {s : Sg} (h : (s.2.1 - s.1.1) * (Y - D * s.1.2) = (s.2.2 - s.1.2) * (X - D * s.1.1)) (lo : D * lm s.1 ≤ lam X Y) (hi : lam X Y ≤ D * lm s.2) : On D X Y s := ⟨h, lo, hi⟩
/-- the line of a piece is the line of the segment -/
theorem line_piece {D X Y : Int} {s : Sg} {k k' : Pt} (ok : Ok s) (h : turn s.1 s.2 k = 0) (h' : turn s.1 s.2 k' = 0) (lt : lm k < lm k') :
    (k'.1 - k.1) * (Y - D * k.2) = (k'.2 - k.2) * (X - D * k.1) ↔ (s.2.1 - s.1.1) * (Y - D * s.1.2) = (s.2.2 - s.1.2) * (X - D * s.1.1) := by
  have hp := ok.len_pos
  have hq : lm k' - lm k ≠ 0 := by omega
  have e1 : len s * ((k'.1 - k.1) * (Y - D * k.2) - (k'.2 - k.2) * (X - D * k.1)) = (lm k' - lm k) * ((s.2.1 - s.1.1) * (Y - D * s.1.2) - (s.2.2 - s.1.2) * (X - D * s.1.1)) := by
    show (lam s.2.1 s.2.2 - lam s.1.1 s.1.2) * _ = (lam k'.1 k'.2 - lam k.1 k.2) * _
    unfold turn at h h'
    unfold lam
    generalize s.1.1 = a1 at *; generalize s.1.2 = a2 at *; generalize s.2.1 = b1 at *; generalize s.2.2 = b2 at *
    generalize k.1 = x at *; generalize k.2 = y at *; generalize k'.1 = u at *; generalize k'.2 = v at *
    clear hp ok lt hq
    grind
  constructor
  · intro z
    rw [show (k'.1 - k.1) * (Y - D * k.2) - (k'.2 - k.2) * (X - D * k.1) = 0 by omega, Int.mul_zero] at e1
    have := mul_zero_left e1.symm hq
    omega
  · intro z
    rw [show (s.2.1 - s.1.1) * (Y - D * s.1.2) - (s.2.2 - s.1.2) * (X - D * s.1.1) = 0 by omega, Int.mul_zero] at e1
    have := mul_zero_left e1 (by omega)
    omega
section
variable {E : List Sg} (A : AllW E)
include A
theorem Piece.ok {s e : Sg} (hs : s ∈ E) (p : Piece E s e) : Ok e :=
  ⟨A.far hs p.k1, A.far hs p.k2, (lm_lt (A.far hs p.k1) (A.far hs p.k2)).mpr p.lt⟩
theorem Piece.up {D X Y : Int} {s e : Sg} (hs : s ∈ E) (p : Piece E s e) (hD : 0 < D) (h : On D X Y e) : On D X Y s := by
  have o1 := A.on hs p.k1
  have o2 := A.on hs p.k2
  refine ⟨(line_piece (A.ok s hs) o1.turn0 o2.turn0 p.lt).mp h.line, ?_, ?_⟩
  · have a : 1 * lm s.1 ≤ lm e.1 := o1.lo
    have b := Int.mul_le_mul_of_nonneg_left (show lm s.1 ≤ lm e.1 by omega) (Int.le_of_lt hD)
    have := h.lo
    omega
  · have a : lm e.2 ≤ 1 * lm s.2 := o2.hi
    have b := Int.mul_le_mul_of_nonneg_left (show lm e.2 ≤ lm s.2 by omega) (Int.le_of_lt hD)
    have := h.hi
    omega
theorem Piece.down {D X Y : Int} {s e : Sg} (hs : s ∈ E) (p : Piece E s e) (h : On D X Y s) (lo : D * lm e.1 ≤ lam X Y) (hi : lam X Y ≤ D * lm e.2) : On D X Y e :=
  ⟨(line_piece (A.ok s hs) (A.on hs p.k1).turn0 (A.on hs p.k2).turn0 p.lt).mpr h.line, lo, hi⟩
/-- strictly within a piece, on one line: the same piece -/
theorem Piece.inside {D X Y : Int} {s t e f : Sg} (hs : s ∈ E) (ht : t ∈ E) (p : Piece E s e) (q : Piece E t f) (hD : 0 < D) (c : Col s t) (hf : On D X Y f)
    (lo : D * lm e.1 < lam X Y) (hi : lam X Y < D * lm e.2) : e = f := by
  have oks := A.ok s hs
  have okt := A.ok t ht
  have hc := c.symm oks
  have pt := q.up A ht hD hf
  have mono : ∀ u v : Int, D * u < D * v → u < v := fun u v z => Int.lt_of_mul_lt_mul_left z (Int.le_of_lt hD)
  have s1 := (A.on hs p.k1).lo
  have s2 := (A.on hs p.k2).hi
  have t1 := (A.on ht q.k1).lo
  have t2 := (A.on ht q.k2).hi
  have s1 : 1 * lm s.1 ≤ lm e.1 := s1
  have s2 : lm e.2 ≤ 1 * lm s.2 := s2
  have t1 : 1 * lm t.1 ≤ lm f.1 := t1
  have t2 : lm f.2 ≤ 1 * lm t.2 := t2
  have pl := p.lt
  have ql := q.lt
  have a1 : lm t.1 ≤ lm e.1 := by
    rcases Int.lt_or_le (lm e.1) (lm t.1) with z | z
    · have z2 := mono _ _ (Int.lt_of_le_of_lt pt.lo hi)
      have o : On 1 t.1.1 t.1.2 s := on_line c.1 (by omega) (by omega)
      rcases p.gap _ (A.endK ht hs (On.fst okt) o (.inl rfl)) with g | g <;> omega
    · exact z
  have a2 : lm e.2 ≤ lm t.2 := by
    rcases Int.lt_or_le (lm t.2) (lm e.2) with z | z
    · have z2 := mono _ _ (Int.lt_of_lt_of_le lo pt.hi)
      have o : On 1 t.2.1 t.2.2 s := on_line c.2 (by omega) (by omega)
      rcases p.gap _ (A.endK ht hs (On.snd okt) o (.inr (.inl rfl))) with g | g <;> omega
    · exact z
  have k1 : Kp E t e.1 := A.carry hs ht p.k1 (on_line (c.line oks (A.on hs p.k1).turn0) (by omega) (by omega))
  have k2 : Kp E t e.2 := A.carry hs ht p.k2 (on_line (c.line oks (A.on hs p.k2).turn0) (by omega) (by omega))
  have b1 : lm e.1 ≤ lm f.1 := by
    rcases q.gap _ k1 with g | g
    · exact g
    · have := mono _ _ (Int.lt_of_lt_of_le lo hf.hi); omega
  have b2 : lm f.2 ≤ lm e.2 := by
    rcases q.gap _ k2 with g | g
    · have := mono _ _ (Int.lt_of_le_of_lt hf.lo hi); omega
    · exact g
  have m1 : Kp E s f.1 := A.carry ht hs q.k1 (on_line (hc.line okt (A.on ht q.k1).turn0) (by omega) (by omega))
  have m2 : Kp E s f.2 := A.carry ht hs q.k2 (on_line (hc.line okt (A.on ht q.k2).turn0) (by omega) (by omega))
  have e1 : lm f.1 = lm e.1 := by rcases p.gap _ m1 with g | g <;> omega
  have e2 : lm f.2 = lm e.2 := by rcases p.gap _ m2 with g | g <;> omega
  exact Prod.ext (lm_inj (A.far hs p.k1) (A.far ht q.k1) e1.symm) (lm_inj (A.far hs p.k2) (A.far ht q.k2) e2.symm)
/-- a common point of two pieces: an end of both, or they are the same -/
theorem Piece.common {D X Y : Int} {s t e f : Sg} (hs : s ∈ E) (ht : t ∈ E) (p : Piece E s e) (q : Piece E t f) (hD : 0 < D) (he : On D X Y e) (hf : On D X Y f) :
    e = f ∨ ((X = D * e.1.1 ∧ Y = D * e.1.2 ∨ X = D * e.2.1 ∧ Y = D * e.2.2) ∧ (X = D * f.1.1 ∧ Y = D * f.1.2 ∨ X = D * f.2.1 ∧ Y = D * f.2.2)) := by
  have oke := p.ok A hs
  have okf := q.ok A ht
  have ps := p.up A hs hD he
  have qt := q.up A ht hD hf
  by_cases c : Col s t
  · by_cases i1 : D * lm e.1 < lam X Y ∧ lam X Y < D * lm e.2
    · exact .inl (p.inside A hs ht q hD c hf i1.1 i1.2)
    by_cases i2 : D * lm f.1 < lam X Y ∧ lam X Y < D * lm f.2
    · exact .inl (q.inside A ht hs p hD (c.symm (A.ok s hs)) he i2.1 i2.2).symm
    refine .inr ⟨?_, ?_⟩
    · have := he.lo; have := he.hi
      by_cases z : lam X Y = D * lm e.1
      · exact .inl (he.at_lo oke z)
      · exact .inr (he.at_hi oke (by omega))
    · have := hf.lo; have := hf.hi
      by_cases z : lam X Y = D * lm f.1
      · exact .inl (hf.at_lo okf z)
      · exact .inr (hf.at_hi okf (by omega))
  · have ne : s ≠ t := fun z => c (by rw [z]; exact Col.refl _)
    obtain ⟨r, e1, e2⟩ := A.wh s hs t ht ne D X Y hD ps qt c
    subst e1 e2
    have rs := on_unscaled ps hD
    have rt := on_unscaled qt hD
    have ks : Kp E s r := .inr (.inr ⟨t, ht, ne.symm, pm_int (A.ok s hs) (A.ok t ht) rs rt c⟩)
    have kt : Kp E t r := A.carry hs ht ks rt
    have fr := A.far hs ks
    have re := on_unscaled he hD
    have rf := on_unscaled hf hD
    have l1 : 1 * lm e.1 ≤ lm r := re.lo
    have l2 : lm r ≤ 1 * lm e.2 := re.hi
    have l3 : 1 * lm f.1 ≤ lm r := rf.lo
    have l4 : lm r ≤ 1 * lm f.2 := rf.hi
    refine .inr ⟨?_, ?_⟩
    · rcases p.gap _ ks with g | g
      · have := lm_inj fr (A.far hs p.k1) (by omega); rw [this]; exact .inl ⟨rfl, rfl⟩
      · have := lm_inj fr (A.far hs p.k2) (by omega); rw [this]; exact .inr ⟨rfl, rfl⟩
    · rcases q.gap _ kt with g | g
      · have := lm_inj fr (A.far ht q.k1) (by omega); rw [this]; exact .inl ⟨rfl, rfl⟩
      · have := lm_inj fr (A.far ht q.k2) (by omega); rw [this]; exact .inr ⟨rfl, rfl⟩
/-- so pieces have no cuts -/
theorem Piece.clean {s t e f : Sg} (hs : s ∈ E) (ht : t ∈ E) (p : Piece E s e) (q : Piece E t f) (ne : e ≠ f) {r : Pt} (h : r ∈ pm e f) : (r = e.1 ∨ r = e.2) ∧ (r = f.1 ∨ r = f.2) := by
  obtain ⟨D, X, Y, h1, h2, h3, h4, h5, -⟩ := pm_sound (p.ok A hs) (q.ok A ht) h
  have fin : ∀ k : Pt, X = D * k.1 ∧ Y = D * k.2 → r = k := fun k ⟨e1, e2⟩ => by
    rw [e1] at h4; rw [e2] at h5
    exact Prod.ext (h4.whole h1) (h5.whole h1)
  rcases p.common A hs ht q h1 h2 h3 with z | ⟨z1, z2⟩
  · exact absurd z ne
  · exact ⟨z1.imp (fin _) (fin _), z2.imp (fin _) (fin _)⟩
end
end K25

/-! A round of cuts: rows, pieces, chains, the potential. Core Lean alone. -/
namespace K25
/-! ### rounded points of a segment -/
theorem rnd_mono {D N r D' N' r' : Int} (hD : 0 < D) (hD' : 0 < D') (h : Rnd D N r) (k : Rnd D' N' r') (e : N * D' ≤ N' * D) : r ≤ r' := by
  obtain ⟨h1, h2⟩ := h
  obtain ⟨k1, k2⟩ := k
  have m1 := Int.mul_le_mul_of_nonneg_left h1 (Int.le_of_lt hD')
  have m2 := Int.mul_lt_mul_of_pos_left k2 hD
  have hp := Int.mul_pos hD hD'
  rcases Int.lt_or_le r' r with z | z
  · have := Int.mul_le_mul_of_nonneg_left (show r' + 1 ≤ r from z) (Int.le_of_lt hp)
    clear h1 h2 k1 k2
    grind
  · exact z
/-- r is a rounded point of e -/
def RndOn (e : Sg) (r : Pt) : Prop := ∃ D X Y, 0 < D ∧ On D X Y e ∧ Rnd D X r.1 ∧ Rnd D Y r.2
theorem CutOf.rnd {s t : Sg} {r : Pt} (h : CutOf s t r) : RndOn s r := by
  obtain ⟨D, X, Y, h1, h2, -, h4, h5, -⟩ := h
  exact ⟨D, X, Y, h1, h2, h4, h5⟩
theorem On.rnd {s : Sg} {r : Pt} (h : On 1 r.1 r.2 s) : RndOn s r := ⟨1, _, _, by omega, h, rnd_one _, rnd_one _⟩
def sgn (e : Sg) : Int := if e.1.2 ≤ e.2.2 then 1 else -1
theorem sgn_cases (e : Sg) : (sgn e = 1 ∧ e.1.2 ≤ e.2.2) ∨ (sgn e = -1 ∧ e.2.2 < e.1.2) := by
  unfold sgn; split <;> omega
theorem RndOn.box {e : Sg} (ok : Ok e) {r : Pt} (h : RndOn e r) : e.1.1 ≤ r.1 ∧ r.1 ≤ e.2.1 ∧ sgn e * e.1.2 ≤ sgn e * r.2 ∧ sgn e * r.2 ≤ sgn e * e.2.2 := by
  obtain ⟨D, X, Y, hD, on, rx, ry⟩ := h
  obtain ⟨b1, b2, b3, b4⟩ := on.box ok hD
  have lo : ∀ a N q : Int, Rnd D N q → D * a ≤ N → a ≤ q := fun a N q z w => rnd_mono (D := 1) (N := a) (r := a) (by omega) hD (rnd_one a) z (by rw [Int.mul_comm]; omega)
  have hi : ∀ b N q : Int, Rnd D N q → N ≤ D * b → q ≤ b := fun b N q z w => rnd_mono (D' := 1) (N' := b) (r' := b) hD (by omega) z (rnd_one b) (by rw [Int.mul_comm b]; omega)
  refine ⟨lo _ _ _ rx b1, hi _ _ _ rx b2, ?_, ?_⟩
  · rcases sgn_cases e with ⟨z, q⟩ | ⟨z, q⟩ <;> rw [z]
    · have := lo _ _ _ ry (b3 q).1; omega
    · have := hi _ _ _ ry (b4 (by omega)).2; omega
  · rcases sgn_cases e with ⟨z, q⟩ | ⟨z, q⟩ <;> rw [z]
    · have := hi _ _ _ ry (b3 q).2; omega
    · have := lo _ _ _ ry (b4 (by omega)).1; omega
theorem RndOn.far {e : Sg} (ok : Ok e) {r : Pt} (h : RndOn e r) : Far r := by
  obtain ⟨b1, b2, b3, b4⟩ := h.box ok
  have h1 := ok.1
  have h2 := ok.2.1
  unfold Far at *
  rcases sgn_cases e with ⟨z, q⟩ | ⟨z, q⟩ <;> rw [z] at b3 b4 <;> omega
theorem RndOn.mono {e : Sg} (ok : Ok e) {r r' : Pt} (h : RndOn e r) (k : RndOn e r') (lt : r.1 < r'.1) : sgn e * r.2 ≤ sgn e * r'.2 := by
  obtain ⟨D, X, Y, hD, on, rx, ry⟩ := h
  obtain ⟨D', X', Y', hD', on', rx', ry'⟩ := k
  have hp := ok.len_pos
  have e1 : X * D' < X' * D := by
    rcases Int.lt_or_le (X * D') (X' * D) with z | z
    · exact z
    · have := rnd_mono hD' hD rx' rx z; omega
  have hx := on.px
  have hx' := on'.px
  have hy := on.py
  have hy' := on'.py
  have dx : 0 ≤ e.2.1 - e.1.1 := by have := ok.2.2; unfold PLt at this; omega
  generalize lm e.1 = L1 at *
  generalize lam X Y = M at *
  generalize lam X' Y' = M' at *
  have k1 : len e * (X' * D - X * D') = (e.2.1 - e.1.1) * (M' * D - M * D') := by
    generalize len e = L at *; generalize e.1.1 = a at *; generalize e.2.1 = b at *
    clear hy hy' on on' rx ry rx' ry'
    grind
  have k2 : len e * (Y' * D - Y * D') = (e.2.2 - e.1.2) * (M' * D - M * D') := by
    generalize len e = L at *; generalize e.1.2 = a at *; generalize e.2.2 = b at *
    clear hx hx' on on' rx ry rx' ry'
    grind
  have p1 := Int.mul_pos hp (show 0 < X' * D - X * D' by omega)
  have hM : 0 < M' * D - M * D' := by
    rcases Int.lt_or_le 0 (M' * D - M * D') with z | z
    · exact z
    · have := Int.mul_nonneg dx (show 0 ≤ -(M' * D - M * D') by omega)
      rw [Int.mul_neg] at this
      omega
  rcases sgn_cases e with ⟨z, q⟩ | ⟨z, q⟩ <;> rw [z]
  · have p2 := Int.mul_nonneg (show 0 ≤ e.2.2 - e.1.2 by omega) (Int.le_of_lt hM)
    have p3 : 0 ≤ Y' * D - Y * D' := by
      rcases Int.lt_or_le (Y' * D - Y * D') 0 with w | w
      · have := Int.mul_pos hp (show 0 < -(Y' * D - Y * D') by omega)
        rw [Int.mul_neg] at this
        omega
      · exact w
    have := rnd_mono hD hD' ry ry' (by omega)
    omega
  · have p2 := Int.mul_nonneg (show 0 ≤ -(e.2.2 - e.1.2) by omega) (Int.le_of_lt hM)
    rw [Int.neg_mul] at p2
    have p3 : Y' * D - Y * D' ≤ 0 := by
      rcases Int.lt_or_le 0 (Y' * D - Y * D') with w | w
      · have := Int.mul_pos hp w
        omega
      · exact w
    have := rnd_mono hD' hD ry' ry (by omega)
    omega

/-! ### rows -/
def KLt (g : Int) (p q : Pt) : Prop := p.1 < q.1 ∨ (p.1 = q.1 ∧ g * p.2 < g * q.2)
/-- neighbours in a list -/
def Ch (R : Pt → Pt → Prop) : List Pt → Prop
  | p :: q :: r => R p q ∧ Ch R (q :: r)
  | _ => True
theorem Ch.mono {R S : Pt → Pt → Prop} : ∀ {l : List Pt}, (∀ p ∈ l, ∀ q ∈ l, R p q → S p q) → Ch R l → Ch S l
  | [], _, _ => trivial
  | [_], _, _ => trivial
  | p :: q :: r, h, k => ⟨h p (by simp) q (by simp) k.1, Ch.mono (l := q :: r) (fun a ha b hb => h a (List.mem_cons_of_mem _ ha) b (List.mem_cons_of_mem _ hb)) k.2⟩
theorem Ch.of_pairwise {R : Pt → Pt → Prop} : ∀ {l : List Pt}, l.Pairwise R → Ch R l
  | [], _ => trivial
  | [_], _ => trivial
  | p :: q :: r, h => ⟨(List.pairwise_cons.mp h).1 q (by simp), Ch.of_pairwise (List.pairwise_cons.mp h).2⟩
theorem Ch.append {R : Pt → Pt → Prop} {q : Pt} {r : List Pt} : ∀ {p : Pt} {m : List Pt}, Ch R (p :: (m ++ [q])) → Ch R (q :: r) → Ch R (p :: (m ++ q :: r))
  | _, [], h, k => ⟨h.1, k⟩
  | _, a :: m, h, k => ⟨h.1, Ch.append (p := a) (m := m) h.2 k⟩
theorem Ch.snoc {R : Pt → Pt → Prop} {x y : Pt} : ∀ {l : List Pt}, Ch R (l ++ [x]) → R x y → Ch R (l ++ [x, y])
  | [], _, h => ⟨h, trivial⟩
  | [a], k, h => ⟨k.1, h, trivial⟩
  | a :: b :: l, k, h => ⟨k.1, Ch.snoc (l := b :: l) k.2 h⟩
theorem Ch.reverse {R : Pt → Pt → Prop} (sy : ∀ p q, R p q → R q p) : ∀ {l : List Pt}, Ch R l → Ch R l.reverse
  | [], _ => trivial
  | [_], _ => trivial
  | p :: q :: r, h => by
    have ih := Ch.reverse sy (l := q :: r) h.2
    rw [List.reverse_cons] at ih
    rw [List.reverse_cons, List.reverse_cons, List.append_assoc]
    exact Ch.snoc ih (sy _ _ h.1)
def row (e : Sg) (cs : List Pt) : List Pt := e.1 :: (cs ++ [e.2])
/-- the segment of two points -/
def sg (p q : Pt) : Sg := if PLt q p then (q, p) else (p, q)
def pcs : List Pt → List Sg
  | p :: q :: r => sg p q :: pcs (q :: r)
  | _ => []
theorem sg_lt {p q : Pt} (h : PLt p q) : sg p q = (p, q) := if_neg h.asymm
theorem sg_gt {p q : Pt} (h : PLt q p) : sg p q = (q, p) := if_pos h
theorem sg_symm (p q : Pt) : sg p q = sg q p := by
  by_cases h : PLt p q
  · rw [sg_lt h, sg_gt h]
  · by_cases k : PLt q p
    · rw [sg_gt k, sg_lt k]
    · rw [PLt.total h k]
theorem ne_lt {p q : Pt} (h : p ≠ q) : PLt p q ∨ PLt q p := by
  by_cases a : PLt p q
  · exact .inl a
  · by_cases b : PLt q p
    · exact .inr b
    · exact absurd (PLt.total a b) h
theorem mem_pcs_ch : ∀ {l : List Pt}, Ch (fun p q => sg p q ∈ pcs l) l := by
  have key : ∀ (l : List Pt) (P : List Sg), (∀ e ∈ pcs l, e ∈ P) → Ch (fun p q => sg p q ∈ P) l := by
    intro l
    induction l with
    | nil => intro P _; trivial
    | cons p r ih =>
      intro P h
      cases r with
      | nil => trivial
      | cons q r => exact ⟨h _ (by simp [pcs]), ih P fun e he => h e (by simp only [pcs, List.mem_cons]; exact .inr he)⟩
  intro l
  exact key l _ fun e he => he
theorem of_mem_pcs {R : Pt → Pt → Prop} : ∀ {l : List Pt} {e : Sg}, Ch R l → e ∈ pcs l → ∃ p q, R p q ∧ e = sg p q ∧ p ∈ l ∧ q ∈ l
  | [], _, _, h => by simp [pcs] at h
  | [_], _, _, h => by simp [pcs] at h
  | p :: q :: r, e, c, h => by
    simp only [pcs, List.mem_cons] at h
    rcases h with h | h
    · exact ⟨p, q, c.1, h, by simp, by simp⟩
    · obtain ⟨x, y, a, b, m1, m2⟩ := of_mem_pcs (l := q :: r) c.2 h
      exact ⟨x, y, a, b, List.mem_cons_of_mem _ m1, List.mem_cons_of_mem _ m2⟩
theorem pcs_length : ∀ (p : Pt) (l : List Pt), (pcs (p :: l)).length = l.length
  | _, [] => rfl
  | _, q :: r => by simp only [pcs, List.length_cons]; rw [pcs_length q r]

/-! ### lengths -/
def l1 (p q : Pt) : Nat := (q.1 - p.1).natAbs + (q.2 - p.2).natAbs
def wt (e : Sg) : Nat := 2 * l1 e.1 e.2 - 1
theorem l1_symm (p q : Pt) : l1 p q = l1 q p := by unfold l1; omega
theorem l1_sg (p q : Pt) : l1 (sg p q).1 (sg p q).2 = l1 p q := by
  unfold sg; split
  · exact l1_symm _ _
  · rfl
theorem l1_pos {p q : Pt} (h : p ≠ q) : 1 ≤ l1 p q := by
  unfold l1
  rcases Nat.lt_or_ge 0 ((q.1 - p.1).natAbs + (q.2 - p.2).natAbs) with z | z
  · exact z
  · exact absurd (Prod.ext (by omega) (by omega)) h
def Mono (g : Int) (p q : Pt) : Prop := p.1 ≤ q.1 ∧ g * p.2 ≤ g * q.2 ∧ p ≠ q
theorem sum_row {g : Int} (hg : g = 1 ∨ g = -1) {z : Pt} : ∀ {p : Pt} {m : List Pt}, Ch (Mono g) (p :: (m ++ [z])) →
    p.1 ≤ z.1 ∧ g * p.2 ≤ g * z.2 ∧ ((pcs (p :: (m ++ [z]))).map wt).sum + (m.length + 1) = 2 * l1 p z
  | p, [], h => by
    have h := h.1
    have hl := l1_pos h.2.2
    refine ⟨h.1, h.2.1, ?_⟩
    simp only [List.nil_append, pcs, List.map_cons, List.map_nil, List.sum_cons, List.sum_nil, wt, l1_sg, List.length_nil]
    omega
  | p, a :: m, h => by
    obtain ⟨h0, h1⟩ := h
    obtain ⟨k1, k2, k3⟩ := sum_row hg (p := a) (m := m) h1
    have hl := l1_pos h0.2.2
    refine ⟨Int.le_trans h0.1 k1, Int.le_trans h0.2.1 k2, ?_⟩
    simp only [List.cons_append, pcs, List.map_cons, List.sum_cons, List.length_cons]
    have e1 : wt (sg p a) = 2 * l1 p a - 1 := by unfold wt; rw [l1_sg]
    rw [e1]
    have e2 : l1 p z = l1 p a + l1 a z := by
      have h01 := h0.1
      have h02 := h0.2.1
      unfold l1
      rcases hg with rfl | rfl <;> omega
    rw [e2]
    omega

/-! ### the cuts of a segment among others -/
structure Cuts (E : List Sg) (e : Sg) (cs : List Pt) : Prop where
  sorted : cs.Pairwise (KLt (sgn e))
  mem : ∀ r, r ∈ cs ↔ (r ≠ e.1 ∧ r ≠ e.2 ∧ ∃ t ∈ E, t ≠ e ∧ r ∈ pm e t)
section
variable {E : List Sg} (ok : ∀ s ∈ E, Ok s)
include ok
theorem Cuts.rnd {e : Sg} (he : e ∈ E) {cs : List Pt} (c : Cuts E e cs) {r : Pt} (h : r ∈ cs) : RndOn e r := by
  obtain ⟨_, _, t, ht, _, hr⟩ := (c.mem r).mp h
  exact (pm_sound (ok e he) (ok t ht) hr).rnd
theorem Cuts.rowRnd {e : Sg} (he : e ∈ E) {cs : List Pt} (c : Cuts E e cs) {r : Pt} (h : r ∈ row e cs) : RndOn e r := by
  unfold row at h
  simp only [List.mem_cons, List.mem_append, List.not_mem_nil, or_false] at h
  rcases h with h | h | h
  · rw [h]; exact (On.fst (ok e he)).rnd
  · exact c.rnd ok he h
  · rw [h]; exact (On.snd (ok e he)).rnd
theorem klt_of_le {g : Int} {p q : Pt} (hg : g = 1 ∨ g = -1) (h : p.1 ≤ q.1) (k : g * p.2 ≤ g * q.2) (ne : p ≠ q) : KLt g p q := by
  unfold KLt
  rcases Int.lt_or_le p.1 q.1 with z | z
  · exact .inl z
  · refine .inr ⟨by omega, ?_⟩
    rcases Int.lt_or_le (g * p.2) (g * q.2) with w | w
    · exact w
    · exact absurd (Prod.ext (by omega) (by rcases hg with rfl | rfl <;> omega)) ne
theorem sgn_pm (e : Sg) : sgn e = 1 ∨ sgn e = -1 := (sgn_cases e).imp (·.1) (·.1)
omit ok in
theorem KLt.ne {g : Int} {p q : Pt} (h : KLt g p q) : p ≠ q := by
  rintro rfl; unfold KLt at h; omega
theorem Cuts.row_sorted {e : Sg} (he : e ∈ E) {cs : List Pt} (c : Cuts E e cs) : (row e cs).Pairwise (KLt (sgn e)) := by
  have oke := ok e he
  have hs := sgn_pm ok e
  unfold row
  rw [List.pairwise_cons]
  refine ⟨fun q hq => ?_, ?_⟩
  · rcases List.mem_append.mp hq with h | h
    · obtain ⟨b1, _, b3, _⟩ := (c.rnd ok he h).box oke
      exact klt_of_le ok hs b1 b3 fun z => ((c.mem q).mp h).1 z.symm
    · rw [List.mem_singleton] at h
      subst h
      obtain ⟨b1, _, b3, _⟩ := (On.rnd (On.snd oke)).box oke
      exact klt_of_le ok hs b1 b3 fun z => by have := oke.lt; rw [z] at this; omega
  · rw [List.pairwise_append]
    refine ⟨c.sorted, by simp, fun p hp q hq => ?_⟩
    rw [List.mem_singleton] at hq
    subst hq
    obtain ⟨_, b2, _, b4⟩ := (c.rnd ok he hp).box oke
    exact klt_of_le ok hs b2 b4 fun z => ((c.mem p).mp hp).2.1 z
theorem Cuts.row_mono {e : Sg} (he : e ∈ E) {cs : List Pt} (c : Cuts E e cs) : Ch (Mono (sgn e)) (row e cs) := by
  refine Ch.mono (fun p hp q hq h => ?_) (Ch.of_pairwise (c.row_sorted ok he))
  refine ⟨?_, ?_, h.ne⟩
  · unfold KLt at h; omega
  · rcases h with h | h
    · exact (c.rowRnd ok he hp).mono (ok e he) (c.rowRnd ok he hq) h
    · exact Int.le_of_lt h.2
/-- the weights of the pieces -/
theorem Cuts.sum {e : Sg} (he : e ∈ E) {cs : List Pt} (c : Cuts E e cs) : ((pcs (row e cs)).map wt).sum + cs.length = wt e := by
  obtain ⟨_, _, h⟩ := sum_row (sgn_pm ok e) (c.row_mono ok he)
  have e1 : wt e = 2 * l1 e.1 e.2 - 1 := rfl
  unfold row at *
  omega
theorem Cuts.far {e : Sg} (he : e ∈ E) {cs : List Pt} (c : Cuts E e cs) {r : Pt} (h : r ∈ row e cs) : Far r := (c.rowRnd ok he h).far (ok e he)
theorem sg_ok {p q : Pt} (hp : Far p) (hq : Far q) (ne : p ≠ q) : Ok (sg p q) := by
  rcases ne_lt ne with h | h
  · rw [sg_lt h]; exact ⟨hp, hq, h⟩
  · rw [sg_gt h]; exact ⟨hq, hp, h⟩
/-- pieces are well formed -/
theorem Cuts.piece_ok {e : Sg} (he : e ∈ E) {cs : List Pt} (c : Cuts E e cs) {f : Sg} (h : f ∈ pcs (row e cs)) : Ok f := by
  obtain ⟨p, q, m, rfl, h1, h2⟩ := of_mem_pcs (c.row_mono ok he) h
  exact sg_ok ok (c.far ok he h1) (c.far ok he h2) m.2.2
end
theorem wt_pos {e : Sg} (ok : Ok e) : 1 ≤ wt e := by
  have := l1_pos (p := e.1) (q := e.2) fun z => by have := ok.lt; rw [z] at this; omega
  unfold wt; omega
end K25

/-! What a round does to edges and chains; the whole case; the law's own tests. Core Lean alone. -/
namespace K25
def pot (E : List Sg) : Nat := (E.map wt).sum
theorem pot_cons (e : Sg) (E : List Sg) : pot (e :: E) = wt e + pot E := by unfold pot; simp
theorem pot_append (E F : List Sg) : pot (E ++ F) = pot E + pot F := by unfold pot; simp
theorem pot_perm {E F : List Sg} (h : E.Perm F) : pot E = pot F := by unfold pot; exact (h.map wt).sum_nat
theorem pot_le : ∀ {E F : List Sg}, E.Nodup → (∀ e ∈ E, e ∈ F) → pot E ≤ pot F
  | [], _, _, _ => Nat.zero_le _
  | e :: E, F, hn, hs => by
    have he : e ∈ F := hs e (by simp)
    have hp := List.perm_cons_erase he
    rw [pot_perm hp, pot_cons, pot_cons]
    obtain ⟨h1, h2⟩ := List.nodup_cons.mp hn
    have := pot_le (E := E) (F := F.erase e) h2 fun x hx => (List.mem_erase_of_ne (fun z => h1 (by rw [← z]; exact hx))).mpr (hs x (List.mem_cons_of_mem _ hx))
    omega
theorem len_le_pot : ∀ {E : List Sg}, (∀ e ∈ E, 1 ≤ wt e) → E.length ≤ pot E
  | [], _ => Nat.zero_le _
  | e :: E, h => by
    have := len_le_pot (E := E) fun x hx => h x (List.mem_cons_of_mem _ hx)
    have := h e (by simp)
    rw [pot_cons, List.length_cons]
    omega
/-- all the pieces -/
def cutUp (c : Sg → List Pt) (E : List Sg) : List Sg := E.flatMap fun e => pcs (row e (c e))
theorem mem_cutUp {c : Sg → List Pt} {E : List Sg} {f : Sg} : f ∈ cutUp c E ↔ ∃ e ∈ E, f ∈ pcs (row e (c e)) := List.mem_flatMap
theorem pot_cutUp {c : Sg → List Pt} {G : List Sg} (ok : ∀ s ∈ G, Ok s) : ∀ {E : List Sg}, (∀ e ∈ E, e ∈ G ∧ Cuts G e (c e)) → pot (cutUp c E) + (E.map fun e => (c e).length).sum = pot E
  | [], _ => rfl
  | e :: E, h => by
    have ih := pot_cutUp ok (E := E) fun x hx => h x (List.mem_cons_of_mem _ hx)
    obtain ⟨he, hc⟩ := h e (by simp)
    have hs := hc.sum ok he
    have e1 : cutUp c (e :: E) = pcs (row e (c e)) ++ cutUp c E := List.flatMap_cons
    rw [e1, pot_append, pot_cons, List.map_cons, List.sum_cons]
    have e2 : pot (pcs (row e (c e))) = ((pcs (row e (c e))).map wt).sum := rfl
    omega
theorem mem_length_le {c : Sg → List Pt} : ∀ {E : List Sg} {e : Sg}, e ∈ E → (c e).length ≤ (E.map fun e => (c e).length).sum
  | x :: E, e, h => by
    rw [List.map_cons, List.sum_cons]
    rcases List.mem_cons.mp h with z | z
    · rw [z]; omega
    · have := mem_length_le (c := c) z; omega

/-! ### chains -/
def InBox (s : Sg) (r : Pt) : Prop := s.1.1 ≤ r.1 ∧ r.1 ≤ s.2.1 ∧ min s.1.2 s.2.2 ≤ r.2 ∧ r.2 ≤ max s.1.2 s.2.2
theorem RndOn.inBox {e : Sg} (ok : Ok e) {r : Pt} (h : RndOn e r) : InBox e r := by
  obtain ⟨b1, b2, b3, b4⟩ := h.box ok
  unfold InBox
  rcases sgn_cases e with ⟨z, q⟩ | ⟨z, q⟩ <;> rw [z] at b3 b4 <;> omega
theorem InBox.trans {s : Sg} {p q r : Pt} (hp : InBox s p) (hq : InBox s q) (h : InBox (sg p q) r) (hx : PLt p q ∨ PLt q p) : InBox s r := by
  unfold InBox at *
  rcases hx with z | z
  · rw [sg_lt z] at h; simp only at h; omega
  · rw [sg_gt z] at h; simp only at h; omega
structure Chain (E : List Sg) (s : Sg) (ch : List Pt) : Prop where
  form : ∃ m, ch = s.1 :: (m ++ [s.2])
  nb : Ch (fun p q => p ≠ q ∧ sg p q ∈ E) ch
  box : ∀ r ∈ ch, InBox s r
theorem Ok.ne {s : Sg} (ok : Ok s) : s.1 ≠ s.2 := fun z => by have := ok.lt; rw [z] at this; omega
theorem Chain.start {E : List Sg} {s : Sg} (ok : Ok s) (h : s ∈ E) : Chain E s [s.1, s.2] where
  form := ⟨[], rfl⟩
  nb := ⟨⟨ok.ne, by rw [sg_lt ok.2.2]; exact h⟩, trivial⟩
  box := fun r hr => by
    simp only [List.mem_cons, List.not_mem_nil, or_false] at hr
    rcases hr with rfl | rfl
    · exact (On.fst ok).rnd.inBox ok
    · exact (On.snd ok).rnd.inBox ok
def lenTail (c : Sg → List Pt) : List Pt → List Pt
  | p :: q :: r => (if PLt p q then c (sg p q) else (c (sg p q)).reverse) ++ q :: lenTail c (q :: r)
  | _ => []
def lengthen (c : Sg → List Pt) : List Pt → List Pt
  | p :: r => p :: lenTail c (p :: r)
  | [] => []
theorem Chain.step {E E' : List Sg} {c : Sg → List Pt} {s : Sg} {ch : List Pt} (ok : ∀ e ∈ E, Ok e) (hc : ∀ e ∈ E, Cuts E e (c e)) (hE : ∀ e ∈ E, ∀ f ∈ pcs (row e (c e)), f ∈ E') (h : Chain E s ch) : Chain E' s (lengthen c ch) := by
  have main : ∀ (z : Pt) (m : List Pt) (p : Pt), Ch (fun p q => p ≠ q ∧ sg p q ∈ E) (p :: (m ++ [z])) → (∀ r ∈ p :: (m ++ [z]), InBox s r) →
      (∃ m', lenTail c (p :: (m ++ [z])) = m' ++ [z]) ∧ Ch (fun p q => p ≠ q ∧ sg p q ∈ E') (p :: lenTail c (p :: (m ++ [z]))) ∧ ∀ r ∈ lenTail c (p :: (m ++ [z])), InBox s r := by
    intro z m
    have one : ∀ p q : Pt, (p ≠ q ∧ sg p q ∈ E) → InBox s p → InBox s q →
        Ch (fun p q => p ≠ q ∧ sg p q ∈ E') (p :: ((if PLt p q then c (sg p q) else (c (sg p q)).reverse) ++ [q])) ∧ ∀ r ∈ (if PLt p q then c (sg p q) else (c (sg p q)).reverse), InBox s r := by
      intro p q ⟨ne, he⟩ bp bq
      have hcc := hc _ he
      have hin : ∀ r ∈ c (sg p q), InBox s r := fun r hr => InBox.trans bp bq ((hcc.rnd ok he hr).inBox (ok _ he)) (ne_lt ne)
      have hch : Ch (fun p q => p ≠ q ∧ sg p q ∈ E') (row (sg p q) (c (sg p q))) := by
        have h1 := mem_pcs_ch (l := row (sg p q) (c (sg p q)))
        have h2 := hcc.row_mono ok he
        have both : ∀ (l : List Pt), Ch (fun a b => sg a b ∈ pcs (row (sg p q) (c (sg p q)))) l → Ch (Mono (sgn (sg p q))) l → Ch (fun p q => p ≠ q ∧ sg p q ∈ E') l := by
          intro l
          induction l with
          | nil => intro _ _; trivial
          | cons a r ih =>
            intro k1 k2
            cases r with
            | nil => trivial
            | cons b r => exact ⟨⟨k2.1.2.2, hE _ he _ k1.1⟩, ih k1.2 k2.2⟩
        exact both _ h1 h2
      by_cases z : PLt p q
      · rw [if_pos z]
        refine ⟨?_, hin⟩
        have e : row (sg p q) (c (sg p q)) = p :: (c (sg p q) ++ [q]) := by rw [sg_lt z]; rfl
        rw [e] at hch
        exact hch
      · rw [if_neg z]
        have z' : PLt q p := (ne_lt ne).resolve_left z
        refine ⟨?_, fun r hr => hin r (List.mem_reverse.mp hr)⟩
        have e : row (sg p q) (c (sg p q)) = q :: (c (sg p q) ++ [p]) := by rw [sg_gt z']; rfl
        rw [e] at hch
        have hr := Ch.reverse (R := fun p q => p ≠ q ∧ sg p q ∈ E') (fun a b hab => ⟨hab.1.symm, by rw [sg_symm]; exact hab.2⟩) hch
        rw [List.reverse_cons, List.reverse_append] at hr
        exact hr
    induction m with
    | nil =>
      intro p hnb hbox
      obtain ⟨k1, k2⟩ := one p z hnb.1 (hbox p (by simp)) (hbox z (by simp))
      refine ⟨⟨_, rfl⟩, k1, fun r hr => ?_⟩
      have hr : r ∈ (if PLt p z then c (sg p z) else (c (sg p z)).reverse) ++ [z] := hr
      rcases List.mem_append.mp hr with a | a
      · exact k2 r a
      · rw [List.mem_singleton] at a; rw [a]; exact hbox z (by simp)
    | cons q m ih =>
      intro p hnb hbox
      obtain ⟨k1, k2⟩ := one p q hnb.1 (hbox p (by simp)) (hbox q (by simp))
      obtain ⟨⟨m', e⟩, i2, i3⟩ := ih q hnb.2 fun r hr => hbox r (List.mem_cons_of_mem _ hr)
      have el : lenTail c (p :: (q :: m ++ [z])) = (if PLt p q then c (sg p q) else (c (sg p q)).reverse) ++ q :: lenTail c (q :: (m ++ [z])) := rfl
      refine ⟨⟨(if PLt p q then c (sg p q) else (c (sg p q)).reverse) ++ q :: m', by rw [el, e]; simp⟩, ?_, fun r hr => ?_⟩
      · rw [el]
        exact Ch.append k1 i2
      · rw [el] at hr
        rcases List.mem_append.mp hr with a | a
        · exact k2 r a
        · rcases List.mem_cons.mp a with b | b
          · rw [b]; exact hbox q (by simp)
          · exact i3 r b
  obtain ⟨m, rfl⟩ := h.form
  obtain ⟨⟨m', e⟩, k2, k3⟩ := main s.2 m s.1 h.nb h.box
  refine ⟨⟨m', ?_⟩, k2, fun r hr => ?_⟩
  · show s.1 :: lenTail c (s.1 :: (m ++ [s.2])) = _
    rw [e]
  · have hr : r ∈ s.1 :: lenTail c (s.1 :: (m ++ [s.2])) := hr
    rcases List.mem_cons.mp hr with a | a
    · rw [a]; exact h.box _ (by simp)
    · exact k3 r a
theorem Ch.last {R : Pt → Pt → Prop} {z : Pt} : ∀ {p : Pt} {m : List Pt}, Ch R (p :: (m ++ [z])) → ∃ y, R y z
  | p, [], h => ⟨p, h.1⟩
  | _, a :: m, h => Ch.last (p := a) (m := m) h.2
/-- the ends of the segment are ends of edges -/
theorem Chain.ends {E : List Sg} {s : Sg} {ch : List Pt} (h : Chain E s ch) : (∃ e ∈ E, s.1 = e.1 ∨ s.1 = e.2) ∧ ∃ e ∈ E, s.2 = e.1 ∨ s.2 = e.2 := by
  have key : ∀ p q : Pt, (p = (sg p q).1 ∨ p = (sg p q).2) ∧ (q = (sg p q).1 ∨ q = (sg p q).2) := fun p q => by
    unfold sg
    split
    · exact ⟨.inr rfl, .inl rfl⟩
    · exact ⟨.inl rfl, .inr rfl⟩
  obtain ⟨m, rfl⟩ := h.form
  constructor
  · cases m with
    | nil => exact ⟨_, h.nb.1.2, (key _ _).1⟩
    | cons a m => exact ⟨_, h.nb.1.2, (key _ _).1⟩
  · obtain ⟨y, _, hy⟩ := Ch.last h.nb
    exact ⟨_, hy, (key _ _).2⟩

/-! ### the whole case -/
theorem Cuts.kp {E : List Sg} {e : Sg} {cs : List Pt} (c : Cuts E e cs) {r : Pt} : Kp E e r ↔ r ∈ row e cs := by
  unfold row Kp
  simp only [List.mem_cons, List.mem_append, List.not_mem_nil, or_false]
  constructor
  · rintro (h | h | h)
    · exact .inl h
    · exact .inr (.inr h)
    · by_cases a : r = e.1
      · exact .inl a
      · by_cases b : r = e.2
        · exact .inr (.inr b)
        · exact .inr (.inl ((c.mem r).mpr ⟨a, b, h⟩))
  · rintro (h | h | h)
    · exact .inl h
    · exact .inr (.inr ((c.mem r).mp h).2.2)
    · exact .inr (.inl h)
theorem lm_of_klt {e : Sg} (ok : Ok e) {p q : Pt} (hp : On 1 p.1 p.2 e) (hq : On 1 q.1 q.2 e) (h : KLt (sgn e) p q) : lm p < lm q := by
  have fp := hp.far ok
  have fq := hq.far ok
  have hx := hp.px
  have hx' := hq.px
  have o := ok.2.2
  unfold Far at fp fq
  rcases h with h | ⟨h1, h2⟩
  · show lam _ _ < lam _ _; unfold lam; omega
  · have e1 : (e.2.1 - e.1.1) * (lm p - lm q) = 0 := by
      have : (e.2.1 - e.1.1) * (lm p - 1 * lm e.1) = (e.2.1 - e.1.1) * (lm q - 1 * lm e.1) := by
        rw [← hx, ← hx', h1]
      rw [Int.mul_sub] at this ⊢
      rw [Int.mul_sub] at this
      omega
    have e2 : lm p - lm q = p.2 - q.2 := by show lam _ _ - lam _ _ = _; unfold lam; omega
    rcases Int.mul_eq_zero.mp e1 with z | z
    · have : sgn e = 1 := by unfold sgn; unfold PLt at o; rw [if_pos (by omega)]
      rw [this] at h2
      omega
    · rcases sgn_cases e with ⟨w, _⟩ | ⟨w, _⟩ <;> rw [w] at h2 <;> omega
theorem piece_gap : ∀ {l : List Pt} {e : Sg}, l.Pairwise (fun p q => lm p < lm q) → (∀ p ∈ l, Far p) → e ∈ pcs l → e.1 ∈ l ∧ e.2 ∈ l ∧ lm e.1 < lm e.2 ∧ ∀ r ∈ l, lm r ≤ lm e.1 ∨ lm e.2 ≤ lm r
  | [], _, _, _, h => by simp [pcs] at h
  | [_], _, _, _, h => by simp [pcs] at h
  | p :: q :: r, e, hs, hf, h => by
    obtain ⟨s1, s2⟩ := List.pairwise_cons.mp hs
    obtain ⟨s3, _⟩ := List.pairwise_cons.mp s2
    simp only [pcs, List.mem_cons] at h
    rcases h with h | h
    · have lt := s1 q (by simp)
      have pl : PLt p q := (lm_lt (hf p (by simp)) (hf q (by simp))).mpr lt
      rw [sg_lt pl] at h
      subst h
      refine ⟨by simp, by simp, lt, fun x hx => ?_⟩
      rcases List.mem_cons.mp hx with z | z
      · rw [z]; exact .inl (Int.le_refl _)
      · rcases List.mem_cons.mp z with w | w
        · rw [w]; exact .inr (Int.le_refl _)
        · exact .inr (Int.le_of_lt (s3 x w))
    · obtain ⟨a, b, c, d⟩ := piece_gap (l := q :: r) s2 (fun x hx => hf x (List.mem_cons_of_mem _ hx)) h
      refine ⟨List.mem_cons_of_mem _ a, List.mem_cons_of_mem _ b, c, fun x hx => ?_⟩
      rcases List.mem_cons.mp hx with z | z
      · rw [z]; exact .inl (Int.le_of_lt (s1 _ a))
      · exact d x z
theorem piece_cover {D v : Int} {z : Pt} : ∀ {p : Pt} {m : List Pt}, (p :: (m ++ [z])).Pairwise (fun p q => lm p < lm q) → (∀ x ∈ p :: (m ++ [z]), Far x) → D * lm p ≤ v → v ≤ D * lm z → ∃ e ∈ pcs (p :: (m ++ [z])), D * lm e.1 ≤ v ∧ v ≤ D * lm e.2
  | p, [], hs, hf, lo, hi => by
    have lt := (List.pairwise_cons.mp hs).1 z (by simp)
    have pl : PLt p z := (lm_lt (hf p (by simp)) (hf z (by simp))).mpr lt
    exact ⟨sg p z, by simp [pcs], by rw [sg_lt pl]; exact ⟨lo, hi⟩⟩
  | p, q :: m, hs, hf, lo, hi => by
    have lt := (List.pairwise_cons.mp hs).1 q (by simp)
    have pl : PLt p q := (lm_lt (hf p (by simp)) (hf q (by simp))).mpr lt
    rcases Int.le_total v (D * lm q) with w | w
    · exact ⟨sg p q, by simp [pcs], by rw [sg_lt pl]; exact ⟨lo, w⟩⟩
    · obtain ⟨e, he, h1, h2⟩ := piece_cover (p := q) (m := m) (List.pairwise_cons.mp hs).2 (fun x hx => hf x (List.mem_cons_of_mem _ hx)) w hi
      exact ⟨e, by simp only [List.cons_append, pcs, List.mem_cons]; exact .inr he, h1, h2⟩
section
variable {E : List Sg} (A : AllW E)
include A
theorem row_lm {e : Sg} (he : e ∈ E) {cs : List Pt} (c : Cuts E e cs) : (row e cs).Pairwise (fun p q => lm p < lm q) ∧ ∀ p ∈ row e cs, Far p := by
  refine ⟨List.Pairwise.imp_of_mem (fun {p q} hp hq h => ?_) (c.row_sorted A.ok he), fun p hp => c.far A.ok he hp⟩
  exact lm_of_klt (A.ok e he) (A.on he (c.kp.mpr hp)) (A.on he (c.kp.mpr hq)) h
theorem pcs_piece {e : Sg} (he : e ∈ E) {cs : List Pt} (c : Cuts E e cs) {f : Sg} (h : f ∈ pcs (row e cs)) : Piece E e f := by
  obtain ⟨h1, h2⟩ := row_lm A he c
  obtain ⟨a, b, d, g⟩ := piece_gap h1 h2 h
  exact ⟨c.kp.mpr a, c.kp.mpr b, d, fun r hr => g r (c.kp.mp hr)⟩
theorem whole_clean {c : Sg → List Pt} (hc : ∀ e ∈ E, Cuts E e (c e)) {E' : List Sg} (hE : ∀ f, f ∈ E' ↔ f ∈ cutUp c E) {f : Sg} (hf : f ∈ E') {cs : List Pt} (k : Cuts E' f cs) : cs = [] := by
  cases cs with
  | nil => rfl
  | cons r cs =>
    obtain ⟨n1, n2, g, hg, ne, hr⟩ := (k.mem r).mp (by simp)
    obtain ⟨s, hs, ps⟩ := mem_cutUp.mp ((hE f).mp hf)
    obtain ⟨t, ht, pt⟩ := mem_cutUp.mp ((hE g).mp hg)
    rcases ((pcs_piece A hs (hc s hs) ps).clean A hs ht (pcs_piece A ht (hc t ht) pt) ne.symm hr).1 with z | z
    · exact absurd z n1
    · exact absurd z n2
theorem whole_cover {c : Sg → List Pt} (hc : ∀ e ∈ E, Cuts E e (c e)) {E' : List Sg} (hE : ∀ f, f ∈ E' ↔ f ∈ cutUp c E) {D X Y : Int} (hD : 0 < D) : (∃ s ∈ E, On D X Y s) ↔ ∃ e ∈ E', On D X Y e := by
  constructor
  · rintro ⟨s, hs, h⟩
    obtain ⟨h1, h2⟩ := row_lm A hs (hc s hs)
    obtain ⟨e, he, lo, hi⟩ := piece_cover h1 h2 h.lo h.hi
    exact ⟨e, (hE e).mpr (mem_cutUp.mpr ⟨s, hs, he⟩), (pcs_piece A hs (hc s hs) he).down A hs h lo hi⟩
  · rintro ⟨e, he, h⟩
    obtain ⟨s, hs, ps⟩ := mem_cutUp.mp ((hE e).mp he)
    exact ⟨s, hs, (pcs_piece A hs (hc s hs) ps).up A hs hD h⟩
end

/-! ### the law's own tests -/
/-- _law_on, of a segment made larger -/
def LawOn (D X Y : Int) (s : Sg) : Prop :=
  turn (s.1.1 * D, s.1.2 * D) (s.2.1 * D, s.2.2 * D) (X, Y) = 0 ∧ min (s.1.1 * D) (s.2.1 * D) ≤ X ∧ X ≤ max (s.1.1 * D) (s.2.1 * D) ∧ min (s.1.2 * D) (s.2.2 * D) ≤ Y ∧ Y ≤ max (s.1.2 * D) (s.2.2 * D)
instance (D X Y : Int) (s : Sg) : Decidable (LawOn D X Y s) := by unfold LawOn; infer_instance
theorem lawOn_iff {D X Y : Int} {s : Sg} (ok : Ok s) (hD : 0 < D) : LawOn D X Y s ↔ On D X Y s := by
  have hp := ok.len_pos
  have o := ok.2.2
  have et : turn (s.1.1 * D, s.1.2 * D) (s.2.1 * D, s.2.2 * D) (X, Y) = D * ((s.2.1 - s.1.1) * (Y - D * s.1.2) - (s.2.2 - s.1.2) * (X - D * s.1.1)) := by
    unfold turn; simp only; grind
  unfold LawOn
  rw [et]
  have cm : ∀ a : Int, a * D = D * a := fun a => Int.mul_comm a D
  rw [cm s.1.1, cm s.2.1, cm s.1.2, cm s.2.2]
  have dx : 0 ≤ s.2.1 - s.1.1 := by unfold PLt at o; omega
  have dx' := Int.mul_le_mul_of_nonneg_left (show s.1.1 ≤ s.2.1 by omega) (Int.le_of_lt hD)
  constructor
  · rintro ⟨h, x1, x2, y1, y2⟩
    have hl : (s.2.1 - s.1.1) * (Y - D * s.1.2) = (s.2.2 - s.1.2) * (X - D * s.1.1) := by
      have := mul_zero_left h (by omega)
      omega
    have x1 : D * s.1.1 ≤ X := by omega
    have x2 : X ≤ D * s.2.1 := by omega
    rcases Int.lt_or_le 0 (s.2.1 - s.1.1) with z | z
    · have p1 := Int.mul_nonneg (Int.le_of_lt hp) (show 0 ≤ X - D * s.1.1 by omega)
      have p2 := Int.mul_nonneg (Int.le_of_lt hp) (show 0 ≤ D * s.2.1 - X by omega)
      have e1 : (s.2.1 - s.1.1) * (lam X Y - D * lm s.1) = len s * (X - D * s.1.1) := by
        show (s.2.1 - s.1.1) * (lam X Y - D * lam s.1.1 s.1.2) = (lam s.2.1 s.2.2 - lam s.1.1 s.1.2) * _
        unfold lam
        generalize s.1.1 = a1 at *; generalize s.1.2 = a2 at *; generalize s.2.1 = b1 at *; generalize s.2.2 = b2 at *
        clear et cm dx' x1 x2 y1 y2 p1 p2 hp o ok h
        grind
      have e2 : (s.2.1 - s.1.1) * (D * lm s.2 - lam X Y) = len s * (D * s.2.1 - X) := by
        have : len s * (D * s.2.1 - X) = len s * D * (s.2.1 - s.1.1) - len s * (X - D * s.1.1) := by grind
        rw [this, ← e1]
        show _ = (lm s.2 - lm s.1) * D * _ - _
        grind
      refine ⟨hl, ?_, ?_⟩
      · rcases Int.lt_or_le (lam X Y) (D * lm s.1) with w | w
        · have := Int.mul_pos z (show 0 < -(lam X Y - D * lm s.1) by omega)
          rw [Int.mul_neg] at this; omega
        · exact w
      · rcases Int.lt_or_le (D * lm s.2) (lam X Y) with w | w
        · have := Int.mul_pos z (show 0 < -(D * lm s.2 - lam X Y) by omega)
          rw [Int.mul_neg] at this; omega
        · exact w
    · have e0 : s.2.1 = s.1.1 := by omega
      have o2 : s.1.2 < s.2.2 := by unfold PLt at o; omega
      have yy := Int.mul_le_mul_of_nonneg_left (Int.le_of_lt o2) (Int.le_of_lt hD)
      rw [e0] at x2
      have ex : X = D * s.1.1 := by omega
      refine ⟨hl, ?_, ?_⟩
      · show D * lam s.1.1 s.1.2 ≤ lam X Y
        unfold lam; rw [ex, Int.mul_add, Int.mul_left_comm]; omega
      · show lam X Y ≤ D * lam s.2.1 s.2.2
        unfold lam; rw [ex, e0, Int.mul_add, Int.mul_left_comm D]; omega
  · intro h
    obtain ⟨b1, b2, b3, b4⟩ := h.box ok hD
    refine ⟨by rw [h.line]; grind, by omega, by omega, ?_, ?_⟩
    · rcases Int.le_total s.1.2 s.2.2 with z | z
      · have := b3 z; omega
      · have := b4 z; omega
    · rcases Int.le_total s.1.2 s.2.2 with z | z
      · have := b3 z; omega
      · have := b4 z; omega
/-- _law_cross and the test of its answer: no proper crossing, or a whole one -/
def LawWhole (s t : Sg) : Prop :=
  let one := turn s.1 s.2 t.1
  let two := turn s.1 s.2 t.2
  one * two ≥ 0 ∨ turn t.1 t.2 s.1 * turn t.1 t.2 s.2 ≥ 0 ∨
    ((lowest (t.1.1 * (one - two) + (t.2.1 - t.1.1) * one) (one - two)).2 ≤ 1 ∧ (lowest (t.1.2 * (one - two) + (t.2.2 - t.1.2) * one) (one - two)).2 ≤ 1)
theorem prod_neg {a b : Int} (ha : a ≠ 0) (hb : b ≠ 0) (h : ¬ Beside a b) : a * b < 0 := by
  unfold Beside at h
  rcases Int.lt_or_le 0 a with z | z
  · have := Int.mul_pos z (show 0 < -b by omega); rw [Int.mul_neg] at this; omega
  · have := Int.mul_pos (show 0 < -a by omega) (show 0 < b by omega); rw [Int.neg_mul] at this; omega
theorem LawWhole.whole {s t : Sg} (hs : Ok s) (ht : Ok t) (h : LawWhole s t) : Whole s t := by
  intro D X Y hD a b nc
  have nc' : ¬ Col t s := fun z => nc (Col.symm ht z)
  rcases met_complete ht hs hD b a nc' with ⟨p, -, e1, e2⟩ | ⟨n1, n2, w, -, hw, e1, e2, ⟨ew, en1, en2⟩, c1, c2, c3, c4⟩
  · exact ⟨p, e1, e2⟩
  · have q1 := prod_neg c3 c4 (not_beside ht hD a b)
    have q2 := prod_neg c1 c2 (not_beside hs hD b a)
    unfold LawWhole at h
    simp only at h
    rcases h with h | h | ⟨h1, h2⟩
    · omega
    · omega
    · rw [← ew] at h1 h2
      rw [← en1] at h1
      rw [← en2] at h2
      obtain ⟨g1, _, k1, k2, k3⟩ := lowest_spec n1 w hw
      obtain ⟨g2, _, m1, m2, m3⟩ := lowest_spec n2 w hw
      have d1 : (lowest n1 w).2 = 1 := by omega
      have d2 : (lowest n2 w).2 = 1 := by omega
      rw [d1, Int.mul_one] at k2
      rw [d2, Int.mul_one] at m2
      refine ⟨((lowest n1 w).1, (lowest n2 w).1), ?_, ?_⟩
      · have k1' : n1 = w * (lowest n1 w).1 := by rw [k2]; exact k2 ▸ k1
        refine mul_left_can (a := w) hw ?_
        show w * X = w * (D * (lowest n1 w).1)
        rw [Int.mul_comm, e1]
        rw [Int.mul_left_comm, ← k1']
      · have k1' : n2 = w * (lowest n2 w).1 := by rw [m2]; exact m2 ▸ m1
        refine mul_left_can (a := w) hw ?_
        show w * Y = w * (D * (lowest n2 w).1)
        rw [Int.mul_comm, e2]
        rw [Int.mul_left_comm, ← k1']
end K25

set_option linter.all false
/-! The cuts gathered pair by pair, in plain words. Own text. -/
namespace K25
def addP (F : Sg → List Pt) (g : Sg) (p : Pt) : Sg → List Pt := fun h => if h = g then (if p ∈ F g then F g else F g ++ [p]) else F h
structure Sta (E : List Sg) (Dn : Sg → Pt → Prop) (F : Sg → List Pt) : Prop where
  nd : ∀ g ∈ E, (F g).Nodup
  mem : ∀ g ∈ E, ∀ r, r ∈ F g ↔ (r ≠ g.1 ∧ r ≠ g.2 ∧ Dn g r)
theorem Sta.congr {E : List Sg} {Dn Dn' : Sg → Pt → Prop} {F : Sg → List Pt} (h : Sta E Dn F) (e : ∀ g ∈ E, ∀ r, Dn g r ↔ Dn' g r) : Sta E Dn' F :=
  ⟨h.nd, fun g hg r => by rw [h.mem g hg r, e g hg r]⟩
theorem Sta.add {E : List Sg} {Dn : Sg → Pt → Prop} {F : Sg → List Pt} {g : Sg} {p : Pt} (h : Sta E Dn F) (h1 : p ≠ g.1) (h2 : p ≠ g.2) : Sta E (fun k r => Dn k r ∨ (k = g ∧ r = p)) (addP F g p) := by
  constructor
  · intro k hk
    unfold addP
    split
    · rename_i e
      subst e
      split
      · exact h.nd k hk
      · rename_i hp
        rw [List.nodup_append]
        refine ⟨h.nd k hk, by simp, fun x hx y hy => ?_⟩
        rintro rfl
        rw [List.mem_singleton.mp hy] at hx
        exact hp hx
    · exact h.nd k hk
  · intro k hk r
    unfold addP
    split
    · rename_i e
      subst e
      split
      · rename_i hp
        rw [h.mem k hk r]
        constructor
        · rintro ⟨a, b, c⟩
          exact ⟨a, b, .inl c⟩
        · rintro ⟨a, b, c | ⟨_, rfl⟩⟩
          · exact ⟨a, b, c⟩
          · exact (h.mem k hk r).mp hp
      · rw [List.mem_append, h.mem k hk r, List.mem_singleton]
        constructor
        · rintro (⟨a, b, c⟩ | rfl)
          · exact ⟨a, b, .inl c⟩
          · exact ⟨h1, h2, .inr ⟨rfl, rfl⟩⟩
        · rintro ⟨a, b, c | ⟨_, rfl⟩⟩
          · exact .inl ⟨a, b, c⟩
          · exact .inr rfl
    · rename_i e
      rw [h.mem k hk r]
      constructor
      · rintro ⟨a, b, c⟩
        exact ⟨a, b, .inl c⟩
      · rintro ⟨a, b, c | ⟨z, _⟩⟩
        · exact ⟨a, b, c⟩
        · exact absurd z e
theorem Sta.skip {E : List Sg} {Dn : Sg → Pt → Prop} {F : Sg → List Pt} {g : Sg} {p : Pt} (h : Sta E Dn F) (hp : ¬ (p ≠ g.1 ∧ p ≠ g.2)) : Sta E (fun k r => Dn k r ∨ (k = g ∧ r = p)) F := by
  refine ⟨h.nd, fun k hk r => ?_⟩
  rw [h.mem k hk r]
  constructor
  · rintro ⟨a, b, c⟩
    exact ⟨a, b, .inl c⟩
  · rintro ⟨a, b, c | ⟨rfl, rfl⟩⟩
    · exact ⟨a, b, c⟩
    · exact absurd ⟨a, b⟩ hp
theorem ptsMet_two (s t : Sg) : (ptsMet s t).length ≤ 2 := by
  unfold ptsMet
  split <;> simp
theorem pm_two (s t : Sg) : (pm s t).length ≤ 2 := by
  unfold pm
  split <;> exact ptsMet_two _ _
theorem flat_two {E : List Sg} {g : Sg} : (E.flatMap (pm g)).length ≤ 2 * E.length := by
  induction E with
  | nil => simp
  | cons e E ih =>
    rw [List.flatMap_cons, List.length_append, List.length_cons]
    have := pm_two g e
    omega
theorem nodup_sub_len {α : Type} : ∀ {l m : List α}, l.Nodup → (∀ x ∈ l, x ∈ m) → l.length ≤ m.length
  | [], m, _, _ => Nat.zero_le _
  | x :: l, m, nd, h => by
    obtain ⟨m1, m2, rfl⟩ := List.append_of_mem (h x (by simp))
    rw [List.nodup_cons] at nd
    have := nodup_sub_len (l := l) (m := m1 ++ m2) nd.2 fun y hy => by
      have hy2 := h y (by simp [hy])
      rw [List.mem_append, List.mem_cons] at hy2
      rcases hy2 with z | z | z
      · simp [z]
      · rw [z] at hy; exact absurd hy nd.1
      · simp [z]
    simp only [List.length_append, List.length_cons] at this ⊢
    omega
/-- the points that are told of are cuts -/
def Sub (E : List Sg) (Dn : Sg → Pt → Prop) : Prop := ∀ g ∈ E, ∀ r, Dn g r → ∃ t ∈ E, t ≠ g ∧ r ∈ pm g t
theorem Sta.len {E : List Sg} {Dn : Sg → Pt → Prop} {F : Sg → List Pt} (h : Sta E Dn F) (sb : Sub E Dn) {g : Sg} (hg : g ∈ E) : (F g).length ≤ 2 * E.length :=
  Nat.le_trans (nodup_sub_len (h.nd g hg) fun r hr => by
    obtain ⟨t, ht, _, hm⟩ := sb g hg r ((h.mem g hg r).mp hr).2.2
    exact List.mem_flatMap.mpr ⟨t, ht, hm⟩) flat_two
theorem pw_get {E : List Sg} (pw : E.Pairwise SLt) {j k : Nat} {s t : Sg} (hj : E[j]? = some s) (hk : E[k]? = some t) (h : j < k) : SLt s t := by
  obtain ⟨h1, rfl⟩ := List.getElem?_eq_some_iff.mp hj
  obtain ⟨h2, rfl⟩ := List.getElem?_eq_some_iff.mp hk
  exact List.pairwise_iff_getElem.mp pw j k h1 h2 h
theorem SLt.ne {s t : Sg} (h : SLt s t) : s ≠ t := fun z => by rw [z] at h; exact SLt.irrefl _ h
theorem pm_of {s t g : Sg} (h : SLt s t) (hg : g = s ∨ g = t) {r : Pt} (hr : r ∈ ptsMet s t) : ∃ u, (u = s ∨ u = t) ∧ u ≠ g ∧ r ∈ pm g u := by
  rcases hg with rfl | rfl
  · exact ⟨t, .inr rfl, h.ne.symm, by unfold pm; rw [if_pos h]; exact hr⟩
  · exact ⟨s, .inl rfl, h.ne, by unfold pm; rw [if_neg h.asymm]; exact hr⟩
/-- what the two loops have gone through before the i-th segment -/
def Dn0 (E : List Sg) (i : Nat) (g : Sg) (r : Pt) : Prop := ∃ j k s t, j < i ∧ j < k ∧ E[j]? = some s ∧ E[k]? = some t ∧ (g = s ∨ g = t) ∧ r ∈ ptsMet s t
def Dn1 (E : List Sg) (i : Nat) (s : Sg) (m : Nat) (g : Sg) (r : Pt) : Prop := Dn0 E i g r ∨ ∃ k t, i < k ∧ k < i + 1 + m ∧ E[k]? = some t ∧ (g = s ∨ g = t) ∧ r ∈ ptsMet s t
def Dn2 (E : List Sg) (i : Nat) (s : Sg) (m : Nat) (t : Sg) (n : Nat) (g : Sg) (r : Pt) : Prop := Dn1 E i s m g r ∨ ((g = s ∨ g = t) ∧ ∃ n', n' < n ∧ (ptsMet s t)[n']? = some r)
theorem Dn1_zero {E : List Sg} {i : Nat} {s g : Sg} {r : Pt} : Dn0 E i g r ↔ Dn1 E i s 0 g r :=
  ⟨.inl, fun h => h.elim id fun ⟨k, t, a, b, _⟩ => by omega⟩
theorem Dn2_zero {E : List Sg} {i m : Nat} {s t g : Sg} {r : Pt} : Dn1 E i s m g r ↔ Dn2 E i s m t 0 g r :=
  ⟨.inl, fun h => h.elim id fun ⟨_, n, a, _⟩ => by omega⟩
theorem Dn2_last {E : List Sg} {i m : Nat} {s t g : Sg} {r : Pt} (ht : E[i + 1 + m]? = some t) : Dn2 E i s m t (ptsMet s t).length g r ↔ Dn1 E i s (m + 1) g r := by
  constructor
  · rintro ((h | ⟨k, u, h1, h2, h3⟩) | ⟨hg, n, hn, hr⟩)
    · exact .inl h
    · exact .inr ⟨k, u, h1, by omega, h3⟩
    · exact .inr ⟨i + 1 + m, t, by omega, by omega, ht, hg, List.mem_of_getElem? hr⟩
  · rintro (h | ⟨k, u, h1, h2, h3, hg, hr⟩)
    · exact .inl (.inl h)
    · by_cases e : k = i + 1 + m
      · subst e
        rw [ht] at h3
        cases h3
        obtain ⟨n, hn⟩ := List.mem_iff_getElem?.mp hr
        exact .inr ⟨hg, n, (List.getElem?_eq_some_iff.mp hn).1, hn⟩
      · exact .inl (.inr ⟨k, u, h1, by omega, h3, hg, hr⟩)
theorem Dn1_last {E : List Sg} {i : Nat} {s g : Sg} {r : Pt} (hs : E[i]? = some s) : Dn1 E i s (E.length - (i + 1)) g r ↔ Dn0 E (i + 1) g r := by
  constructor
  · rintro (⟨j, k, u, v, h1, h2, h3⟩ | ⟨k, t, h1, h2, h3, h4⟩)
    · exact ⟨j, k, u, v, by omega, h2, h3⟩
    · exact ⟨i, k, s, t, by omega, h1, hs, h3, h4⟩
  · rintro ⟨j, k, u, v, h1, h2, h3, h4, h5⟩
    by_cases e : j = i
    · subst e
      rw [hs] at h3
      cases h3
      have := (List.getElem?_eq_some_iff.mp h4).1
      exact .inr ⟨k, v, h2, by omega, h4, h5⟩
    · exact .inl ⟨j, k, u, v, by omega, h2, h3, h4, h5⟩
theorem Dn2_step {E : List Sg} {i m n : Nat} {s t g : Sg} {r p : Pt} (hp : (ptsMet s t)[n]? = some p) : ((Dn2 E i s m t n g r ∨ (g = s ∧ r = p)) ∨ (g = t ∧ r = p)) ↔ Dn2 E i s m t (n + 1) g r := by
  constructor
  · rintro (((h | ⟨hg, n', h1, h2⟩) | ⟨rfl, rfl⟩) | ⟨rfl, rfl⟩)
    · exact .inl h
    · exact .inr ⟨hg, n', by omega, h2⟩
    · exact .inr ⟨.inl rfl, n, by omega, hp⟩
    · exact .inr ⟨.inr rfl, n, by omega, hp⟩
  · rintro (h | ⟨hg, n', h1, h2⟩)
    · exact .inl (.inl (.inl h))
    · by_cases e : n' = n
      · subst e
        rw [hp] at h2
        cases h2
        rcases hg with z | z
        · exact .inl (.inr ⟨z, rfl⟩)
        · exact .inr ⟨z, rfl⟩
      · exact .inl (.inl (.inr ⟨hg, n', by omega, h2⟩))
theorem sub0 {E : List Sg} (pw : E.Pairwise SLt) (i : Nat) : Sub E (Dn0 E i) := by
  rintro g hg r ⟨j, k, s, t, h1, h2, h3, h4, h5, h6⟩
  obtain ⟨u, hu, ne, hm⟩ := pm_of (pw_get pw h3 h4 h2) h5 h6
  refine ⟨u, ?_, ne, hm⟩
  rcases hu with rfl | rfl
  · exact List.mem_of_getElem? h3
  · exact List.mem_of_getElem? h4
theorem sub1 {E : List Sg} (pw : E.Pairwise SLt) {i m : Nat} {s : Sg} (hs : E[i]? = some s) : Sub E (Dn1 E i s m) := by
  rintro g hg r (h | ⟨k, t, h1, h2, h3, h4, h5⟩)
  · exact sub0 pw i g hg r h
  · obtain ⟨u, hu, ne, hm⟩ := pm_of (pw_get pw hs h3 h1) h4 h5
    refine ⟨u, ?_, ne, hm⟩
    rcases hu with rfl | rfl
    · exact List.mem_of_getElem? hs
    · exact List.mem_of_getElem? h3
theorem sub2 {E : List Sg} (pw : E.Pairwise SLt) {i m n : Nat} {s t : Sg} (hs : E[i]? = some s) (ht : E[i + 1 + m]? = some t) : Sub E (Dn2 E i s m t n) := by
  rintro g hg r (h | ⟨h1, n', h2, h3⟩)
  · exact sub1 pw hs g hg r h
  · obtain ⟨u, hu, ne, hm⟩ := pm_of (pw_get pw hs ht (by omega)) h1 (List.mem_of_getElem? h3)
    refine ⟨u, ?_, ne, hm⟩
    rcases hu with rfl | rfl
    · exact List.mem_of_getElem? hs
    · exact List.mem_of_getElem? ht
theorem dn_all {E : List Sg} (pw : E.Pairwise SLt) {g : Sg} (hg : g ∈ E) {r : Pt} : Dn0 E E.length g r ↔ ∃ t ∈ E, t ≠ g ∧ r ∈ pm g t := by
  constructor
  · exact sub0 pw _ g hg r
  · rintro ⟨t, ht, ne, hr⟩
    obtain ⟨a, ha⟩ := List.mem_iff_getElem?.mp hg
    obtain ⟨b, hb⟩ := List.mem_iff_getElem?.mp ht
    have la := (List.getElem?_eq_some_iff.mp ha).1
    have lb := (List.getElem?_eq_some_iff.mp hb).1
    rcases Nat.lt_trichotomy a b with z | z | z
    · have h := pw_get pw ha hb z
      unfold pm at hr
      rw [if_pos h] at hr
      exact ⟨a, b, g, t, la, z, ha, hb, .inl rfl, hr⟩
    · rw [z, hb] at ha
      exact absurd (Option.some.inj ha) ne
    · have h := pw_get pw hb ha z
      unfold pm at hr
      rw [if_neg h.asymm] at hr
      exact ⟨b, a, t, g, lb, z, hb, ha, .inr rfl, hr⟩
theorem klt_total {e : Sg} {p q : Pt} (h : ¬ KLt (sgn e) q p) (ne : p ≠ q) : KLt (sgn e) p q := by
  have ne2 : p.1 = q.1 → p.2 ≠ q.2 := fun a b => ne (Prod.ext a b)
  rcases sgn_cases e with ⟨z, _⟩ | ⟨z, _⟩ <;> rw [z] at h ⊢ <;> unfold KLt at * <;> omega
theorem Sta.cuts {E : List Sg} {F : Sg → List Pt} (pw : E.Pairwise SLt) (h : Sta E (Dn0 E E.length) F) {g : Sg} (hg : g ∈ E) {cs : List Pt} (pm' : cs.Perm (F g)) (so : cs.Pairwise fun a b => ¬ KLt (sgn g) b a) : Cuts E g cs := by
  have nd : cs.Nodup := pm'.nodup_iff.mpr (h.nd g hg)
  refine ⟨(so.and nd).imp fun {a b} ⟨x, y⟩ => klt_total x y, fun r => ?_⟩
  rw [pm'.mem_iff, h.mem g hg r, dn_all pw hg]
theorem Cuts.len {E : List Sg} {e : Sg} {cs : List Pt} (c : Cuts E e cs) : cs.length ≤ 2 * E.length := by
  have nd : cs.Nodup := c.sorted.imp fun h => h.ne
  exact Nat.le_trans (nodup_sub_len nd fun r hr => by
    obtain ⟨_, _, t, ht, _, hm⟩ := (c.mem r).mp hr
    exact List.mem_flatMap.mpr ⟨t, ht, hm⟩) flat_two
end K25

set_option linter.all false
/-! How long a chain can get, and a round in plain words. Own text. -/
namespace K25
theorem pcs_split : ∀ (l : List Pt) (x : Pt) (m : List Pt), pcs (l ++ x :: m) = pcs (l ++ [x]) ++ pcs (x :: m)
  | [], x, m => by simp [pcs]
  | [p], x, m => by simp [pcs]
  | p :: q :: l, x, m => by
    have h := pcs_split (q :: l) x m
    simp only [List.cons_append] at h ⊢
    simp only [pcs, h, List.cons_append]
theorem pot_rev : ∀ l : List Pt, pot (pcs l.reverse) = pot (pcs l)
  | [] => rfl
  | [p] => rfl
  | p :: q :: r => by
    have h := pot_rev (q :: r)
    have e : (p :: q :: r).reverse = r.reverse ++ q :: [p] := by simp
    have e2 : (q :: r).reverse = r.reverse ++ [q] := by simp
    rw [e, pcs_split, pot_append, ← e2, h]
    simp only [pcs, pot_cons]
    rw [sg_symm q p]
    have : pot ([] : List Sg) = 0 := rfl
    omega
def cp (ch : List Pt) : Nat := pot (pcs ch) + ch.length
theorem bt_pot {E : List Sg} (ok : ∀ s ∈ E, Ok s) {c : Sg → List Pt} (hc : ∀ e ∈ E, Cuts E e (c e)) {p q : Pt} (ne : p ≠ q) (h : sg p q ∈ E) :
    pot (pcs (p :: ((if PLt p q then c (sg p q) else (c (sg p q)).reverse) ++ [q]))) + (if PLt p q then c (sg p q) else (c (sg p q)).reverse).length = wt (sg p q) := by
  have s := (hc _ h).sum ok h
  have s : pot (pcs (row (sg p q) (c (sg p q)))) + (c (sg p q)).length = wt (sg p q) := s
  by_cases z : PLt p q
  · rw [if_pos z]
    generalize hcs : c (sg p q) = cs at *
    rw [sg_lt z] at s ⊢
    exact s
  · have z2 : PLt q p := (ne_lt ne).resolve_left z
    rw [if_neg z]
    generalize hcs : c (sg p q) = cs at *
    rw [sg_gt z2] at s ⊢
    have e : p :: (cs.reverse ++ [q]) = (row (q, p) cs).reverse := by unfold row; simp
    rw [e, pot_rev, List.length_reverse]
    exact s
theorem tail_pot {E : List Sg} (ok : ∀ s ∈ E, Ok s) {c : Sg → List Pt} (hc : ∀ e ∈ E, Cuts E e (c e)) : ∀ (p : Pt) (r : List Pt), Ch (fun p q => p ≠ q ∧ sg p q ∈ E) (p :: r) → pot (pcs (p :: lenTail c (p :: r))) + (lenTail c (p :: r)).length = pot (pcs (p :: r)) + r.length
  | p, [], _ => rfl
  | p, q :: r, h => by
    have ih := tail_pot ok hc q r h.2
    have b := bt_pot ok hc h.1.1 h.1.2
    simp only [lenTail]
    generalize (if PLt p q then c (sg p q) else (c (sg p q)).reverse) = B at *
    have e : p :: (B ++ q :: lenTail c (q :: r)) = (p :: B) ++ q :: lenTail c (q :: r) := rfl
    rw [e, pcs_split, pot_append]
    simp only [List.cons_append, List.length_append, List.length_cons, pcs, pot_cons] at *
    omega
theorem cp_lengthen {E : List Sg} (ok : ∀ s ∈ E, Ok s) {c : Sg → List Pt} (hc : ∀ e ∈ E, Cuts E e (c e)) {ch : List Pt} (h : Ch (fun p q => p ≠ q ∧ sg p q ∈ E) ch) : cp (lengthen c ch) = cp ch := by
  cases ch with
  | nil => rfl
  | cons p r =>
    have := tail_pot ok hc p r h
    unfold cp lengthen
    simp only [List.length_cons] at *
    omega
/-- one round -/
structure Rd1 (E E' : List Sg) (c : Sg → List Pt) : Prop where
  ok : ∀ g ∈ E', Ok g
  pw : E'.Pairwise SLt
  le : pot E' + (E.map fun e => (c e).length).sum ≤ pot E
  mem : ∀ g, g ∈ E' ↔ g ∈ cutUp c E
theorem round_of {E E' : List Sg} {c : Sg → List Pt} (ok : ∀ g ∈ E, Ok g) (hc : ∀ g ∈ E, Cuts E g (c g)) (pw : E'.Pairwise SLt) (mem : ∀ g, g ∈ E' ↔ g ∈ cutUp c E) : Rd1 E E' c := by
  refine ⟨fun g hg => ?_, pw, ?_, mem⟩
  · obtain ⟨e, he, hf⟩ := mem_cutUp.mp ((mem g).mp hg)
    exact (hc e he).piece_ok ok he hf
  · have h1 := pot_cutUp (c := c) ok (E := E) fun e he => ⟨he, hc e he⟩
    have h2 : pot E' ≤ pot (cutUp c E) := pot_le (pw.imp fun h => h.ne) fun g hg => (mem g).mp hg
    omega
theorem cutUp_len {E : List Sg} {c : Sg → List Pt} (ok : ∀ g ∈ E, Ok g) (hc : ∀ g ∈ E, Cuts E g (c g)) : (cutUp c E).length ≤ pot E := by
  have h1 := pot_cutUp (c := c) ok (E := E) fun e he => ⟨he, hc e he⟩
  have h2 : (cutUp c E).length ≤ pot (cutUp c E) := len_le_pot fun g hg => by
    obtain ⟨e, he, hf⟩ := mem_cutUp.mp hg
    exact wt_pos ((hc e he).piece_ok ok he hf)
  omega
end K25

set_option Elab.async false
set_option linter.all false
set_option maxRecDepth 100000
set_option maxHeartbeats 4000000
/-! Sets of segments, one: the hash table, masks up to 511. Own text over the library's facts about ways and runs. -/
namespace K25S
open PySem PySem.Spec PyProof.Rows L2

/-! ### every slot begins a run -/
def orb (m : Nat) : Nat → Nat → List Nat
  | 0, _ => []
  | n + 1, x => x :: orb m n ((x * 5 + 1) % (m + 1))
theorem mem_orb {m : Nat} : ∀ {n x j : Nat}, j ∈ orb m n x → ∃ k, k < n ∧ lcgI m x k = j
  | 0, _, _, h => by simp [orb] at h
  | n + 1, x, j, h => by
    simp only [orb, List.mem_cons] at h
    rcases h with h | h
    · exact ⟨0, by omega, h.symm⟩
    · obtain ⟨k, hk, e⟩ := mem_orb h
      have sh : ∀ k, lcgI m ((x * 5 + 1) % (m + 1)) k = lcgI m x (k + 1) := by
        intro k
        induction k with
        | zero => rfl
        | succ k ih => simp only [lcgI] at ih ⊢; rw [ih]
      exact ⟨k + 1, by omega, by rw [← sh]; exact e⟩
theorem full511 : ((List.range 512).all fun j => (orb 511 512 0).contains j) = true := by decide +kernel
theorem round511 : lcgI 511 0 512 = 0 := by decide +kernel
theorem lcg0 (m : Nat) : ∀ k, lcgN m k = lcgI m 0 k
  | 0 => rfl
  | k + 1 => by simp only [lcgN, lcgI]; rw [lcg0 m k]
theorem all511 {i j : Nat} (hi : i ≤ 511) (hj : j ≤ 511) : ∃ k, k ≤ 511 ∧ lcgI 511 i k = j := by
  have get : ∀ x, x ≤ 511 → ∃ k, k < 512 ∧ lcgN 511 k = x := fun x hx => by
    have h := List.all_eq_true.mp full511 x (List.mem_range.mpr (by omega))
    obtain ⟨k, h1, h2⟩ := mem_orb (List.contains_iff_mem.mp h)
    exact ⟨k, h1, by rw [lcg0]; exact h2⟩
  have per : ∀ k, lcgN 511 (512 + k) = lcgN 511 k := by
    intro k
    induction k with
    | zero => rw [lcg0]; exact round511
    | succ k ih =>
      show (lcgN 511 (512 + k) * 5 + 1) % 512 = (lcgN 511 k * 5 + 1) % 512
      rw [ih]
  obtain ⟨a, ha, ea⟩ := get i hi
  obtain ⟨b, hb, eb⟩ := get j hj
  rw [← ea]
  by_cases c : b < a
  · refine ⟨512 + b - a, by omega, ?_⟩
    rw [lcgN_add, show a + (512 + b - a) = 512 + b by omega, per]
    exact eb
  · refine ⟨b - a, by omega, ?_⟩
    rw [lcgN_add, show a + (b - a) = b by omega]
    exact eb
/-- the masks of tables of up to 300 -/
def Mok (m : Nat) : Prop := MaskOk m ∨ m = 511
theorem meets {m : Nat} (hm : Mok m) (h : Int) {j : Nat} (hj : j ≤ m) : ∃ n, n ≤ m + 12 ∧ runI m (SetTable.bits h) n = j := by
  rcases hm with hm | rfl
  · exact run_meets hm h hj
  · obtain ⟨k, hk, e⟩ := all511 (runI_le 511 (SetTable.bits h) 12) hj
    refine ⟨12 + k, by omega, ?_⟩
    rw [runI_tail (bits_lt h)]
    exact e
theorem mok_le {m : Nat} (h : Mok m) : m ≤ 511 := by
  rcases h with (e | e | e) | e <;> omega
theorem mok_odd {m : Nat} (h : Mok m) : m % 2 = 1 := by
  rcases h with (e | e | e) | e <;> subst e <;> rfl
theorem steps {m : Nat} (hm : Mok m) (h : Int) {j : Nat} (hj : j ≤ m) : ∃ k, k < 10 * SetTable.turns m ∧ way m h k = j := by
  obtain ⟨n, hn, e⟩ := meets hm h hj
  obtain ⟨k, hk, e2⟩ := run_nth m (SetTable.bits h) n
  have ht : SetTable.turns m = m + 15 := rfl
  exact ⟨k, by omega, by unfold way; rw [e2]; exact e⟩
theorem way_in {m : Nat} {h : Int} {k : Nat} : way m h k ≤ m := by
  have hi : SetTable.bits h % (m + 1) ≤ m := Nat.le_of_lt_succ (Nat.mod_lt _ (by omega))
  obtain ⟨r1, r2, _⟩ := runEnd_bd hi
  have q := nth_in (m := m) k (runAt m (SetTable.bits h % (m + 1)) (SetTable.bits h)) (by simp only [runAt]; omega)
  unfold way
  omega

/-! ### a table whose entries are found again -/
structure Tab (t : SetTable) (hs : List Int) : Prop where
  ris : Ris t.place.toList
  dm : t.dummies = #[]
  sz : t.place.size = hs.length
  mok : Mok t.mask
  bd : ∀ x ∈ t.place.toList, x ≤ t.mask
  reach : ∀ (i : Nat) (h : Int) (j : Nat), hs[i]? = some h → t.place.toList[i]? = some j →
    ∃ k, way t.mask h k = j ∧ ∀ k', k' < k → way t.mask h k' ∈ t.place.toList
theorem Tab.first {t : SetTable} {hs : List Int} (T : Tab t hs) (hl : hs.length ≤ t.mask) (h : Int) :
    ∃ K, K < 10 * SetTable.turns t.mask ∧ way t.mask h K ∉ t.place.toList ∧ ∀ k, k < K → way t.mask h k ∈ t.place.toList := by
  obtain ⟨j, hj, nj⟩ := st_missing t.place.toList (t.mask + 1) (by have := T.sz; rw [Array.length_toList]; omega)
  obtain ⟨k, hk, e⟩ := steps T.mok h (j := j) (by omega)
  obtain ⟨K, a, b, c⟩ := st_least (p := fun k => way t.mask h k ∉ t.place.toList) k (by rw [e]; exact nj)
  exact ⟨K, by omega, b, fun k' hk' => Classical.byContradiction fun z => c k' hk' z⟩
theorem Tab.before {t : SetTable} {hs : List Int} (T : Tab t hs) {h : Int} {K i j : Nat} (hK : way t.mask h K ∉ t.place.toList) (hi : hs[i]? = some h) (hj : t.place.toList[i]? = some j) : ∃ k, k < K ∧ way t.mask h k = j := by
  obtain ⟨k, e, hb⟩ := T.reach i h j hi hj
  refine ⟨k, ?_, e⟩
  by_cases c : k < K
  · exact c
  · exfalso
    by_cases d : K = k
    · subst d; rw [e] at hK; exact hK (List.mem_of_getElem? hj)
    · exact hK (hb K (by omega))
/-- one more, at the first empty slot of its way -/
theorem Tab.put {t : SetTable} {hs : List Int} (T : Tab t hs) {h : Int} {K j p : Nat} (ej : way t.mask h K = j) (ep : SetTable.below t.place j = p) (hK : j ∉ t.place.toList)
    (hb : ∀ k, k < K → way t.mask h k ∈ t.place.toList) :
    p ≤ hs.length ∧ Tab (t.put j).1 (hs.take p ++ h :: hs.drop p) ∧ (t.put j).1.fill = hs.length + 1 := by
  obtain ⟨c1, _, _⟩ := below_cut T.ris j
  rw [ep] at c1
  have hph : p ≤ hs.length := by have := T.sz; omega
  have hpl : p ≤ t.place.toList.length := by rw [Array.length_toList]; exact c1
  have np : t.place[SetTable.below t.place j]? ≠ some j := fun e => hK (List.mem_of_getElem? (by rw [Array.getElem?_toList]; exact e))
  have pl : (t.put j).1.place.toList = t.place.toList.take p ++ j :: t.place.toList.drop p := by rw [← ep]; exact put_place t j
  have sz : (t.put j).1.place.size = hs.length + 1 := by
    rw [← Array.length_toList, pl, len_ins _ hpl, Array.length_toList, T.sz]
  have up : ∀ x, x ∈ t.place.toList → x ∈ (t.put j).1.place.toList := fun x hx => by rw [pl]; exact mem_ins.2 (.inr hx)
  refine ⟨hph, ⟨ris_insert T.ris np, put_dm T.dm j, by rw [len_ins _ hph]; exact sz, T.mok, ?_, ?_⟩, ?_⟩
  · intro x hx
    rw [pl] at hx
    rcases mem_ins.1 hx with z | z
    · show x ≤ t.mask
      rw [z, ← ej]; exact way_in
    · exact T.bd x z
  · intro i h' j' h1 h2
    rw [tins_get hs hph] at h1
    rw [pl, tins_get _ hpl] at h2
    have old : ∀ i0, hs[i0]? = some h' → t.place.toList[i0]? = some j' → ∃ k, way (t.put j).1.mask h' k = j' ∧ ∀ k', k' < k → way (t.put j).1.mask h' k' ∈ (t.put j).1.place.toList := fun i0 a b => by
      obtain ⟨k, e, z⟩ := T.reach i0 h' j' a b
      exact ⟨k, e, fun k' hk' => up _ (z k' hk')⟩
    by_cases c : i < p
    · rw [if_pos c] at h1 h2
      exact old _ h1 h2
    · by_cases d : i = p
      · rw [if_neg c, if_pos d] at h1 h2
        obtain rfl := Option.some.inj h1
        obtain rfl := Option.some.inj h2
        exact ⟨K, ej, fun k' hk' => up _ (hb k' hk')⟩
      · rw [if_neg c, if_neg d] at h1 h2
        exact old _ h1 h2
  · show (t.put j).1.place.size + (t.put j).1.dummies.size = _
    rw [sz, put_dm T.dm j]
    rfl

/-! ### laid anew -/
structure Ow (m : Nat) (done : List Int) (ow : Array (Option Nat)) : Prop where
  sz : ow.size = m + 1
  whose : ∀ j k, j ≤ m → oAt ow j = some k → ∃ h K, done[k]? = some h ∧ way m h K = j ∧ ∀ k', k' < K → oAt ow (way m h k') ≠ none
  all : ∀ k, k < done.length → ∃ j, j ≤ m ∧ oAt ow j = some k
  taken : ∃ ps : List Nat, ps.length = done.length ∧ ∀ j, j ≤ m → oAt ow j ≠ none → j ∈ ps
theorem Ow.start (m : Nat) : Ow m [] (Array.replicate (m + 1) none) :=
  ⟨by simp, (fun j k hj e => by rw [oAt_init hj] at e; cases e), (fun k hk => absurd hk (Nat.not_lt_zero _)), [], rfl, fun j hj e => absurd (oAt_init hj) e⟩
theorem Ow.next {m : Nat} (hm : Mok m) {done : List Int} {ow : Array (Option Nat)} (W : Ow m done ow) (hl : done.length ≤ m) (h : Int) :
    ∃ j, SetTable.layClean.free m ow (SetTable.turns m) (SetTable.bits h % (m + 1)) (SetTable.bits h) = some j ∧ Ow m (done ++ [h]) (ow.setIfInBounds j (some done.length)) := by
  obtain ⟨ps, lp, inp⟩ := W.taken
  obtain ⟨j0, b0, n0⟩ := st_missing ps (m + 1) (by omega)
  have f0 : oAt ow j0 = none := Classical.byContradiction fun z => n0 (inp j0 (by omega) z)
  obtain ⟨n, hn, e⟩ := meets hm h (j := j0) (by omega)
  have hw : way m h (off m (SetTable.bits h % (m + 1)) (SetTable.bits h) n) = j0 := by
    unfold way
    rw [nth_off, itL_run]
    exact e
  obtain ⟨K, k1, k2, k3⟩ := st_least (p := fun k => oAt ow (way m h k) = none) _ (by rw [hw]; exact f0)
  have fr : SetTable.layClean.free m ow (SetTable.turns m) (SetTable.bits h % (m + 1)) (SetTable.bits h) = some (way m h K) := by
    refine free_spec m ow (SetTable.turns m) n _ _ K (by unfold SetTable.turns; omega) k1 (fun k hk => ?_) ?_
    · have q := k3 k hk
      cases z : oAt ow (way m h k) with
      | none => exact absurd z q
      | some v => rfl
    · unfold way at k2; rw [k2]; rfl
  generalize hj : way m h K = j at *
  have hjm : j ≤ m := by rw [← hj]; exact way_in
  have self := oAt_set_self (owner := ow) (some done.length) (j := j) (by rw [W.sz]; omega)
  have keep : ∀ i, oAt ow i ≠ none → oAt (ow.setIfInBounds j (some done.length)) i ≠ none := fun i hi => by
    by_cases c : i = j
    · rw [c, self]; simp
    · rw [oAt_set_ne _ c]; exact hi
  refine ⟨j, fr, by rw [Array.size_setIfInBounds]; exact W.sz, ?_, ?_, j :: ps, by simp [lp], ?_⟩
  · intro i k hi e
    by_cases c : i = j
    · rw [c, self] at e
      obtain rfl := Option.some.inj e
      exact ⟨h, K, by simp, by rw [c]; exact hj, fun k' hk' => keep _ (k3 k' hk')⟩
    · rw [oAt_set_ne _ c] at e
      obtain ⟨h', K', a1, a2, a3⟩ := W.whose i k hi e
      have hk := (List.getElem?_eq_some_iff.mp a1).1
      exact ⟨h', K', by rw [List.getElem?_append_left hk]; exact a1, a2, fun k' hk' => keep _ (a3 k' hk')⟩
  · intro k hk
    by_cases c : k < done.length
    · obtain ⟨i, hi, e⟩ := W.all k c
      refine ⟨i, hi, ?_⟩
      rw [oAt_set_ne _ (fun z => by rw [z, k2] at e; cases e)]
      exact e
    · have : k = done.length := by simp at hk; omega
      exact ⟨j, hjm, by rw [this]; exact self⟩
  · intro i hi e
    by_cases c : i = j
    · simp [c]
    · rw [oAt_set_ne _ c] at e
      exact List.mem_cons_of_mem _ (inp i hi e)
theorem lay {m : Nat} (hm : Mok m) {hs : Array Int} (hn : hs.size ≤ m) : ∃ ow, SetTable.layClean m hs = some ow ∧ Ow m hs.toList ow := by
  have go : ∀ (rest done : List Int) (ow : Array (Option Nat)), Ow m done ow → done.length + rest.length ≤ m →
      ∃ ow', rest.foldl (stepF m) (some (ow, done.length)) = some (ow', (done ++ rest).length) ∧ Ow m (done ++ rest) ow' := by
    intro rest
    induction rest with
    | nil => intro done ow W _; exact ⟨ow, by simp, by simpa using W⟩
    | cons h rest ih =>
      intro done ow W hl
      simp only [List.length_cons] at hl
      obtain ⟨j, e, W'⟩ := W.next hm (by omega) h
      obtain ⟨ow', f, W2⟩ := ih (done ++ [h]) _ W' (by simp; omega)
      refine ⟨ow', ?_, by simpa using W2⟩
      rw [List.foldl_cons, stepF_some e]
      simpa using f
  obtain ⟨ow, f, W⟩ := go hs.toList [] _ (Ow.start m) (by simp; omega)
  refine ⟨ow, ?_, by simpa using W⟩
  rw [layClean_eq]
  have f' : hs.toList.foldl (stepF m) (some (Array.replicate (m + 1) none, 0)) = some (ow, ([] ++ hs.toList).length) := f
  rw [f']
  rfl
theorem relaid {t : SetTable} {hs : Array Int} {wanted M : Nat} (hw : SetTable.sizeAbove wanted - 1 = M) (hM : Mok M) (hn : hs.size ≤ M) :
    ∃ t' order, t.relaid hs wanted = some (t', order) ∧ order.toList.Perm (List.range hs.size) ∧ Tab t' (order.toList.map fun i => hs.getD i 0) ∧ t'.mask = M ∧ t'.led = t.led ∧ t'.plain = t.plain := by
  obtain ⟨ow, e, W⟩ := lay hM hn
  obtain ⟨r1, r2⟩ := ris_live (fun j => ow.getD j none) (List.range (M + 1)) (by unfold Ris; exact List.pairwise_lt_range)
  have r1 : Ris ((liveOf M ow).map (·.1)) := r1
  have r2 : ∀ x ∈ (liveOf M ow).map (·.1), x ∈ List.range (M + 1) := r2
  have ln : (liveOf M ow).length = hs.size := by
    obtain ⟨ps, p1, p2⟩ := W.taken
    have nd : ((liveOf M ow).map (·.1)).Nodup := List.Pairwise.imp (R := fun a b : Nat => a < b) (fun h => Nat.ne_of_lt h) r1
    have a := nat_nodup_len ((liveOf M ow).map (·.1)) ps nd fun x hx => by
      obtain ⟨⟨y, k⟩, hq, rfl⟩ := List.mem_map.mp hx
      obtain ⟨b1, b2⟩ := (mem_live W.sz).1 hq
      exact p2 y b1 (by rw [b2]; simp)
    have b := nat_nodup_len (List.range hs.size) ((liveOf M ow).map (·.2)) List.nodup_range fun k hk => by
      obtain ⟨j, b1, b2⟩ := W.all k (by simpa using hk)
      exact List.mem_map.mpr ⟨(j, k), (mem_live W.sz).2 ⟨b1, b2⟩, rfl⟩
    simp only [List.length_map, List.length_range, Array.length_toList] at a b p1
    omega
  refine ⟨tabOf t M ow, ((liveOf M ow).map (·.2)).toArray, by rw [relaid_eq, hw, e]; rfl, ?_, ⟨r1, rfl, ?_, hM, ?_, ?_⟩, rfl, rfl, rfl⟩
  · refine perm_range hs.size _ (by simpa using ln) fun k hk => ?_
    obtain ⟨j, b1, b2⟩ := W.all k (by simpa using hk)
    exact List.mem_map.mpr ⟨(j, k), (mem_live W.sz).2 ⟨b1, b2⟩, rfl⟩
  · show ((liveOf M ow).map (·.1)).toArray.size = _
    simp
  · intro x hx
    exact Nat.le_of_lt_succ (List.mem_range.mp (r2 x hx))
  · intro i h j h1 h2
    have h1 : (((liveOf M ow).map (·.2)).map fun i => hs.getD i 0)[i]? = some h := h1
    have h2 : ((liveOf M ow).map (·.1))[i]? = some j := h2
    rw [List.getElem?_map, List.getElem?_map] at h1
    rw [List.getElem?_map] at h2
    cases hq : (liveOf M ow)[i]? with
    | none => rw [hq] at h2; cases h2
    | some q =>
      obtain ⟨y, k⟩ := q
      rw [hq] at h1 h2
      have ej : y = j := Option.some.inj h2
      have eh : hs.getD k 0 = h := Option.some.inj h1
      subst ej
      obtain ⟨b1, b2⟩ := (mem_live W.sz).1 (List.mem_of_getElem? hq)
      obtain ⟨h0, K, a1, a2, a3⟩ := W.whose y k b1 b2
      have e0 : hs.getD k 0 = h0 := by
        rw [Array.getD_eq_getD_getElem?, ← Array.getElem?_toList, a1]
        rfl
      rw [← eh, e0]
      refine ⟨K, a2, fun k' hk' => ?_⟩
      show way M h0 k' ∈ (liveOf M ow).map (·.1)
      cases z : oAt ow (way M h0 k') with
      | none => exact absurd z (a3 k' hk')
      | some k2 => exact List.mem_map.mpr ⟨(way M h0 k', k2), (mem_live W.sz).2 ⟨way_in, z⟩, rfl⟩
theorem size_308 : SetTable.sizeAbove (SetTable.grown 77) = 512 := by decide +kernel
end K25S

set_option Elab.async false
set_option linter.all false
set_option maxRecDepth 100000
set_option maxHeartbeats 4000000
/-! Sets of segments, two: adding to the set, set(xs). Own text. -/
namespace K25S
open PySem PySem.Spec PyProof.Rows L2 K25

/-- a segment as a key -/
def pk (p : Pt) : NestedKey := .tup [.num p.1, .num p.2]
def nk (s : Sg) : NestedKey := .tup [pk s.1, pk s.2]
theorem pk_inj {p q : Pt} (h : pk p = pk q) : p = q := by
  unfold pk at h
  simp only [NestedKey.tup.injEq, List.cons.injEq, NestedKey.num.injEq, and_true] at h
  exact Prod.ext h.1 h.2
theorem nk_inj {s t : Sg} (h : nk s = nk t) : s = t := by
  unfold nk at h
  simp only [NestedKey.tup.injEq, List.cons.injEq, and_true] at h
  exact Prod.ext (pk_inj h.1) (pk_inj h.2)
theorem nk_beq (s t : Sg) : NestedKey.beq (nk s) (nk t) = decide (s = t) := by
  rw [← NestedKey.decide_eq]
  by_cases h : s = t
  · subst h; simp
  · rw [decide_eq_false h, decide_eq_false fun z => h (nk_inj z)]
theorem nk_depth (s : Sg) : (nk s).depth = 2 := by simp [nk, pk, NestedKey.depth, NestedKey.depthAll]
/-- the segment s stands at a -/
def IsK (h : Heap) (s : Sg) (a : Addr) : Prop := NestedIs h (nk s) (.ref a)
def hsh (w : World) (s : Sg) : Int := (nk s).hash w
theorem IsK.inj {h : Heap} {s t : Sg} {a : Addr} (x : IsK h s a) (y : IsK h t a) : s = t := nk_inj (NestedIs.inj _ _ _ x y)
theorem IsK.keep {h h' : Heap} {s : Sg} {a : Addr} (x : IsK h s a) (hk : ∀ c o, h.get? c = some o → h'.get? c = some o) : IsK h' s a := NestedIs.at (fun c o _ _ e _ => hk c o e) _ _ x
theorem IsK.but {h h' : Heap} {s : Sg} {a d : Addr} {o : Obj} {es : Array (Int × Value)} {ep : Nat} {t : SetTable} (x : IsK h s a) (ho : h.get? d = some o) (hd : o.data = .set es ep t) (hs : Heap.SameBut d h h') : IsK h' s a :=
  NestedIs.at (fun c u vs n e ed => by
    refine (hs.2 c fun z => ?_).trans e
    subst z
    rw [ho] at e
    cases e
    rw [hd] at ed
    cases ed) _ _ x

section
variable {P : Program} {w : World} {A : Around} {E : Value → Shared → Prop} {s : Shared}
/-! ### questions that a set asks of its members -/
/-- v is of no class statement, and its hash is by value, n levels down -/
def Tame (P : Program) (w : World) (n : Nat) (s : Shared) (v : Value) : Prop :=
  (∀ (A : Around) (E : Value → Shared → Prop) (Q : Bool → Shared → Prop), Q false s → wpAny (model P w) A (ofAClassStatement n v) Q E s) ∧
  (∀ (A : Around) (E : Value → Shared → Prop) (Q : Bool → Shared → Prop), Q true s → wpAny (model P w) A (hashByValue n v) Q E s)
theorem tame_num {n : Nat} {i : Int} {v : Value} (h : NestedIs s.heap (.num i) v) : Tame P w n s v := by
  cases h with
  | int _ t => exact ⟨fun A E Q q => by cases n <;> exact wpAny_pure q, fun A E Q q => by cases n <;> exact wpAny_pure q⟩
  | bool e => exact ⟨fun A E Q q => by cases n <;> exact wpAny_pure q, fun A E Q q => by cases n <;> exact wpAny_pure q⟩
theorem tame_tup {n : Nat} {a : Addr} {o : Obj} {vs : Array Value} {m : Nat} (ho : s.heap.get? a = some o) (hc : o.cls = .type "tuple") (hd : o.data = .seq vs m) (hv : ∀ v ∈ vs.toList, Tame P w n s v) : Tame P w (n + 1) s (.ref a) := by
  have hT : s.TypeIs (.ref a) "tuple" := ⟨o, ho, hc⟩
  constructor
  · intro A E Q q
    unfold ofAClassStatement
    refine wpAny_bind (wpAny_typeOf hT ?_)
    dsimp only
    have e : (("tuple" : String) == "tuple") = true := by decide
    simp only [e, if_true, Bool.not_true, Bool.false_eq_true, if_false]
    try refine wpAny_bind (wpAny_pure ?_)
    try simp only [Bool.not_true, Bool.false_eq_true, if_false]
    show wpAny _ _ (seqItems? (.ref a) >>= _) _ _ s
    refine wpAny_bind (wpAny_seqItems ho hd ?_)
    dsimp only
    refine wpAny_bind ?_
    rw [← Array.forIn_toList]
    refine wpAny_forIn_list _ (fun l r s' => r.1 = none ∧ s' = s ∧ ∀ v ∈ l, Tame P w n s v) _ ?_ ?_ _ _ ⟨rfl, rfl, hv⟩
    · rintro v l r s' ⟨hr, rfl, hall⟩
      refine wpAny_bind ((hall v (by simp)).1 _ _ _ ?_)
      simp only [Bool.false_eq_true, if_false]
      exact wpAny_pure ⟨rfl, rfl, fun u hu => hall u (List.mem_cons_of_mem _ hu)⟩
    · rintro ⟨r1, r2⟩ s' ⟨hr, rfl, _⟩
      simp only at hr
      subst hr
      exact wpAny_pure q
  · intro A E Q q
    unfold hashByValue
    refine wpAny_bind (wpAny_specialOf hT F.slot_tuple_hash.lookup ?_)
    show wpAny _ _ (seqItems? (.ref a) >>= _) _ _ s
    refine wpAny_bind (wpAny_seqItems ho hd ?_)
    refine wpAny_bind ?_
    show wpAny _ _ (forIn vs _ _) _ _ s
    rw [← Array.forIn_toList]
    refine wpAny_forIn_list _ (fun l r s' => r.1 = none ∧ s' = s ∧ ∀ v ∈ l, Tame P w n s v) _ ?_ ?_ _ _ ⟨rfl, rfl, hv⟩
    · rintro v l r s' ⟨hr, rfl, hall⟩
      refine wpAny_bind ((hall v (by simp)).2 _ _ _ ?_)
      simp only [Bool.not_true, Bool.false_eq_true, if_false]
      exact wpAny_pure ⟨rfl, rfl, fun u hu => hall u (List.mem_cons_of_mem _ hu)⟩
    · rintro ⟨r1, r2⟩ s' ⟨hr, rfl, _⟩
      simp only at hr
      subst hr
      exact wpAny_pure q
theorem all2 {h : Heap} {k1 k2 : NestedKey} {vs : List Value} (x : NestedAll h [k1, k2] vs) : ∃ v1 v2, vs = [v1, v2] ∧ NestedIs h k1 v1 ∧ NestedIs h k2 v2 := by
  cases x with
  | cons x1 x2 =>
    cases x2 with
    | cons x3 x4 =>
      cases x4
      exact ⟨_, _, rfl, x1, x3⟩
theorem tame_pt {n : Nat} {p : Pt} {v : Value} (x : NestedIs s.heap (pk p) v) : Tame P w (n + 1) s v := by
  cases x with
  | tup h1 h2 h3 h4 =>
    obtain ⟨v1, v2, e, a, b⟩ := all2 h4
    refine tame_tup h1 h2 h3 fun v hv => ?_
    rw [e] at hv
    simp only [List.mem_cons, List.not_mem_nil, or_false] at hv
    rcases hv with rfl | rfl
    · exact tame_num a
    · exact tame_num b
theorem tame_sg {g : Sg} {a : Addr} (x : IsK s.heap g a) : Tame P w 8 s (.ref a) := by
  have x : NestedIs s.heap (nk g) (.ref a) := x
  cases x with
  | tup h1 h2 h3 h4 =>
    obtain ⟨v1, v2, e, a, b⟩ := all2 h4
    refine tame_tup h1 h2 h3 fun v hv => ?_
    rw [e] at hv
    simp only [List.mem_cons, List.not_mem_nil, or_false] at hv
    rcases hv with rfl | rfl
    · exact tame_pt a
    · exact tame_pt b
theorem unseen {g : Sg} {b : Addr} {Q : Bool → Shared → Prop} (hk : IsK s.heap g b) {ys : List Value} (hy : ∀ y ∈ ys, ∃ g' c, y = Value.ref c ∧ IsK s.heap g' c) (h : Q false s) :
    wpAny (model P w) A (searchCouldBeSeen (.ref b) ys) Q E s := by
  have quiet : ∀ {g : Sg} {c : Addr}, IsK s.heap g c → QuietAt P w 8 s (.ref c) := fun {g c} x => quiet_key _ _ 8 s x (by rw [nk_depth]; omega)
  unfold searchCouldBeSeen
  refine wpAny_bind ?_
  refine wpAny_forIn_list _ (fun l r s' => r.1 = none ∧ s' = s ∧ ∀ y ∈ l, ∃ g' c, y = Value.ref c ∧ IsK s.heap g' c) _ ?_ ?_ _ _ ⟨rfl, rfl, hy⟩
  · rintro v l r s' ⟨hr, rfl, hall⟩
    obtain ⟨g', c, rfl, hc⟩ := hall v (by simp)
    have tl : ∀ y ∈ l, ∃ g' c, y = Value.ref c ∧ IsK s'.heap g' c := fun u hu => hall u (List.mem_cons_of_mem _ hu)
    dsimp only
    by_cases hv : (b == c || (carriedByValue (.ref b) && carriedByValue (.ref c))) = true
    · refine wp_if_pos hv ?_
      exact wpAny_pure ⟨rfl, rfl, tl⟩
    · refine wp_if_neg hv ?_
      refine wpAny_bind (quiet hk _ _ _ ?_)
      simp only [Bool.not_true, Bool.false_eq_true, if_false]
      refine wpAny_bind (quiet hc _ _ _ ?_)
      simp only [Bool.not_true, Bool.false_eq_true, if_false]
      refine wpAny_bind ((tame_sg hk).1 _ _ _ ?_)
      simp only [Bool.false_eq_true, if_false]
      refine wpAny_bind ((tame_sg hc).1 _ _ _ ?_)
      simp only [Bool.false_eq_true, if_false]
      exact wpAny_pure ⟨rfl, rfl, tl⟩
  · rintro ⟨r1, r2⟩ s' ⟨hr, rfl, _⟩
    simp only at hr
    subst hr
    exact wpAny_pure h

/-! ### the set -/
abbrev Ls : Type := List (Addr × Sg)
def ents (hf : Sg → Int) (L : Ls) : List (Int × Value) := L.map fun p => (hf p.2, Value.ref p.1)
structure SetS (w : World) (hf : Sg → Int) (h : Heap) (a : Addr) (L : Ls) (es : Array (Int × Value)) (ep : Nat) (t : SetTable) : Prop where
  ob : ∃ o, h.get? a = some o ∧ o.ExactSet ∧ o.data = .set es ep t
  rows : es.toList = ents hf L
  tab : Tab t (L.map fun p => hf p.2)
  nd : (L.map (·.2)).Nodup
  keys : ∀ p ∈ L, IsK h p.2 p.1
  plain : t.plain = true
  led : w.params.followText "set-order" = true ∨ t.led = true
  room : L.length * 5 < t.mask * 3
  few : L.length ≤ 300
variable {hf : Sg → Int} {a : Addr} {L : Ls} {es : Array (Int × Value)} {ep : Nat} {t : SetTable}
theorem ents_size (e : es.toList = ents hf L) : es.size = L.length := by
  have h := congrArg List.length e
  simpa [ents] using h
theorem ents_at (e : es.toList = ents hf L) {i : Nat} {p : Addr × Sg} (h : L[i]? = some p) : es[i]? = some (hf p.2, Value.ref p.1) := by
  rw [← Array.getElem?_toList, e]
  unfold ents
  rw [List.getElem?_map, h]
  rfl
theorem fits_of {n : Nat} (h1 : t.place.size = n) (h2 : t.dummies = #[]) (h3 : n ≤ t.mask) : t.fits n = true := by
  unfold SetTable.fits SetTable.fill
  rw [h2, Bool.and_eq_true, beq_iff_eq, decide_eq_true_eq]
  exact ⟨h1, by rw [h1]; exact h3⟩
theorem SetS.fits (R : SetS w hf s.heap a L es ep t) : t.fits es.size = true := by
  have h1 := R.tab.sz
  have h2 := ents_size R.rows
  have h3 := R.room
  rw [List.length_map] at h1
  exact fits_of (by omega) R.tab.dm (by omega)
theorem SetS.gw (R : SetS w hf s.heap a L es ep t) : ¬ t.gaveWay = true := by
  unfold SetTable.gaveWay
  rw [mok_odd R.tab.mok]
  decide
theorem no_dummy (m : Nat) : ∀ (n : Nat) (p : SetTable.Probe), p.dummy = none → (nth m p n).dummy = none
  | 0, _, h => h
  | n + 1, p, h => no_dummy m n (adv m p) (by unfold adv; split <;> exact h)

/-- the search for a segment, from the c-th step of its way -/
theorem seek (R : SetS w hf s.heap a L es ep t) {x : Addr} {g : Sg} (hx : IsK s.heap g x) (hu : A.units + 2 < cLine) {K : Nat} (hKf : K < 10 * SetTable.turns t.mask)
    (hK : way t.mask (hf g) K ∉ t.place.toList) (hKb : ∀ c, c < K → way t.mask (hf g) c ∈ t.place.toList) {Q : SetFound → Shared → Prop}
    (yes : g ∈ L.map (·.2) → Q (.there none) s) (no : g ∉ L.map (·.2) → Q (.free (way t.mask (hf g) K) false) s) :
    ∀ (f c : Nat) (st : Option SetTable.Probe), st.getD (t.probeStart (hf g)) = nth t.mask (runAt t.mask (SetTable.bits (hf g) % (t.mask + 1)) (SetTable.bits (hf g))) c → c ≤ K → K - c < f →
      (∀ (i : Nat) p, L[i]? = some p → p.2 = g → ∃ c', c ≤ c' ∧ c' < K ∧ t.place.toList[i]? = some (way t.mask (hf g) c')) →
      wpAny (model P w) A (setSearchFrom a (.ref x) (hf g) true f st) Q E s := by
  obtain ⟨o, ho, hex, hd⟩ := R.ob
  have hT : x = x := rfl
  generalize hw0 : runAt t.mask (SetTable.bits (hf g) % (t.mask + 1)) (SetTable.bits (hf g)) = w0
  have way_eq : ∀ k, way t.mask (hf g) k = (nth t.mask w0 k).j := fun k => by unfold way; rw [hw0]
  have w0d : w0.dummy = none := by rw [← hw0]; rfl
  intro f
  induction f with
  | zero => intro c st _ _ hfu _; exact absurd hfu (Nat.not_lt_zero _)
  | succ f ih =>
    intro c st hst hc hfu hre
    rw [setSearchFrom_succ]
    refine wpAny_bind (wpAny_setState_of ho hd R.fits ?_)
    dsimp only
    refine wp_if_neg R.gw ?_
    try refine wpAny_bind (wpAny_pure ?_)
    have sh : ∀ q, nth t.mask (nth t.mask w0 c) q = nth t.mask w0 (c + q) := fun q => (nth_add t.mask c w0 q).symm
    have jw : ∀ q, (nth t.mask (nth t.mask w0 c) q).j = way t.mask (hf g) (c + q) := fun q => by rw [sh, way_eq]
    have hashAt : ∀ (i : Nat) p, L[i]? = some p → (es[i]?.map (·.1)).getD 0 = hf p.2 := fun i p hp => by
      rw [ents_at R.rows hp]; rfl
    rcases go_spec t R.tab.ris R.tab.dm (fun i => (es[i]?.map (·.1)).getD 0) (hf g) (10 * SetTable.turns t.mask) (K - c) (nth t.mask w0 c) (no_dummy _ _ _ w0d) (by omega)
      (fun q hq => by rw [jw]; exact hKb (c + q) (by omega)) (by rw [jw, show c + (K - c) = K by omega]; exact hK) with ⟨q, i, hq, hi, hh, hno, hpr⟩ | ⟨hno, hpr⟩
    · have hpr' : t.probe (fun i => (es[i]?.map (·.1)).getD 0) (hf g) (st.getD (t.probeStart (hf g))) = some (.candidate (way t.mask (hf g) (c + q)) i (nth t.mask w0 (c + (q + 1)))) := by
        rw [hst, ← jw, ← sh]
        exact hpr
      rw [hpr']
      dsimp only
      rw [jw] at hi
      have hil : i < L.length := by
        have h1 := (List.getElem?_eq_some_iff.mp hi).1
        have h2 := R.tab.sz
        rw [List.length_map] at h2
        rw [Array.length_toList] at h1
        omega
      obtain ⟨p, hp⟩ : ∃ p, L[i]? = some p := ⟨_, List.getElem?_eq_getElem hil⟩
      have hmem := List.mem_of_getElem? hp
      have body : wpAny (model P w) A (searchRest a (.ref x) (hf g) true f es t (way t.mask (hf g) (c + q)) i (nth t.mask w0 (c + (q + 1)))) Q E s := by
        unfold searchRest
        rw [ents_at R.rows hp]
        dsimp only
        refine wpAny_bind (wpAny_holding (eqAt_key (nk p.2) (nk g) A s _ _ (R.keys p hmem) hx (by rw [nk_depth, nk_depth]; omega) _ _ _ _ ?_))
        rw [nk_beq]
        refine wpAny_bind (wpAny_setState_of ho hd R.fits ?_)
        dsimp only
        by_cases hkk : p.2 = g
        · refine wp_if_pos (by simp [hkk]) ?_
          exact wpAny_pure (yes (List.mem_map.mpr ⟨p, hmem, hkk⟩))
        · refine wp_if_neg (by simp [hkk]) ?_
          try refine wpAny_bind (wpAny_pure ?_)
          rw [sameMem]
          dsimp only
          have hsl : t.slot (way t.mask (hf g) (c + q)) = .live i := slot_live R.tab.ris hi
          simp only [if_true, hsl, ents_at R.rows hp]
          refine wpAny_bind (wpAny_isSame_ref_self (wpAny_bind (wpAny_pure ?_)))
          simp only [if_true]
          refine wp_if_neg (by simp [hkk]) ?_
          refine ih (c + (q + 1)) _ rfl (by omega) (by omega) fun i0 p0 h0 hk0 => ?_
          obtain ⟨c', a1, a2, a3⟩ := hre i0 p0 h0 hk0
          refine ⟨c', ?_, a2, a3⟩
          have same : (es[i0]?.map (·.1)).getD 0 = hf g := by rw [hashAt i0 p0 h0, hk0]
          by_cases z : c' < c + q
          · exact absurd same (hno (c' - c) i0 (by omega) (by rw [jw, show c + (c' - c) = c' by omega]; exact a3))
          · by_cases y : c' = c + q
            · exfalso
              rw [y] at a3
              have s0 := slot_live R.tab.ris a3
              rw [hsl] at s0
              injection s0 with s0
              rw [← s0, hp] at h0
              exact hkk ((congrArg Prod.snd (Option.some.inj h0)).trans hk0)
            · omega
      by_cases hl : t.led = true
      · refine wp_if_neg (by simp [hl]) ?_
        try refine wpAny_bind (wpAny_pure ?_)
        exact body
      · refine wp_if_pos (by simp [hl]) ?_
        refine wpAny_bind (unseen hx (fun y hy => ?_) ?_)
        · obtain ⟨e, he, ee⟩ := List.mem_map.mp hy
          have he2 : e ∈ es.toList := by have : e ∈ es ∧ e.1 = hf g := by simpa using he
                                         simpa using this.1
          rw [R.rows] at he2
          obtain ⟨p2, hp2, e2⟩ := List.mem_map.mp he2
          exact ⟨p2.2, p2.1, by rw [← ee, ← e2], R.keys p2 hp2⟩
        · refine wp_if_neg (by decide) ?_
          try refine wpAny_bind (wpAny_pure ?_)
          exact body
    · have hpr' : t.probe (fun i => (es[i]?.map (·.1)).getD 0) (hf g) (st.getD (t.probeStart (hf g))) = some (.empty (way t.mask (hf g) K) none) := by
        have e2 : way t.mask (hf g) K = (nth t.mask (nth t.mask w0 c) (K - c)).j := by rw [jw, show c + (K - c) = K by omega]
        rw [hst, e2]
        exact hpr
      rw [hpr']
      dsimp only
      refine wpAny_pure (no fun hm => ?_)
      obtain ⟨p0, h0, hk0⟩ := List.mem_map.mp hm
      obtain ⟨i0, hi0, e0⟩ := List.getElem_of_mem h0
      have h00 : L[i0]? = some p0 := by rw [List.getElem?_eq_getElem hi0, e0]
      obtain ⟨c', a1, a2, a3⟩ := hre i0 p0 h00 hk0
      exact hno (c' - c) i0 (by omega) (by rw [jw, show c + (c' - c) = c' by omega]; exact a3) (by show (es[i0]?.map (·.1)).getD 0 = _; rw [hashAt i0 p0 h00, hk0])
theorem search (R : SetS w hf s.heap a L es ep t) {x : Addr} {g : Sg} (hx : IsK s.heap g x) (hu : A.units + 2 < cLine) {Q : SetFound → Shared → Prop}
    (yes : g ∈ L.map (·.2) → Q (.there none) s)
    (no : ∀ K, g ∉ L.map (·.2) → way t.mask (hf g) K ∉ t.place.toList → (∀ c, c < K → way t.mask (hf g) c ∈ t.place.toList) → Q (.free (way t.mask (hf g) K) false) s) :
    wpAny (model P w) A (setSearch a (.ref x) (hf g) true) Q E s := by
  have hroom := R.room
  obtain ⟨K, hKf, hK, hKb⟩ := R.tab.first (by rw [List.length_map]; omega) (hf g)
  have hm := mok_le R.tab.mok
  have ht : SetTable.turns t.mask = t.mask + 15 := rfl
  unfold setSearch
  refine seek R hx hu hKf hK hKb yes (fun hn => no K hn hK hKb) 100000 0 none rfl (Nat.zero_le _) (by omega) fun i p hp hk => ?_
  have hi : (L.map fun p => hf p.2)[i]? = some (hf g) := by rw [List.getElem?_map, hp, ← hk]; rfl
  have hil : i < t.place.toList.length := by
    have h1 := (List.getElem?_eq_some_iff.mp hp).1
    have h2 := R.tab.sz
    rw [List.length_map] at h2
    rw [Array.length_toList]
    omega
  have hj := List.getElem?_eq_getElem hil
  obtain ⟨c, hc, e⟩ := R.tab.before hK hi hj
  exact ⟨c, Nat.zero_le _, hc, by rw [hj, e]⟩
end
end K25S

set_option Elab.async false
set_option linter.all false
set_option maxRecDepth 100000
set_option maxHeartbeats 4000000
/-! Sets of segments, three: adding, the loop of set.update, set(xs). Own text. -/
namespace K25S
open PySem PySem.Spec PyProof.Rows L2 K25
section
variable {P : Program} {w : World} {A : Around} {E : Value → Shared → Prop} {s : Shared} {hf : Sg → Int} {a : Addr} {L : Ls} {es : Array (Int × Value)} {ep : Nat} {t : SetTable}
theorem ents_ins (L : Ls) (p : Nat) (x : Addr) (g : Sg) : ents hf (L.take p ++ (x, g) :: L.drop p) = (ents hf L).take p ++ (hf g, Value.ref x) :: (ents hf L).drop p := by
  simp [ents, List.map_take, List.map_drop]
theorem ins_perm {α : Type} (L : List α) (p : Nat) (x : α) : (L.take p ++ x :: L.drop p).Perm (x :: L) := by
  have h := List.perm_middle (a := x) (l₁ := L.take p) (l₂ := L.drop p)
  rw [List.take_append_drop] at h
  exact h
theorem filterMap_range {α : Type} (L : List α) : (List.range L.length).filterMap (fun i => L[i]?) = L := by
  have go : ∀ n, n ≤ L.length → (List.range n).filterMap (fun i => L[i]?) = L.take n := by
    intro n
    induction n with
    | zero => intro _; rfl
    | succ n ih =>
      intro hn
      have e : L[n]? = some L[n] := List.getElem?_eq_getElem hn
      rw [List.range_succ, List.filterMap_append, ih (by omega), List.take_add_one, e]
      congr 1
      rw [List.filterMap_cons_some e]
      rfl
  rw [go _ (Nat.le_refl _), List.take_length]
/-- the entries in another order -/
theorem ents_order (hr : es.toList = ents hf L) {order : Array Nat} (hp : order.toList.Perm (List.range L.length)) :
    ∃ L2, (order.filterMap (es[·]?)).toList = ents hf L2 ∧ L2.Perm L ∧ (L2.map fun p => hf p.2) = order.toList.map fun i => (es.map (·.1)).getD i 0 := by
  have hsz := ents_size hr
  have go : ∀ l : List Nat, (∀ i ∈ l, i < L.length) → l.filterMap (fun i => es[i]?) = ents hf (l.filterMap fun i => L[i]?) ∧ ((l.filterMap fun i => L[i]?).map fun p => hf p.2) = l.map fun i => (es.map (·.1)).getD i 0 := by
    intro l
    induction l with
    | nil => intro _; exact ⟨rfl, rfl⟩
    | cons i l ih =>
      intro hl
      have hlt : i < L.length := hl i (by simp)
      obtain ⟨v, hi⟩ : ∃ v, L[i]? = some v := ⟨_, List.getElem?_eq_getElem hlt⟩
      obtain ⟨e1, e2⟩ := ih fun j hj => hl j (List.mem_cons_of_mem _ hj)
      have he := ents_at hr hi
      refine ⟨?_, ?_⟩
      · rw [List.filterMap_cons_some he, List.filterMap_cons_some hi, e1]
        rfl
      · rw [List.filterMap_cons_some hi, List.map_cons, List.map_cons, e2]
        congr 1
        have e5 : (es.map (·.1))[i]? = some (hf v.2) := by rw [Array.getElem?_map, he]; rfl
        simp [Array.getD_eq_getD_getElem?, e5]
  obtain ⟨e1, e2⟩ := go order.toList fun i hi => List.mem_range.mp (hp.mem_iff.mp hi)
  refine ⟨_, by rw [← e1]; simp, ?_, e2⟩
  have h := hp.filterMap fun i => L[i]?
  rwa [filterMap_range] at h
/-- laid anew, larger -/
theorem regrow {o : Obj} (ho : s.heap.get? a = some o) (hex : o.ExactSet) (hd : o.data = .set es ep t) (hr : es.toList = ents hf L) (hsz : t.place.size = es.size) (hdm : t.dummies = #[]) (hfl : es.size ≤ t.mask)
    (nd : (L.map (·.2)).Nodup) (ks : ∀ p ∈ L, IsK s.heap p.2 p.1) (pl : t.plain = true) (ld : w.params.followText "set-order" = true ∨ t.led = true) (few : L.length ≤ 300) {wanted M : Nat}
    (hw : SetTable.sizeAbove wanted - 1 = M) (hM : Mok M) (hw2 : SetTable.sizeAbove wanted ≤ 512) (hn : L.length * 5 < M * 3) {Q : Unit → Shared → Prop}
    (hQ : ∀ h' L' es' ep' t', Heap.SameBut a s.heap h' → SetS w hf h' a L' es' ep' t' → L'.Perm L → Q () { s with heap := h' }) : wpAny (model P w) A (setRelay a wanted) Q E s := by
  have hsl := ents_size hr
  obtain ⟨t', order, e, hp, T, em, el, epl⟩ := relaid (t := t) (hs := es.map (·.1)) hw hM (by rw [Array.size_map]; omega)
  rw [Array.size_map, hsl] at hp
  obtain ⟨L2, r1, r2, r3⟩ := ents_order hr hp
  rw [← r3] at T
  have hs2 : (order.filterMap (es[·]?)).size = es.size := by
    have h := ents_size r1
    rw [h, r2.length_eq, hsl]
  rw [setRelay_eq]
  refine wpAny_bind (wpAny_setState_of ho hd (fits_of hsz hdm hfl) ?_)
  dsimp only
  refine wp_if_neg (by rw [sizeLine_eq]; omega) ?_
  try refine wpAny_bind (wpAny_pure ?_)
  rw [e]
  dsimp only
  refine wpAny_bind ?_
  refine wp_if_neg (by rw [hs2]; simp) ?_
  try refine wpAny_bind (wpAny_pure ?_)
  refine wpAny_pure ?_
  dsimp only
  refine wpAny_storeSet_of ho hd ?_ (by rw [hs2, hsl, sizeLine_eq]; omega)
  have sb : Heap.SameBut a s.heap (s.heap.update a (Obj.putSet (order.filterMap (es[·]?)) t')) := Heap.SameBut.update ..
  refine hQ _ L2 (order.filterMap (es[·]?)) (ep + 1) t' sb ?_ r2
  exact ⟨⟨_, store_at ho hd, ⟨hex.1, hex.2.1, hex.2.2⟩, rfl⟩, r1, T, (r2.map (·.2)).nodup_iff.mpr nd, fun p hpm => (ks p (r2.mem_iff.mp hpm)).but ho hd sb, by rw [epl]; exact pl, by rw [el]; exact ld,
    by rw [r2.length_eq, em]; exact hn, by rw [r2.length_eq]; exact few⟩
/-- one segment added -/
theorem add (R : SetS w hf s.heap a L es ep t) {x : Addr} {g : Sg} (hx : IsK s.heap g x) (hu : A.units + 2 < cLine) (hfew : L.length + 1 ≤ 300) {Q : Bool → Shared → Prop}
    (hQ : ∀ b h' L' es' ep' t', Heap.SameBut a s.heap h' → SetS w hf h' a L' es' ep' t' → (g ∈ L.map (·.2) → L' = L) → (g ∉ L.map (·.2) → L'.Perm ((x, g) :: L)) → Q b { s with heap := h' }) :
    wpAny (model P w) A (setAddHashed a (.ref x) (hf g)) Q E s := by
  obtain ⟨o, ho, hex, hd⟩ := R.ob
  have hsl := ents_size R.rows
  have hroom := R.room
  unfold setAddHashed
  refine wpAny_holding ?_
  rw [show (100000 : Nat) = 99999 + 1 from rfl, setAddHashedIn_succ]
  refine wpAny_bind (wpAny_setState_of ho hd R.fits ?_)
  dsimp only
  refine wp_if_neg (by simp [byScan, Value.scannable]) ?_
  try refine wpAny_bind (wpAny_pure ?_)
  refine wpAny_bind (search R hx hu (fun hm => ?_) fun K hm hK hb => ?_)
  · dsimp only
    exact wpAny_pure (hQ false s.heap L es ep t (Heap.SameBut.refl a s.heap) R (fun _ => rfl) fun z => absurd hm z)
  · dsimp only
    refine wpAny_bind (wpAny_setState_of ho hd R.fits ?_)
    dsimp only
    generalize hj : way t.mask (hf g) K = j at *
    generalize hpp : SetTable.below t.place j = p
    obtain ⟨q2, q3, q9⟩ := R.tab.put hj hpp hK hb
    rw [List.length_map] at q2 q9
    have ept : t.put j = ((t.put j).1, p) := by rw [← hpp]; rfl
    have q4 : (t.put j).1.mask = t.mask := rfl
    have q5 : (t.put j).1.led = t.led := rfl
    have hp1 : (t.put j).1.plain = true := R.plain
    rw [ept]
    generalize (t.put j).1 = t1 at *
    dsimp only
    first
      | (refine wpAny_bind ?_; refine wp_if_pos hp1 ?_; refine (tame_sg hx).2 _ _ _ ?_)
      | refine wp_if_pos hp1 (wpAny_bind ((tame_sg hx).2 _ _ _ ?_))
    simp only [if_true]
    have hin : (SetTable.insertAt es p (hf g, Value.ref x)).toList = ents hf (L.take p ++ (x, g) :: L.drop p) := by
      rw [SetTable.toList_insertAt, ents_ins, R.rows]
    have pm := ins_perm L p (x, g)
    have hlen : (L.take p ++ (x, g) :: L.drop p).length = L.length + 1 := pm.length_eq
    have hhs : (L.take p ++ (x, g) :: L.drop p).map (fun p => hf p.2) = (L.map fun p => hf p.2).take p ++ hf g :: (L.map fun p => hf p.2).drop p := by
      simp [List.map_take, List.map_drop]
    rw [← hhs] at q3
    have nd1 : ((L.take p ++ (x, g) :: L.drop p).map (·.2)).Nodup := by
      refine (pm.map (·.2)).nodup_iff.mpr ?_
      rw [List.map_cons]
      exact List.nodup_cons.mpr ⟨hm, R.nd⟩
    have hes : (SetTable.insertAt es p (hf g, Value.ref x)).size = L.length + 1 := by rw [ents_size hin, hlen]
    generalize SetTable.insertAt es p (hf g, Value.ref x) = es1 at hin hes ⊢
    generalize L.take p ++ (x, g) :: L.drop p = L1 at pm hlen q3 nd1 hin
    refine wpAny_bind (wpAny_storeSet_of ho hd ?_ (by rw [hes, sizeLine_eq]; omega))
    have sb : Heap.SameBut a s.heap (s.heap.update a (Obj.putSet es1 t1)) := Heap.SameBut.update ..
    have ho1 := store_at (es' := es1) (t' := t1) ho hd
    generalize s.heap.update a (Obj.putSet es1 t1) = h1 at sb ho1 ⊢
    have ks1 : ∀ p ∈ L1, IsK h1 p.2 p.1 := fun p hp => by
      rcases List.mem_cons.mp (pm.mem_iff.mp hp) with e | hp
      · rw [e]; exact hx.but ho hd sb
      · exact (R.keys p hp).but ho hd sb
    have ld1 : w.params.followText "set-order" = true ∨ t1.led = true := by rw [q5]; exact R.led
    by_cases hfl : t1.tooFull = true
    · first
        | (refine wpAny_bind ?_; refine wp_if_pos (by simp [hfl]) ?_)
        | (refine wp_if_pos (by simp [hfl]) ?_; refine wpAny_bind ?_)
      have hfull : (L.length + 1) * 5 ≥ t.mask * 3 := by
        have h := hfl
        unfold SetTable.tooFull at h
        rw [decide_eq_true_eq, q9, q4] at h
        exact h
      rw [hsl]
      have hsz1 : t1.place.size = es1.size := by
        have h := q3.sz
        rw [List.length_map, hlen] at h
        rw [h, hes]
      have which : (t.mask = 7 ∧ L.length = 4) ∨ (t.mask = 31 ∧ L.length = 18) ∨ (t.mask = 127 ∧ L.length = 76) := by
        rcases R.tab.mok with (e | e | e) | e <;> rw [e] at hfull hroom ⊢ <;> omega
      have go : ∀ M, SetTable.sizeAbove (SetTable.grown (L.length + 1)) - 1 = M → Mok M → SetTable.sizeAbove (SetTable.grown (L.length + 1)) ≤ 512 → (L.length + 1) * 5 < M * 3 →
          wpAny (model P w) A (setRelay a (SetTable.grown (L.length + 1))) (fun _ s' => wpAny (model P w) A (pure true) Q E s') E { s with heap := h1 } := fun M h1' h2' h3' h4' => by
        refine regrow (s := { s with heap := h1 }) ho1 ⟨hex.1, hex.2.1, hex.2.2⟩ rfl hin hsz1 q3.dm (by rw [hes, q4]; omega) nd1 ks1 hp1 ld1 (by rw [hlen]; exact hfew) h1' h2' h3' (by rw [hlen]; exact h4') ?_
        intro h2 L2 es2 ep2 t2 sb2 R2 pm2
        exact wpAny_pure (hQ true h2 L2 es2 ep2 t2 (sb.trans sb2) R2 (fun z => absurd z hm) fun _ => pm2.trans pm)
      rcases which with ⟨_, e2⟩ | ⟨_, e2⟩ | ⟨_, e2⟩
      · exact go 31 (by rw [e2, size_20]) (.inl (.inr (.inl rfl))) (by rw [e2, size_20]; decide) (by omega)
      · exact go 127 (by rw [e2, size_76]) (.inl (.inr (.inr rfl))) (by rw [e2, size_76]; decide) (by omega)
      · exact go 511 (by rw [e2, size_308]) (.inr rfl) (by rw [e2, size_308]; decide) (by omega)
    · first
        | refine wp_if_neg (by simp [hfl]) ?_
        | (refine wpAny_bind ?_; refine wp_if_neg (by simp [hfl]) ?_; refine wpAny_pure ?_)
      refine wpAny_pure (hQ true h1 L1 es1 (ep + 1) t1 sb ⟨⟨_, ho1, ⟨hex.1, hex.2.1, hex.2.2⟩, rfl⟩, hin, q3, nd1, ks1, hp1, ld1, ?_, by rw [hlen]; exact hfew⟩ (fun z => absurd z hm) fun _ => pm)
      have h := hfl
      unfold SetTable.tooFull at h
      rw [decide_eq_true_eq, q9] at h
      rw [hlen]
      omega

/-! ### set.update's loop -/
/-- what stands in the set behind the first i items -/
structure Gt (ks : Ls) (i : Nat) (L : Ls) : Prop where
  sub : ∀ p ∈ L, p ∈ ks.take i
  all : ∀ p ∈ ks.take i, p.2 ∈ L.map (·.2)
  len : L.length ≤ i
theorem take_snoc {α : Type} {l : List α} {i : Nat} {x : α} (h : l[i]? = some x) : l.take (i + 1) = l.take i ++ [x] := by
  rw [List.take_add_one, h]
  rfl
theorem Gt.step {ks L L' : Ls} {i : Nat} {x : Addr × Sg} (g : Gt ks i L) (h : ks[i]? = some x) (c1 : x.2 ∈ L.map (·.2) → L' = L) (c2 : x.2 ∉ L.map (·.2) → L'.Perm (x :: L)) : Gt ks (i + 1) L' := by
  by_cases c : x.2 ∈ L.map (·.2)
  · rw [c1 c]
    refine ⟨fun p hp => by rw [take_snoc h]; exact List.mem_append_left _ (g.sub p hp), fun p hp => ?_, by have := g.len; omega⟩
    rw [take_snoc h] at hp
    rcases List.mem_append.mp hp with z | z
    · exact g.all p z
    · rw [List.mem_singleton.mp z]; exact c
  · have pm := c2 c
    refine ⟨fun p hp => ?_, fun p hp => ?_, ?_⟩
    · rw [take_snoc h]
      rcases List.mem_cons.mp (pm.mem_iff.mp hp) with e | z
      · rw [e]; simp
      · exact List.mem_append_left _ (g.sub p z)
    · rw [(pm.map (·.2)).mem_iff, List.map_cons]
      rw [take_snoc h] at hp
      rcases List.mem_append.mp hp with z | z
      · exact List.mem_cons_of_mem _ (g.all p z)
      · rw [List.mem_singleton.mp z]; simp
    · rw [pm.length_eq, List.length_cons]
      have := g.len
      omega
theorem SetS.keep {h h' : Heap} (R : SetS w hf h a L es ep t) (ha : ∀ o, h.get? a = some o → h'.get? a = some o) (hk : ∀ p ∈ L, IsK h' p.2 p.1) : SetS w hf h' a L es ep t := by
  obtain ⟨o, ho, r⟩ := R.ob
  exact ⟨⟨o, ha o ho, r⟩, R.rows, R.tab, R.nd, hk, R.plain, R.led, R.room, R.few⟩
theorem fresh_set {h : Heap} (ho : h.get? a = some { cls := .type "set", dict := none, data := .set #[] 0 (.fresh 0 0 (!w.params.followText "set-order")) }) : SetS w hf h a [] #[] 0 (.fresh 0 0 (!w.params.followText "set-order")) where
  ob := ⟨_, ho, ⟨rfl, rfl, rfl⟩, rfl⟩
  rows := rfl
  tab := ⟨List.Pairwise.nil, rfl, rfl, .inl (.inl rfl), fun x hx => (by cases hx), fun i h j hi => (by simp at hi)⟩
  nd := List.nodup_nil
  keys := fun p hp => (by cases hp)
  plain := rfl
  led := by
    show _ ∨ (!w.params.followText "set-order") = true
    cases w.params.followText "set-order" <;> simp
  room := by show 0 * 5 < 7 * 3; decide
  few := by show 0 ≤ 300; decide
end
section
variable {P : Program} {w : World} {A : Around} {E : Value → Shared → Prop} {s : Shared}
theorem hsh_py {g : Sg} {x : Addr} (hx : IsK s.heap g x) (hu : A.units + 2 < cLine) {Q : Int → Shared → Prop} (h : Q (hsh w g) { s with toks := s.toks + (nk g).draws }) : wpAny (model P w) A (pyHash (.ref x)) Q E s :=
  pyHash_key (nk g) _ A s Q hx (by rw [nk_depth]; omega) h
theorem update_loop {I : Addr} {fp wr : List Addr} {G : Array GenState → Array GenState → Prop} {n : Nat} {Pv : Nat → Value → Prop} {St : Nat → Shared → Prop} {R : Result → Shared → Prop} {hf : Sg → Int} (hh : hf = hsh w)
    (W : WalksS P w A.in1 I fp wr G n Pv St) (S : Addr) (hSf : S ∉ fp) (ks : Ls) (hn : n = ks.length) (hfew : ks.length ≤ 300) (hval : ∀ i v, Pv i v → ∃ p, ks[i]? = some p ∧ v = .ref p.1)
    (h0 : Heap) (hk : ∀ p ∈ ks, IsK h0 p.2 p.1) (hS0 : h0.get? S = none) (hw0 : ∀ b ∈ wr, h0.get? b = none) (hu : A.in1.units + 2 < cLine) :
    ∀ (k i : Nat) (s : Shared), n - i = k → i ≤ n → St i s → (∀ b o, h0.get? b = some o → s.heap.get? b = some o) → (∃ L es ep t, SetS w hf s.heap S L es ep t ∧ Gt ks i L) →
      (∀ s' L es ep t, Moved (S :: wr) G s s' → SetS w hf s'.heap S L es ep t → Gt ks n L → (∀ b o, h0.get? b = some o → s'.heap.get? b = some o) → R (.ok (.ret .none)) s') →
      codeAny (model P w) A (.builtin "set.update.loop" ⟨[.ref S, .ref I], []⟩) R s := by
  have hSw : S ∉ wr := fun h => hSf (W.sub _ h)
  have hsub : ∀ b ∈ wr, b ∈ S :: wr := fun b hb => List.mem_cons_of_mem _ hb
  have stay : ∀ {s s' : Shared}, Moved wr G s s' → (∀ b o, h0.get? b = some o → s.heap.get? b = some o) → ∀ b o, h0.get? b = some o → s'.heap.get? b = some o := fun hm hkp b o e =>
    hm.heap b o (fun hb => by rw [hw0 b hb] at e; cases e) (hkp b o e)
  intro k
  induction k with
  | zero =>
    intro i s hk' hi hst hkp ⟨L, es, ep, t, hS, g⟩ hR
    obtain rfl : i = n := by omega
    refine codeAny_builtin F.entry_set_update_loop ?_
    rw [Around.under_plainId F.plain_set_update_loop _]
    show wpAny _ A.in1 (pyNext (.ref I) >>= _) _ _ s
    refine wpAny_bind (W.done s _ _ hst fun s' hm => ?_)
    show wpAny _ A.in1 (ret Value.none) _ _ s'
    have hkp' := stay hm hkp
    exact wpAny_pure (hR s' L es ep t (hm.mono hsub) (hS.keep (fun o e => hm.heap S o hSw e) fun p hp => (hk p (List.mem_of_mem_take (g.sub p hp))).keep hkp') g hkp')
  | succ k ih =>
    intro i s hk' hi hst hkp ⟨L, es, ep, t, hS, g⟩ hR
    have hlt : i < n := by omega
    refine codeAny_builtin F.entry_set_update_loop ?_
    rw [Around.under_plainId F.plain_set_update_loop _]
    show wpAny _ A.in1 (pyNext (.ref I) >>= _) _ _ s
    refine wpAny_bind (W.item i s _ _ hlt hst fun v s' hP hst' hm => ?_)
    obtain ⟨p, hp, rfl⟩ := hval i v hP
    have hkp' := stay hm hkp
    have hS' : SetS w hf s'.heap S L es ep t := hS.keep (fun o e => hm.heap S o hSw e) fun q hq => (hk q (List.mem_of_mem_take (g.sub q hq))).keep hkp'
    have hx : IsK s'.heap p.2 p.1 := (hk p (List.mem_of_getElem? hp)).keep hkp'
    show wpAny _ A.in1 (holding [Value.ref p.1] (setAdd S (.ref p.1)) >>= _) _ _ s'
    refine wpAny_bind (wpAny_holding ?_)
    unfold setAdd
    refine wpAny_holding ?_
    refine wpAny_bind (hsh_py hx hu ?_)
    rw [← hh]
    refine add (s := { s' with toks := s'.toks + (nk p.2).draws }) hS' hx hu (by have := g.len; omega) fun b h' L' es' ep' t' hsb hS2 c1 c2 => ?_
    have hkp2 : ∀ b o, h0.get? b = some o → h'.get? b = some o := fun b o e => (hsb.2 b (fun z => by rw [z, hS0] at e; cases e)).trans (hkp' b o e)
    refine wpAny_pure ⟨plainId_quiet F.plain_set_update_loop _, ih (i + 1) _ (by omega) hlt (W.frame _ s' _ _ hst' (Nat.le_add_right _ _) fun b hb o e => ?_) hkp2 ⟨L', es', ep', t', hS2, g.step hp c1 c2⟩ fun s'' L2 es2 ep2 t2 hm'' hS'' g'' hkp'' => ?_⟩
    · rw [hsb.2 b (fun h : b = S => hSf (by rw [← h]; exact hb))]; exact e
    · refine hR s'' L2 es2 ep2 t2 (Moved.trans W.gtrans ((hm.mono hsub).then_heap (Nat.le_add_right _ _) fun b o hb e => ?_) hm'') hS'' g'' hkp''
      rw [hsb.2 b (fun h : b = S => hb (by rw [h]; exact List.mem_cons_self))]; exact e
end
end K25S

set_option Elab.async false
set_option linter.all false
set_option maxRecDepth 100000
set_option maxHeartbeats 4000000
/-! Sets of segments, four: set(xs) of a list and of a tuple. Printed by genset.py. -/
namespace K25S
open PySem PySem.Spec PyProof.Rows L2 K25
/-- a set just made -/
abbrev FS (w : World) : Obj := { cls := .type "set", dict := none, data := .set #[] 0 (.fresh 0 0 (!w.params.followText "set-order")) }
section
variable {P : Program} {w : World} {A : Around} {E : Value → Shared → Prop} {s : Shared}
theorem set_of_list {l : Addr} {items : Array Value} (ks : Ls) {Q : Value → Shared → Prop} (hh : A.handled = none) (hl : s.heap.IsList l items) (hit : items.toList = ks.map fun p => Value.ref p.1)
    (hk : ∀ p ∈ ks, IsK s.heap p.2 p.1) (hfew : ks.length ≤ 300) (hu : A.units + 8 < cLine)
    (h : ∀ (h' : Heap) (tk : Nat) L es ep t, SetS w (hsh w) h' s.heap.objs.size L es ep t → Gt ks ks.length L → (∀ b o, s.heap.get? b = some o → h'.get? b = some o) →
      Q (.ref s.heap.objs.size) { s with heap := h', toks := tk }) : wpAny (model P w) A (call (.type "set") [.ref l]) Q E s := by
  have hisz : items.size = ks.length := by
    have q := congrArg List.length hit
    rwa [Array.length_toList, List.length_map] at q
  obtain ⟨c, tl, hmro⟩ := F.called_set.mro
  have hmade := F.called_set.made
  have hsub := F.called_set.sub
  refine wpAny_call (codeAny_of_tree ?_)
  show wpAny _ _ (callAny (.type "set") _) _ _ _
  refine wpAny_pure ⟨Code.quiet_builtin _ (by decide +kernel), codeAny_builtin F.entry_type_call ?_⟩
  rw [Around.under_plain (weight_type_call_type "set" [.ref l] []) rfl]
  have h1 := F.called_set.notType
  have h2 := F.called_set.canCreate
  have hct := F.typeCall_set_1 (.ref l)
  repeat (any_goals (first | assumption | wp_step))
  refine codeAny_mono (code_set_led1 (.ref l) (E := E) (Q₁ := fun obj s₁ => obj = .ref s.heap.objs.size ∧ s₁ = { s with heap := s.heap.push (FS w) }) ⟨rfl, rfl⟩) fun r s₁ hr => ?_
  cases r with
  | error e => exact hr
  | ok fl =>
    cases fl with
    | next => exact hr.elim
    | brk => exact hr.elim
    | cont => exact hr.elim
    | ret obj =>
      obtain ⟨rfl, rfl⟩ := hr
      have hS : (s.heap.push (FS w)).get? s.heap.objs.size = some (FS w) := Heap.get?_push_size _ rfl
      have hT : Shared.TypeIs { s with heap := s.heap.push (FS w) } (.ref s.heap.objs.size) "set" := ⟨_, hS, rfl⟩
      have hli := F.called_set.init.lookup
      have hbi := F.called_set.init.bind (.ref s.heap.objs.size)
      repeat (any_goals (first | assumption | wp_step))
      refine codeAny_mono (codeAny_call_builtin (R := wants (fun r s₂ => r = .none ∧ ∃ h' tk L es ep t, s₂ = { s with heap := h', toks := tk } ∧ SetS w (hsh w) h' s.heap.objs.size L es ep t ∧
        Gt ks ks.length L ∧ (∀ b o, s.heap.get? b = some o → h'.get? b = some o)) E) F.called_set.init.plain F.entry_set_init (check_set_init_1 hT ?_)) fun r₂ s₂ hr₂ => ?_
      · obtain ⟨ol, hol, hcl, nl, hdl⟩ := hl
        obtain ⟨ocls, odict, odata, oslots⟩ := ol
        simp only at hcl hdl
        subst hcl; subst hdl
        have hol' : (s.heap.push (FS w)).get? l = some { cls := .type "list", dict := odict, data := .seq items nl, slots := oslots } := Heap.get?_push_of_some _ hol
        have hsls := F.sub_list_set
        have hslf := F.sub_list_frozenset
        have hne : (Value.type "list" == Value.type "dict") = false := by decide
        have hl1 : (s.heap.push (FS w)).IsList l items := ⟨_, hol', rfl, nl, rfl⟩
        unfold Builtin.«set.__init__» noKeywords Builtin.Frozenset.updateFrom
        generalize hPI : pyIter = PI
        wp_walk
        subst hPI
        refine wpAny_pyIter_list hl1 ?_
        refine wpAny_bind (wpAny_runValue ?_)
        have hlS : l < s.heap.objs.size := Heap.lt_size hol
        have hh3 : A.in1.in1.in1.handled = none := by simp [hh]
        have hz1 : (s.heap.push (FS w)).objs.size = s.heap.objs.size + 1 := Heap.size_push ..
        have hneI : l ≠ (s.heap.push (FS w)).objs.size := by rw [hz1]; exact Nat.ne_of_lt (Nat.lt_succ_of_lt hlS)
        have hSf : s.heap.objs.size ∉ [(s.heap.push (FS w)).objs.size, l] := by
          rw [hz1]
          simp only [List.mem_cons, List.mem_singleton, List.not_mem_nil, or_false, not_or]
          exact ⟨Nat.ne_of_lt (Nat.lt_succ_self _), Nat.ne_of_gt hlS⟩
        have hval : ∀ (i : Nat) (v : Value), items[i]? = some v → ∃ p, ks[i]? = some p ∧ v = .ref p.1 := fun i v hv => by
          have q : items.toList[i]? = some v := by rw [Array.getElem?_toList]; exact hv
          rw [hit, List.getElem?_map] at q
          cases hq : ks[i]? with
          | none => rw [hq] at q; cases q
          | some p => rw [hq] at q; exact ⟨p, rfl, (Option.some.inj q).symm⟩
        have gone : ∀ b, s.heap.objs.size ≤ b → s.heap.get? b = none := fun b hb => Heap.get?_none_of_le hb
        refine update_loop (hf := hsh w) rfl ((Walks.list hh3 _ l hneI items).toS) s.heap.objs.size hSf ks hisz hfew hval s.heap hk (gone _ (Nat.le_refl _))
          (fun b hb => gone b (by rw [List.mem_singleton.mp hb, hz1]; exact Nat.le_succ _)) (by simp only [Around.in1_units]; omega) (items.size - 0) 0 _ (by omega) (Nat.zero_le _)
          ⟨⟨_, Heap.get?_push_size _ rfl, rfl, rfl⟩, (hl1.push _)⟩ (fun b o e => Heap.get?_push_of_some _ (Heap.get?_push_of_some _ e)) ?hS0 ?hR
        case hS0 =>
          exact ⟨[], #[], 0, _, fresh_set (Heap.get?_push_of_some _ hS), ⟨fun p h => (by cases h), fun p h => (by simp at h), Nat.le_refl _⟩⟩
        case hR =>
          intro s' L es ep t hm hS' g' hkp
          obtain ⟨h', g2, d', tk', os'⟩ := s'
          obtain rfl : g2 = s.gens := hm.gens
          obtain rfl : d' = s.drawn := hm.drawn
          obtain rfl : os' = s.os := hm.os
          show wpAny _ _ _ _ _ _
          refine wpAny_pure ?_
          show wpAny _ _ (ret Value.none) _ _ _
          rw [hisz] at g'
          exact wpAny_pure ⟨rfl, h', tk', L, es, ep, t, rfl, hS', g', hkp⟩
      · cases r₂ with
        | error e => exact hr₂
        | ok fl₂ =>
          cases fl₂ with
          | next => exact hr₂.elim
          | brk => exact hr₂.elim
          | cont => exact hr₂.elim
          | ret r =>
            obtain ⟨rfl, h', tk, L, es, ep, t, rfl, hS', g', hk'⟩ := hr₂
            repeat (any_goals (first | assumption | wp_step))
            exact h _ _ _ _ _ _ hS' g' hk'
theorem set_of_tuple {l : Addr} {items : Array Value} (ks : Ls) {Q : Value → Shared → Prop} (hh : A.handled = none) (hl : s.heap.IsTuple l items) (hit : items.toList = ks.map fun p => Value.ref p.1)
    (hk : ∀ p ∈ ks, IsK s.heap p.2 p.1) (hfew : ks.length ≤ 300) (hu : A.units + 8 < cLine)
    (h : ∀ (h' : Heap) (tk : Nat) L es ep t, SetS w (hsh w) h' s.heap.objs.size L es ep t → Gt ks ks.length L → (∀ b o, s.heap.get? b = some o → h'.get? b = some o) →
      Q (.ref s.heap.objs.size) { s with heap := h', toks := tk }) : wpAny (model P w) A (call (.type "set") [.ref l]) Q E s := by
  have hisz : items.size = ks.length := by
    have q := congrArg List.length hit
    rwa [Array.length_toList, List.length_map] at q
  obtain ⟨c, tl, hmro⟩ := F.called_set.mro
  have hmade := F.called_set.made
  have hsub := F.called_set.sub
  refine wpAny_call (codeAny_of_tree ?_)
  show wpAny _ _ (callAny (.type "set") _) _ _ _
  refine wpAny_pure ⟨Code.quiet_builtin _ (by decide +kernel), codeAny_builtin F.entry_type_call ?_⟩
  rw [Around.under_plain (weight_type_call_type "set" [.ref l] []) rfl]
  have h1 := F.called_set.notType
  have h2 := F.called_set.canCreate
  have hct := F.typeCall_set_1 (.ref l)
  repeat (any_goals (first | assumption | wp_step))
  refine codeAny_mono (code_set_led1 (.ref l) (E := E) (Q₁ := fun obj s₁ => obj = .ref s.heap.objs.size ∧ s₁ = { s with heap := s.heap.push (FS w) }) ⟨rfl, rfl⟩) fun r s₁ hr => ?_
  cases r with
  | error e => exact hr
  | ok fl =>
    cases fl with
    | next => exact hr.elim
    | brk => exact hr.elim
    | cont => exact hr.elim
    | ret obj =>
      obtain ⟨rfl, rfl⟩ := hr
      have hS : (s.heap.push (FS w)).get? s.heap.objs.size = some (FS w) := Heap.get?_push_size _ rfl
      have hT : Shared.TypeIs { s with heap := s.heap.push (FS w) } (.ref s.heap.objs.size) "set" := ⟨_, hS, rfl⟩
      have hli := F.called_set.init.lookup
      have hbi := F.called_set.init.bind (.ref s.heap.objs.size)
      repeat (any_goals (first | assumption | wp_step))
      refine codeAny_mono (codeAny_call_builtin (R := wants (fun r s₂ => r = .none ∧ ∃ h' tk L es ep t, s₂ = { s with heap := h', toks := tk } ∧ SetS w (hsh w) h' s.heap.objs.size L es ep t ∧
        Gt ks ks.length L ∧ (∀ b o, s.heap.get? b = some o → h'.get? b = some o)) E) F.called_set.init.plain F.entry_set_init (check_set_init_1 hT ?_)) fun r₂ s₂ hr₂ => ?_
      · obtain ⟨ol, hol, hcl, nl, hdl⟩ := hl
        obtain ⟨ocls, odict, odata, oslots⟩ := ol
        simp only at hcl hdl
        subst hcl; subst hdl
        have hol' : (s.heap.push (FS w)).get? l = some { cls := .type "tuple", dict := odict, data := .seq items nl, slots := oslots } := Heap.get?_push_of_some _ hol
        have hsls := F.sub_tuple_set
        have hslf := F.sub_tuple_frozenset
        have hne : (Value.type "tuple" == Value.type "dict") = false := by decide
        have hl1 : (s.heap.push (FS w)).IsTuple l items := ⟨_, hol', rfl, nl, rfl⟩
        unfold Builtin.«set.__init__» noKeywords Builtin.Frozenset.updateFrom
        generalize hPI : pyIter = PI
        wp_walk
        subst hPI
        refine wpAny_pyIter_tuple hl1 ?_
        refine wpAny_bind (wpAny_runValue ?_)
        have hlS : l < s.heap.objs.size := Heap.lt_size hol
        have hh3 : A.in1.in1.in1.handled = none := by simp [hh]
        have hz1 : (s.heap.push (FS w)).objs.size = s.heap.objs.size + 1 := Heap.size_push ..
        have hneI : l ≠ (s.heap.push (FS w)).objs.size := by rw [hz1]; exact Nat.ne_of_lt (Nat.lt_succ_of_lt hlS)
        have hSf : s.heap.objs.size ∉ [(s.heap.push (FS w)).objs.size, l] := by
          rw [hz1]
          simp only [List.mem_cons, List.mem_singleton, List.not_mem_nil, or_false, not_or]
          exact ⟨Nat.ne_of_lt (Nat.lt_succ_self _), Nat.ne_of_gt hlS⟩
        have hval : ∀ (i : Nat) (v : Value), items[i]? = some v → ∃ p, ks[i]? = some p ∧ v = .ref p.1 := fun i v hv => by
          have q : items.toList[i]? = some v := by rw [Array.getElem?_toList]; exact hv
          rw [hit, List.getElem?_map] at q
          cases hq : ks[i]? with
          | none => rw [hq] at q; cases q
          | some p => rw [hq] at q; exact ⟨p, rfl, (Option.some.inj q).symm⟩
        have gone : ∀ b, s.heap.objs.size ≤ b → s.heap.get? b = none := fun b hb => Heap.get?_none_of_le hb
        refine update_loop (hf := hsh w) rfl ((Walks.tuple hh3 _ l hneI items).toS) s.heap.objs.size hSf ks hisz hfew hval s.heap hk (gone _ (Nat.le_refl _))
          (fun b hb => gone b (by rw [List.mem_singleton.mp hb, hz1]; exact Nat.le_succ _)) (by simp only [Around.in1_units]; omega) (items.size - 0) 0 _ (by omega) (Nat.zero_le _)
          ⟨⟨_, Heap.get?_push_size _ rfl, rfl, rfl⟩, (hl1.push _)⟩ (fun b o e => Heap.get?_push_of_some _ (Heap.get?_push_of_some _ e)) ?hS0 ?hR
        case hS0 =>
          exact ⟨[], #[], 0, _, fresh_set (Heap.get?_push_of_some _ hS), ⟨fun p h => (by cases h), fun p h => (by simp at h), Nat.le_refl _⟩⟩
        case hR =>
          intro s' L es ep t hm hS' g' hkp
          obtain ⟨h', g2, d', tk', os'⟩ := s'
          obtain rfl : g2 = s.gens := hm.gens
          obtain rfl : d' = s.drawn := hm.drawn
          obtain rfl : os' = s.os := hm.os
          show wpAny _ _ _ _ _ _
          refine wpAny_pure ?_
          show wpAny _ _ (ret Value.none) _ _ _
          rw [hisz] at g'
          exact wpAny_pure ⟨rfl, h', tk', L, es, ep, t, rfl, hS', g', hkp⟩
      · cases r₂ with
        | error e => exact hr₂
        | ok fl₂ =>
          cases fl₂ with
          | next => exact hr₂.elim
          | brk => exact hr₂.elim
          | cont => exact hr₂.elim
          | ret r =>
            obtain ⟨rfl, h', tk, L, es, ep, t, rfl, hS', g', hk'⟩ := hr₂
            repeat (any_goals (first | assumption | wp_step))
            exact h _ _ _ _ _ _ hS' g' hk'
end
end K25S

set_option Elab.async false
set_option linter.all false
set_option maxRecDepth 100000
set_option maxHeartbeats 4000000
/-! Rules of our own over the hand layer, one: points and segments as tracked tuples; sorted; set. Own text. -/
namespace K25
open PySem PySem.Spec PyProof.Rows L2 K25S
/-! ### what stands for a point, a segment -/
def PtV (H : Hp) (v : V) (p : Pt) : Prop := ∃ a, v = .ref a ∧ H a = some (.tup [.int p.1, .int p.2])
def SgV (H : Hp) (v : V) (g : Sg) : Prop := ∃ a v1 v2, v = .ref a ∧ H a = some (.tup [v1, v2]) ∧ PtV H v1 g.1 ∧ PtV H v2 g.2
/-- tuples stay -/
def Tps (H H' : Hp) : Prop := ∀ b xs, H b = some (.tup xs) → H' b = some (.tup xs)
theorem Tps.refl (H : Hp) : Tps H H := fun _ _ h => h
theorem Tps.trans {H H1 H2 : Hp} (a : Tps H H1) (b : Tps H1 H2) : Tps H H2 := fun c o h => b c o (a c o h)
theorem Tps.of {H H' : Hp} (h : Same H H') : Tps H H' := fun b xs e => h b _ e
theorem Tps.new {H : Hp} {a : Addr} {o : HO} (h : H a = none) : Tps H (upd H a o) := fun b xs e => by rw [upd_ne (ne_of_none e h)]; exact e
theorem Tps.set {H : Hp} {a : Addr} {o u : HO} (h : H a = some u) (hu : ∀ xs, u ≠ .tup xs) : Tps H (upd H a o) := fun b xs e => by
  rw [upd_ne (fun z => by rw [z, h] at e; exact hu xs (Option.some.inj e))]; exact e
theorem PtV.mono {H H' : Hp} (t : Tps H H') {v : V} {p : Pt} (h : PtV H v p) : PtV H' v p := by
  obtain ⟨a, e, h⟩ := h; exact ⟨a, e, t _ _ h⟩
theorem SgV.mono {H H' : Hp} (t : Tps H H') {v : V} {g : Sg} (h : SgV H v g) : SgV H' v g := by
  obtain ⟨a, v1, v2, e, h, h1, h2⟩ := h; exact ⟨a, v1, v2, e, t _ _ h, h1.mono t, h2.mono t⟩
theorem PtV.inj {H : Hp} {v : V} {p q : Pt} (h : PtV H v p) (k : PtV H v q) : p = q := by
  obtain ⟨a, e, h⟩ := h
  obtain ⟨b, e', k⟩ := k
  rw [e] at e'; cases e'
  rw [h] at k
  simp only [Option.some.injEq, HO.tup.injEq, List.cons.injEq, V.int.injEq, and_true] at k
  exact Prod.ext k.1 k.2
theorem SgV.inj {H : Hp} {v : V} {p q : Sg} (h : SgV H v p) (k : SgV H v q) : p = q := by
  obtain ⟨a, v1, v2, e, h, h1, h2⟩ := h
  obtain ⟨b, u1, u2, e', k, k1, k2⟩ := k
  rw [e] at e'; cases e'
  rw [h] at k
  simp only [Option.some.injEq, HO.tup.injEq, List.cons.injEq, and_true] at k
  obtain ⟨rfl, rfl⟩ := k
  exact Prod.ext (h1.inj k1) (h2.inj k2)
/-- rows of them -/
def PtVs (H : Hp) (vs : List V) (ps : List Pt) : Prop := Paired (PtV H) vs ps
def SgVs (H : Hp) (vs : List V) (gs : List Sg) : Prop := Paired (SgV H) vs gs
theorem PtVs.mono {H H' : Hp} (t : Tps H H') {vs : List V} {ps : List Pt} (h : PtVs H vs ps) : PtVs H' vs ps := Paired.mapP h fun _ _ => PtV.mono t
theorem SgVs.mono {H H' : Hp} (t : Tps H H') {vs : List V} {ps : List Sg} (h : SgVs H vs ps) : SgVs H' vs ps := Paired.mapP h fun _ _ => SgV.mono t
/-- as data -/
def ptD (p : Pt) : PyData := .tuple [.int p.1, .int p.2]
def sgD (g : Sg) : PyData := .tuple [ptD g.1, ptD g.2]
theorem PtV.dp {K : PySem.W.Frag} {H : Hp} {v : V} {p : Pt} (h : PtV H v p) : Dp K H v (ptD p) := by
  obtain ⟨a, rfl, h⟩ := h
  exact .tup (.of h) (.cons (.int _) (.cons (.int _) .nil))
theorem SgV.dp {K : PySem.W.Frag} {H : Hp} {v : V} {g : Sg} (h : SgV H v g) : Dp K H v (sgD g) := by
  obtain ⟨a, v1, v2, rfl, h, h1, h2⟩ := h
  exact .tup (.of h) (.cons h1.dp (.cons h2.dp .nil))
theorem ptD_depth (p : Pt) : (ptD p).depth = 1 := by simp [ptD, PyData.depth, PyData.depthAll]
theorem sgD_depth (g : Sg) : (sgD g).depth = 2 := by simp [sgD, ptD, PyData.depth, PyData.depthAll]
theorem ptD_alike (p q : Pt) : PySem.W.alike (ptD p) (ptD q) = true := by simp [ptD, PySem.W.alike, PySem.W.alikeAll]
theorem sgD_alike (p q : Sg) : PySem.W.alike (sgD p) (sgD q) = true := by simp [sgD, ptD, PySem.W.alike, PySem.W.alikeAll]
theorem ptD_eqv (p q : Pt) : PyData.eqv (ptD p) (ptD q) = decide (p = q) := by
  obtain ⟨a, b⟩ := p
  obtain ⟨c, d⟩ := q
  simp only [ptD, PyData.eqv, PyData.eqvAll]
  by_cases h1 : a = c <;> by_cases h2 : b = d <;> simp [h1, h2]
theorem sgD_eqv (p q : Sg) : PyData.eqv (sgD p) (sgD q) = decide (p = q) := by
  obtain ⟨a, b⟩ := p
  obtain ⟨c, d⟩ := q
  simp only [sgD, PyData.eqv, PyData.eqvAll, ptD_eqv]
  by_cases h1 : a = c <;> by_cases h2 : b = d <;> simp [h1, h2]
theorem ptD_lt (p q : Pt) : PySem.W.dataLt (ptD p) (ptD q) = decide (PLt p q) := PySem.W.dataLt_ii _ _ _ _
theorem sgD_lt (p q : Sg) : PySem.W.dataLt (sgD p) (sgD q) = decide (SLt p q) := by
  unfold sgD
  rw [PySem.W.dataLt_pair (ptD_alike _ _) (ptD_alike _ _), ptD_eqv, ptD_eqv, ptD_lt, ptD_lt]
  unfold SLt
  by_cases h1 : p.1 = q.1
  · have n1 : ¬ PLt p.1 q.1 := by rw [h1]; exact PLt.irrefl _
    by_cases h2 : p.2 = q.2
    · have n2 : ¬ PLt p.2 q.2 := by rw [h2]; exact PLt.irrefl _
      simp [h1, h2, n1, n2, PLt.irrefl]
    · simp [h1, h2, n1, PLt.irrefl]
  · simp [h1]
/-- in the heap -/
theorem isP_of {X : Cx} {pins : List (Addr × Obj)} {σ : L2.St} {H : Hp} {s : Shared} (I : Inv X pins σ H s) {v : V} {u : Value} {p : Pt} (h : PtV H v p) (r : RelV v u) : NestedIs s.heap (pk p) u := by
  obtain ⟨a, rfl, h⟩ := h
  cases r
  obtain ⟨_, its, rv, o, ho, hc, n, hd⟩ := I.hok a _ h
  cases rv with
  | cons r1 rv =>
    cases rv with
    | cons r2 rv =>
      cases rv
      obtain ⟨t1, rfl⟩ := r1
      obtain ⟨t2, rfl⟩ := r2
      exact .tup ho hc hd (.cons (.int _ _) (.cons (.int _ _) .nil))
theorem isK_of {X : Cx} {pins : List (Addr × Obj)} {σ : L2.St} {H : Hp} {s : Shared} (I : Inv X pins σ H s) {v : V} {g : Sg} (h : SgV H v g) : ∃ a, v = .ref a ∧ IsK s.heap g a := by
  obtain ⟨a, v1, v2, rfl, h, h1, h2⟩ := h
  refine ⟨a, rfl, ?_⟩
  obtain ⟨_, its, rv, o, ho, hc, n, hd⟩ := I.hok a _ h
  cases rv with
  | cons r1 rv =>
    cases rv with
    | cons r2 rv =>
      cases rv
      exact .tup ho hc hd (.cons (isP_of I h1 r1) (.cons (isP_of I h2 r2) .nil))

/-! ### what can be collected -/
def Coll (X : Cx) (H : Hp) (a : Addr) (xs : List V) : Prop := ∀ (pins : List (Addr × Obj)) (σ : L2.St) (s : Shared) (E : Value → Shared → Prop) (Q : List Value → Shared → Prop), Inv X pins σ H s →
  (∀ s1 vs xs', Inv X pins σ H s1 → (∀ b o, s.heap.get? b = some o → s1.heap.get? b = some o) → xs'.Perm xs → Vals xs' vs → Q vs s1) →
  wpAny (model X.prog X.w) X.A.in1 (collect (.ref a)) Q E s
/-! ### sorted -/
def rSorted (X : Cx) {β : Type} (enc : β → PyData) (le : β → β → Bool) : List V → Hp → VK → Prop := fun vs H Q => ∃ (a : Addr) (zs : List (V × β)), vs = [.ref a] ∧ Coll X H a (zs.map (·.1)) ∧ (∀ z ∈ zs, Dp X.K H z.1 (enc z.2)) ∧ zs.length ≤ sizeLine ∧
  ∀ (zs' : List (V × β)) (p : Addr), zs'.Perm zs → zs'.Pairwise (fun a b => le a.2 b.2 = true) → H p = none → Q (.ref p) (upd H p (.lst (zs'.map (·.1))))
theorem zip_back {β : Type} : ∀ {xs' : List V} {zs : List (V × β)}, xs'.Perm (zs.map (·.1)) → ∃ zs' : List (V × β), zs'.Perm zs ∧ xs' = zs'.map (·.1)
  | [], zs, h => by
    have := h.nil_eq
    cases zs with
    | nil => exact ⟨[], .refl _, rfl⟩
    | cons z zs => simp at this
  | x :: xs', zs, h => by
    have hx : x ∈ zs.map (·.1) := h.mem_iff.mp (by simp)
    obtain ⟨z, hz, rfl⟩ := List.mem_map.mp hx
    obtain ⟨l1, l2, rfl⟩ := List.append_of_mem hz
    have h2 : xs'.Perm ((l1 ++ l2).map (·.1)) := by
      rw [List.map_append, List.map_cons] at h
      rw [List.map_append]
      exact (h.trans List.perm_middle).cons_inv
    obtain ⟨zs', p, e⟩ := zip_back h2
    exact ⟨z :: zs', (p.cons z).trans List.perm_middle.symm, by rw [e]; rfl⟩
theorem each_of_vals {β : Type} : ∀ {zs : List (V × β)} {vs : List Value}, Vals (zs.map (·.1)) vs → PySem.W.EachIs (fun v (z : V × β) => L2.RelV z.1 v) vs zs
  | [], _, h => by cases h; exact .nil
  | z :: zs, _, h => by
    have h : Vals (z.1 :: zs.map (·.1)) _ := h
    cases h with
    | cons r t => exact .cons r (each_of_vals t)
theorem vals_of_each {β : Type} : ∀ {zs : List (V × β)} {vs : List Value}, PySem.W.EachIs (fun v (z : V × β) => L2.RelV z.1 v) vs zs → Vals (zs.map (·.1)) vs
  | [], _, .nil => .nil
  | _ :: _, _, .cons r t => .cons r (vals_of_each t)
theorem each_imp {α β : Type} {R S : α → β → Prop} : ∀ {as : List α} {bs : List β}, (∀ a b, b ∈ bs → R a b → S a b) → PySem.W.EachIs R as bs → PySem.W.EachIs S as bs
  | _, _, _, .nil => .nil
  | _, _, h, .cons r t => .cons (h _ _ (by simp) r) (each_imp (fun a b m => h a b (List.mem_cons_of_mem _ m)) t)
section
variable {X : Cx}
theorem cr_sorted {β : Type} {enc : β → PyData} {le : β → β → Bool} (hle : PySem.W.dataLe false enc = le) (tr : ∀ a b c, le a b = true → le b c = true → le a c = true) (to : ∀ a b, (le a b || le b a) = true)
    (hal : ∀ b b', PySem.W.alike (enc b) (enc b') = true) (ht : ∀ b, ∃ x r, enc b = .tuple (x :: r)) (hd : ∀ b, (enc b).depth ≤ 8) (hno : ∀ (h : Heap) (v : Value) (b : β) (as : List Addr), Reads h v (enc b) as → as = []) (hu : X.A.units + 64 < cLine) :
    CallR X (.builtin "sorted") (rSorted X enc le) := by
  intro pins s σ H vs us Q I r h
  obtain ⟨a, zs, rfl, C, hz, hl, q⟩ := h
  rw [Vals.ref1 r]
  refine Calls.call_function_entry kind_sorted plain_sorted entry_sorted (args_sorted1 _) ?_
  unfold Builtin.«sorted»
  refine wpAny_bind (m := checkCount "sorted" 1 1 _) (wpAny_pure ?_)
  refine wpAny_bind (C pins σ s _ _ I fun s1 vs xs' I1 k pm rv => ?_)
  obtain ⟨zs1, pz, rfl⟩ := zip_back pm
  have hl1 : vs.length ≤ sizeLine := by rw [← rv.length, List.length_map, pz.length_eq]; exact hl
  refine wpAny_bind (wpAny_newList ?_ hl1)
  have hoL : (s1.heap.push (seqObj "list" vs.toArray 0)).get? s1.heap.objs.size = some (seqObj "list" vs.toArray 0) := Heap.get?_push_size _ rfl
  have ei : PySem.W.EachIs (fun v (z : V × β) => L2.RelV z.1 v) vs zs1 := each_of_vals rv
  have er : PySem.W.EachIs (fun v (z : V × β) => ∃ as, Reads (s1.heap.push (seqObj "list" vs.toArray 0)) v (enc z.2) as ∧ s1.heap.objs.size ∉ as) vs zs1 := each_imp (fun v z m rz => by
    obtain ⟨as, rd⟩ := Dp.reads I1 (enc z.2) z.1 v (hz z (pz.mem_iff.mp m)) rz
    refine ⟨as, PyProof.Rows.Reads.keeps (fun b u e => Heap.get?_push_of_some _ e) rd, ?_⟩
    rw [hno _ _ _ _ rd]
    simp) ei
  refine wpAny_bind (wpAny_holding (PySem.W.list_sort_data (R := fun v (z : V × β) => L2.RelV z.1 v) (enc := fun z : V × β => enc z.2) (s := { s1 with heap := s1.heap.push (seqObj "list" vs.toArray 0) }) hoL ei er
    (PySem.W.AllAlike.of fun b b' => hal _ _) (PySem.W.Sortable.tuples fun b => ht _) (by rw [pz.length_eq]; exact hl) (fun b _ => by have := hd b.2; simp only [Around.in1_units]; omega) fun out lo eo => ?_))
  obtain ⟨c, hc⟩ := sortedHeap_at (vs := vs) (out := out.toArray) hoL
  have ele : PySem.W.dataLe false (fun z : V × β => enc z.2) = fun x y => le x.2 y.2 := by rw [← hle]; rfl
  rw [ele] at eo
  have pm2 : (zs1.mergeSort fun x y => le x.2 y.2).Perm zs := (List.mergeSort_perm _ _).trans pz
  have pw : (zs1.mergeSort fun x y => le x.2 y.2).Pairwise fun x y => le x.2 y.2 = true := List.pairwise_mergeSort (le := fun x y : V × β => le x.2 y.2) (fun a b c => tr a.2 b.2 c.2) (fun a b => to a.2 b.2) zs1
  generalize zs1.mergeSort (fun x y => le x.2 y.2) = zs2 at eo pm2 pw
  refine wpAny_pure ⟨_, rfl, ?_⟩
  have kp : ∀ b u, s1.heap.get? b = some u → (sortedHeap (s1.heap.push (seqObj "list" vs.toArray 0)) s1.heap.objs.size vs out.toArray).get? b = some u := fun b u e => by
    have hlt := Heap.lt_size e
    rw [sortedHeap_old (Nat.ne_of_lt hlt) (by rw [size_push']; exact Nat.lt_succ_of_lt hlt)]
    exact Heap.get?_push_of_some _ e
  have hn : H s1.heap.objs.size = none := I1.hok.fresh (Nat.le_refl _)
  have hlen : (zs2.map (·.1)).length ≤ sizeLine := by rw [List.length_map, pm2.length_eq]; exact hl
  exact ⟨.ref _, upd H s1.heap.objs.size (.lst (zs2.map (·.1))), I1.laid (t' := s1.toks) kp (Nat.le_refl _) ⟨hlen, out, c, vals_of_each eo, hc⟩, rfl, q zs2 _ pm2 pw hn⟩
theorem coll_seq {H : Hp} {a : Addr} {xs : List V} (h : SqL X.K H a xs ∨ SqT X.K H a xs) : Coll X H a xs := by
  intro pins σ s E Q I hQ
  have go : ∀ (T : String) (o : Obj) (n : Nat) (its : List Value), T = "list" ∨ T = "tuple" → s.heap.get? a = some o → o.cls = .type T → o.data = .seq its.toArray n → Vals xs its → xs.length ≤ sizeLine →
      wpAny (model X.prog X.w) X.A.in1 (collect (.ref a)) Q E s := fun T o n its hT ho hc hd rv hz =>
    wpAny_collect_seq a hT ho hc hd (fun h' k => hQ _ _ xs (I.kept (t' := s.toks) k) k (.refl _) rv) (by rw [List.size_toArray, ← rv.length]; exact hz)
  rcases h with h | h
  · obtain ⟨its, rv, ⟨o, n, ho, hc, _, hd⟩, hz⟩ := I.list h
    exact go "list" o n its (.inl rfl) ho hc hd rv hz
  · obtain ⟨its, rv, ⟨o, ho, hc, n, hd⟩, hz⟩ := I.tuple h
    exact go "tuple" o n its (.inr rfl) ho hc hd rv hz
/-! ### the two orders -/
def ptLe (p q : Pt) : Bool := !decide (PLt q p)
def sgLe (p q : Sg) : Bool := !decide (SLt q p)
theorem ptLe_data : PySem.W.dataLe false ptD = ptLe := by
  funext p q
  show (!PySem.W.dataLt (ptD q) (ptD p)) = _
  rw [ptD_lt]; rfl
theorem sgLe_data : PySem.W.dataLe false sgD = sgLe := by
  funext p q
  show (!PySem.W.dataLt (sgD q) (sgD p)) = _
  rw [sgD_lt]; rfl
theorem ptLe_iff {p q : Pt} : ptLe p q = true ↔ ¬ PLt q p := by simp [ptLe]
theorem sgLe_iff {p q : Sg} : sgLe p q = true ↔ ¬ SLt q p := by simp [sgLe]
theorem ptLe_tr (a b c : Pt) (h : ptLe a b = true) (k : ptLe b c = true) : ptLe a c = true := by
  rw [ptLe_iff] at *
  unfold PLt at *
  omega
theorem ptLe_to (a b : Pt) : (ptLe a b || ptLe b a) = true := by
  by_cases h : PLt b a
  · have := h.asymm; simp [ptLe, h, this]
  · simp [ptLe, h]
theorem sgLe_tr (a b c : Sg) (h : sgLe a b = true) (k : sgLe b c = true) : sgLe a c = true := by
  rw [sgLe_iff] at *
  intro z
  by_cases e : SLt b c
  · exact h (e.trans z)
  · rw [SLt.total e k] at h
    exact h z
theorem sgLe_to (a b : Sg) : (sgLe a b || sgLe b a) = true := by
  by_cases h : SLt b a
  · have := h.asymm; simp [sgLe, h, this]
  · simp [sgLe, h]
theorem noL_int {h : Heap} {v : Value} {i : Int} {as : List Addr} (r : Reads h v (.int i) as) : as = [] := by cases r; rfl
theorem noL_pt {h : Heap} {v : Value} {p : Pt} {as : List Addr} (r : Reads h v (ptD p) as) : as = [] := by
  unfold ptD at r
  cases r with
  | @tuple _ _ vs _ _ _ _ _ _ r =>
    generalize vs.toList = l at r
    cases r with
    | cons r1 r =>
      cases r with
      | cons r2 r =>
        cases r
        rw [noL_int r1, noL_int r2]
        rfl
theorem noL_sg {h : Heap} {v : Value} {p : Sg} {as : List Addr} (r : Reads h v (sgD p) as) : as = [] := by
  unfold sgD at r
  cases r with
  | @tuple _ _ vs _ _ _ _ _ _ r =>
    generalize vs.toList = l at r
    cases r with
    | cons r1 r =>
      cases r with
      | cons r2 r =>
        cases r
        rw [noL_pt r1, noL_pt r2]
        rfl
theorem cr_sortedP (hu : X.A.units + 64 < cLine) : CallR X (.builtin "sorted") (rSorted X ptD ptLe) :=
  cr_sorted ptLe_data ptLe_tr ptLe_to ptD_alike (fun b => ⟨_, _, rfl⟩) (fun b => by rw [ptD_depth]; omega) (fun _ _ _ _ => noL_pt) hu
theorem cr_sortedG (hu : X.A.units + 64 < cLine) : CallR X (.builtin "sorted") (rSorted X sgD sgLe) :=
  cr_sorted sgLe_data sgLe_tr sgLe_to sgD_alike (fun b => ⟨_, _, rfl⟩) (fun b => by rw [sgD_depth]; omega) (fun _ _ _ _ => noL_sg) hu

/-! ### a set of segments -/
structure SetB (w : World) (h : Heap) (a : Addr) (L : Ls) : Prop where
  ex : ∃ (es : Array (Int × Value)) (ep : Nat) (t : SetTable), (∃ o, h.get? a = some o ∧ o.ExactSet ∧ o.data = .set es ep t) ∧ es.toList = ents (hsh w) L ∧ Tab t (L.map fun p => hsh w p.2) ∧ (L.map (·.2)).Nodup ∧ t.plain = true ∧
    (w.params.followText "set-order" = true ∨ t.led = true) ∧ L.length * 5 < t.mask * 3 ∧ L.length ≤ 300
def SetO (w : World) (a : Addr) (L : Ls) : HO := .ext fun h => SetB w h a L
theorem setO_ok {P : Program} {w : World} {H : Hp} {h : Heap} {a : Addr} {L : Ls} (R : SetB w h a L) : ObjOk P w H h a (SetO w a L) := by
  have ⟨es, ep, t, ⟨o, ho, r⟩, q⟩ := R.ex
  refine ⟨R, ⟨o, ho⟩, fun h1 h2 p k => ?_⟩
  have ⟨es', ep', t', ⟨o', ho', r'⟩, q'⟩ := SetB.ex p
  exact ⟨es', ep', t', ⟨o', k o' ho', r'⟩, q'⟩
theorem refs_sg {H : Hp} : ∀ {vs : List V} {gs : List Sg}, SgVs H vs gs → ∃ ks : Ls, vs = ks.map (fun p => V.ref p.1) ∧ gs = ks.map (·.2) ∧ ∀ p ∈ ks, SgV H (.ref p.1) p.2
  | _, _, .nil => ⟨[], rfl, rfl, fun p h => by cases h⟩
  | _, _, .cons r t => by
    obtain ⟨ks, e1, e2, h⟩ := refs_sg t
    obtain ⟨a, v1, v2, e, r'⟩ := id r
    refine ⟨(a, _) :: ks, by rw [e, e1]; rfl, by rw [e2]; rfl, fun p hp => ?_⟩
    rcases List.mem_cons.mp hp with z | z
    · rw [z]; rw [e] at r; exact r
    · exact h p z
theorem vals_refs : ∀ {ks : Ls} {us : List Value}, Vals (ks.map fun p => V.ref p.1) us → us = ks.map fun p => Value.ref p.1
  | [], _, h => by cases h; rfl
  | p :: ks, _, h => by
    have h : Vals (V.ref p.1 :: ks.map fun p => V.ref p.1) _ := h
    cases h with
    | cons r t => cases r; rw [vals_refs t]; rfl
theorem refs_vals : ∀ (ks : Ls), Vals (ks.map fun p => V.ref p.1) (ks.map fun p => Value.ref p.1)
  | [] => .nil
  | p :: ks => .cons rfl (refs_vals ks)
/-- set(xs), xs a list or a tuple of segments -/
def rSetOf (X : Cx) : List V → Hp → VK → Prop := fun xs H Q => ∃ (l : Addr) (vs : List V) (gs : List Sg), xs = [V.ref l] ∧ (SqL X.K H l vs ∨ SqT X.K H l vs) ∧ SgVs H vs gs ∧ gs.length ≤ 300 ∧
  ∀ (a : Addr) (L : Ls), H a = none → (∀ p ∈ L, SgV H (.ref p.1) p.2) → (∀ g, g ∈ L.map (·.2) ↔ g ∈ gs) → (L.map (·.2)).Nodup → L.length ≤ 300 → Q (.ref a) (upd H a (SetO X.w a L))
theorem cr_setOf (hc : X.calm = true) (hu : X.A.units + 64 < cLine) : CallR X (.type "set") (rSetOf X) := by
  intro pins s σ H xs us Q I r h
  obtain ⟨l, vs, gs, rfl, hl, hv, hz, q⟩ := h
  rw [Vals.ref1 r]
  obtain ⟨ks, rfl, rfl, hk⟩ := refs_sg hv
  have hn : H s.heap.objs.size = none := I.hok.fresh (Nat.le_refl _)
  have kK : ∀ p ∈ ks, IsK s.heap p.2 p.1 := fun p hp => by
    obtain ⟨a, e, x⟩ := isK_of I (hk p hp)
    cases e
    exact x
  rw [List.length_map] at hz
  have fin : ∀ (h' : Heap) (tk : Nat) L es ep t, SetS X.w (hsh X.w) h' s.heap.objs.size L es ep t → Gt ks ks.length L → (∀ b o, s.heap.get? b = some o → h'.get? b = some o) →
      EP X pins σ Q (.ref s.heap.objs.size) { s with heap := h', toks := tk } := fun h' tk L es ep t R g k => by
    refine ⟨.ref s.heap.objs.size, upd H s.heap.objs.size (SetO X.w s.heap.objs.size L), I.laid (t' := tk) k (Nat.le_refl _) (setO_ok ⟨es, ep, t, R.ob, R.rows, R.tab, R.nd, R.plain, R.led, R.room, R.few⟩), rfl, q _ L hn (fun p hp => ?_) (fun g' => ⟨fun hg => ?_, fun hg => ?_⟩) R.nd R.few⟩
    · exact hk p (List.mem_of_mem_take (g.sub p hp))
    · obtain ⟨p, hp, e⟩ := List.mem_map.mp hg
      exact List.mem_map.mpr ⟨p, List.mem_of_mem_take (g.sub p hp), e⟩
    · obtain ⟨p, hp, e⟩ := List.mem_map.mp hg
      rw [← e]
      exact g.all p (by rw [List.take_length]; exact hp)
  rcases hl with hl | hl
  · obtain ⟨its, rv, pl, _⟩ := I.list hl
    exact set_of_list ks (I.ok.hd hc) pl.isList (by simpa using vals_refs rv) kK hz (by omega) fin
  · obtain ⟨its, rv, pl, _⟩ := I.tuple hl
    exact set_of_tuple ks (I.ok.hd hc) (show s.heap.IsTuple l its.toArray from pl) (by simpa using vals_refs rv) kK hz (by omega) fin
theorem coll_set {H : Hp} {a : Addr} {L : Ls} (hc : X.calm = true) (h : H a = some (SetO X.w a L)) : Coll X H a (L.map fun p => V.ref p.1) := by
  intro pins σ s E Q I hQ
  obtain ⟨⟨es, ep, t, ⟨o, ho, hex, hd⟩, rows, tab, _, _, led, room, few⟩, _, _⟩ := I.hok a _ h
  have hsz := ents_size rows
  have hts := tab.sz
  rw [List.length_map] at hts
  refine collect_set (P := X.prog) (w := X.w) (by simp [I.ok.hd hc]) ⟨o, ho, hex.1, hd⟩ (fits_of (by omega) tab.dm (by omega)) (by unfold scanBound; omega) tab.ris led fun s1 out k sz g o1 pm => ?_
  have e1 : es.toList.map (·.2) = (L.map fun p => V.ref p.1).map (fun v => match v with | .ref a => Value.ref a | _ => Value.none) := by
    rw [rows]
    unfold ents
    rw [List.map_map, List.map_map]
    rfl
  rw [e1] at pm
  have back : ∀ (out : List Value) (l : List Addr), out.Perm (l.map Value.ref) → ∃ l' : List Addr, out = l'.map Value.ref ∧ l'.Perm l := by
    intro out
    induction out with
    | nil =>
      intro l hp
      have := hp.length_eq
      cases l with
      | nil => exact ⟨[], rfl, .refl _⟩
      | cons x l => simp at this
    | cons v out ih =>
      intro l hp
      have hv : v ∈ l.map Value.ref := hp.mem_iff.mp (by simp)
      obtain ⟨x, hx, rfl⟩ := List.mem_map.mp hv
      obtain ⟨l1, l2, rfl⟩ := List.append_of_mem hx
      have h2 : out.Perm ((l1 ++ l2).map Value.ref) := by
        rw [List.map_append, List.map_cons] at hp
        rw [List.map_append]
        exact (hp.trans List.perm_middle).cons_inv
      obtain ⟨l', e, p⟩ := ih _ h2
      exact ⟨x :: l', by rw [e]; rfl, (p.cons x).trans List.perm_middle.symm⟩
  obtain ⟨l', e2, p2⟩ := back out (L.map (·.1)) (by rw [List.map_map] at pm ⊢; exact pm)
  have J : Inv X pins σ H { s with heap := s1.heap, gens := s1.gens, drawn := s1.drawn, toks := s1.toks } :=
    I.call (ch := []) (Un.kept k) (I.hok.kept k) (by rw [g]; exact I.bare) (fun _ z => nomatch z)
  have e : s1 = { s with heap := s1.heap, gens := s1.gens, drawn := s1.drawn, toks := s1.toks } := by
    cases s1; cases s; cases o1; rfl
  refine hQ s1 out (l'.map V.ref) (by rw [e]; exact J) k ?_ ?_
  · have := p2.map V.ref
    rw [List.map_map] at this
    exact this
  · rw [e2]
    have : ∀ l : List Addr, Vals (l.map V.ref) (l.map Value.ref) := by
      intro l
      induction l with
      | nil => exact .nil
      | cons x l ih => exact .cons rfl ih
    exact this l'
end
end K25

set_option Elab.async false
set_option linter.all false
set_option maxRecDepth 100000
set_option maxHeartbeats 4000000
/-! Rules of our own, two: points compared, looked for, the greater and the lesser of two. Own text. -/
namespace K25
open PySem PySem.Spec PyProof.Rows L2 K25S
theorem ptD_lay (p : Pt) : (ptD p).canLay0 = true := by simp [ptD, PyData.canLay0, PyData.canLayAll0]
theorem ptDs_lay : ∀ ps : List Pt, PyData.canLayAll0 (ps.map ptD) = true
  | [] => by simp [PyData.canLayAll0]
  | p :: ps => by simp [PyData.canLayAll0, ptD_lay p, ptDs_lay ps]
theorem ptDs_depth : ∀ ps : List Pt, PyData.depthAll (ps.map ptD) ≤ 1
  | [] => by simp [PyData.depthAll]
  | p :: ps => by
    have h := ptDs_depth ps
    have h1 := ptD_depth p
    simp only [List.map_cons, PyData.depthAll]
    omega
theorem any_pt (p : Pt) (ps : List Pt) : ((ps.map ptD).any fun y => PyData.eqv y (ptD p)) = decide (p ∈ ps) := by
  rw [Bool.eq_iff_iff]
  simp only [List.any_map, List.any_eq_true, Function.comp_apply, ptD_eqv, decide_eq_true_eq]
  constructor
  · rintro ⟨q, h, rfl⟩; exact h
  · intro h; exact ⟨p, h, rfl⟩
theorem PtVs.dp {K : PySem.W.Frag} {H : Hp} : ∀ {vs : List V} {ps : List Pt}, PtVs H vs ps → DpAll K H vs (ps.map ptD)
  | _, _, .nil => .nil
  | _, _, .cons r t => .cons r.dp (PtVs.dp t)
section
variable {X : Cx}
/-- what two points tell -/
def rPP (f : Pt → Pt → Bool) : R2 := fun x y H Q => ∃ p q, PtV H x p ∧ PtV H y q ∧ Q (.bl (f p q)) H
theorem pp_reads {pins : List (Addr × Obj)} {σ : L2.St} {H : Hp} {s : Shared} (I : Inv X pins σ H s) {v : V} {u : Value} {p : Pt} (h : PtV H v p) (r : L2.RelV v u) : ∃ as, Reads s.heap u (ptD p) as :=
  Dp.reads I _ _ _ h.dp r
theorem ptD_min (p q : Pt) : min (ptD p).depth (ptD q).depth = 1 := by rw [ptD_depth, ptD_depth]; rfl
theorem op_ltP (hu : X.A.units + 64 < cLine) : OpR X (compareOp .Lt) (rPP fun p q => decide (PLt p q)) := by
  intro pins s σ H x y v u Q I rx ry ⟨p, q, hp, hq, h⟩
  obtain ⟨as, r1⟩ := pp_reads I hp rx
  obtain ⟨bs, r2⟩ := pp_reads I hq ry
  exact PySem.W.lt_data r1 r2 (ptD_alike _ _) (by simp [ptD]) (by rw [ptD_min]; omega) (by rw [ptD_lt]; exact ⟨.bl _, H, I, rfl, h⟩)
theorem op_gtP (hu : X.A.units + 64 < cLine) : OpR X (compareOp .Gt) (rPP fun p q => decide (PLt q p)) := by
  intro pins s σ H x y v u Q I rx ry ⟨p, q, hp, hq, h⟩
  obtain ⟨as, r1⟩ := pp_reads I hp rx
  obtain ⟨bs, r2⟩ := pp_reads I hq ry
  exact PySem.W.gt_data r1 r2 (ptD_alike _ _) (by simp [ptD]) (by rw [ptD_min]; omega) (by rw [ptD_lt]; exact ⟨.bl _, H, I, rfl, h⟩)
theorem op_eqP (hu : X.A.units + 64 < cLine) : OpR X (compareOp .Eq) (rPP fun p q => decide (p = q)) := by
  intro pins s σ H x y v u Q I rx ry ⟨p, q, hp, hq, h⟩
  refine op_eqD hu pins s σ H x y v u Q I rx ry ⟨_, _, hp.dp, hq.dp, ?_, ?_, ?_⟩
  · show ((ptD p).canLay0 && decide ((ptD p).depth ≤ 64)) = true
    rw [ptD_lay, ptD_depth]; rfl
  · show ((ptD q).canLay0 && decide ((ptD q).depth ≤ 64)) = true
    rw [ptD_lay, ptD_depth]; rfl
  · rw [ptD_eqv]; exact h
theorem op_neP (hu : X.A.units + 64 < cLine) : OpR X (compareOp .NotEq) (rPP fun p q => !decide (p = q)) := by
  intro pins s σ H x y v u Q I rx ry ⟨p, q, hp, hq, h⟩
  refine op_neD hu pins s σ H x y v u Q I rx ry ⟨_, _, hp.dp, hq.dp, ?_, ?_, ?_⟩
  · show ((ptD p).canLay0 && decide ((ptD p).depth ≤ 64)) = true
    rw [ptD_lay, ptD_depth]; rfl
  · show ((ptD q).canLay0 && decide ((ptD q).depth ≤ 64)) = true
    rw [ptD_lay, ptD_depth]; rfl
  · rw [ptD_eqv]; exact h
/-- p not in s -/
def rNotInSg : R2 := fun x y H Q => ∃ p g, PtV H x p ∧ SgV H y g ∧ Q (.bl (decide (p ≠ g.1 ∧ p ≠ g.2))) H
theorem op_notInSg (hu : X.A.units + 64 < cLine) : OpR X (compareOp .NotIn) rNotInSg := by
  intro pins s σ H x y v u Q I rx ry ⟨p, g, hp, hg, h⟩
  obtain ⟨as, r1⟩ := pp_reads I hp rx
  obtain ⟨bs, r2⟩ := Dp.reads I (sgD g) _ _ hg.dp ry
  have e : (![ptD g.1, ptD g.2].any fun y => PyData.eqv y (ptD p)) = decide (p ≠ g.1 ∧ p ≠ g.2) := by
    have := any_pt p [g.1, g.2]
    simp only [List.map_cons, List.map_nil] at this
    rw [this]
    by_cases h1 : p = g.1 <;> by_cases h2 : p = g.2 <;> simp [h1, h2]
  refine SeqAt.notIn_tuple_reads (xs := [ptD g.1, ptD g.2]) r2 r1 (ptDs_lay [g.1, g.2]) (ptD_lay p) ?_ (by rw [e]; exact ⟨.bl _, H, I, rfl, h⟩)
  have := ptDs_depth [g.1, g.2]
  simp only [List.map_cons, List.map_nil] at this
  have h2 := Nat.min_le_left (PyData.depthAll [ptD g.1, ptD g.2]) (ptD p).depth
  omega
/-- p in a list of points -/
def rInPts (K : PySem.W.Frag) : R2 := fun x y H Q => ∃ p a vs ps, y = .ref a ∧ PtV H x p ∧ SqL K H a vs ∧ PtVs H vs ps ∧ Q (.bl (decide (p ∈ ps))) H
theorem op_inPts (hu : X.A.units + 64 < cLine) : OpR X (compareOp .In) (rInPts X.K) := by
  intro pins s σ H x y v u Q I rx ry ⟨p, a, vs, ps, e, hp, hl, hv, h⟩
  subst e
  obtain ⟨as, r1⟩ := pp_reads I hp rx
  obtain ⟨bs, r2⟩ := Dp.reads I (.list (ps.map ptD)) _ _ (.lst hl hv.dp) ry
  refine SeqAt.in_list_reads r2 r1 (ptDs_lay ps) (ptD_lay p) ?_ (by rw [any_pt]; exact ⟨.bl _, H, I, rfl, h⟩)
  have := ptDs_depth ps
  have h2 := Nat.min_le_left (PyData.depthAll (ps.map ptD)) (ptD p).depth
  omega

/-! ### max(p, q), min(p, q) -/
theorem two_all {h : Heap} {a b : Value} {p q : Pt} {as bs : List Addr} (ra : Reads h a (ptD p) as) (rb : Reads h b (ptD q) bs) : ReadsAll h [a, b] [ptD p, ptD q] (as ++ (bs ++ [])) := .cons ra (.cons rb .nil)
theorem alike_two (p q : Pt) : PySem.W.AlikeAll [ptD p, ptD q] := by
  refine ⟨fun d hd d' hd' => ?_, fun d hd => ?_⟩
  · simp only [List.mem_cons, List.not_mem_nil, or_false] at hd hd'
    rcases hd with rfl | rfl <;> rcases hd' with rfl | rfl <;> exact ptD_alike _ _
  · simp only [List.mem_cons, List.not_mem_nil, or_false] at hd
    rcases hd with rfl | rfl <;> simp [ptD]
end
section
variable {P : Program} {w : World} {A : Around} {E : Value → Shared → Prop} {s : Shared}
theorem max_pts {a b : Value} {p q : Pt} {as bs : List Addr} {Q : Value → Shared → Prop} (hh : A.handled = none) (ra : Reads s.heap a (ptD p) as) (rb : Reads s.heap b (ptD q) bs) (hu : A.units + 8 < cLine)
    (h : ∀ h' tk, (∀ c o, s.heap.get? c = some o → h'.get? c = some o) → Q (if PLt p q then b else a) { s with heap := h', toks := tk }) : wpAny (model P w) A (call (.builtin "max") [a, b]) Q E s := by
  have hname : (toString "max" ++ toString ".loop" : String) = "max.loop" := by decide
  refine call_function_tree F.kind_max F.plain_max F.entry_max (F.args_max2 _ _) ?_
  show wpAny _ A.in1 (Builtin.Builtins.bindParams "max" ["key", "default"] 0 ⟨[], []⟩ >>= _) _ _ s
  refine wpAny_bind (wpAny_of_eq (show Builtin.Builtins.bindParams "max" ["key", "default"] 0 ⟨[], []⟩ = pure [none, none] from rfl) ?_)
  show wpAny _ A.in1 (newTuple [a, b] >>= _) _ _ s
  refine wpAny_bind (wpAny_newObj_type ?_)
  have k0 : ∀ c o, s.heap.get? c = some o → (s.heap.push { cls := .type "tuple", data := .seq #[a, b] }).get? c = some o := fun c o e => Heap.get?_push_of_some _ e
  have hT : (s.heap.push { cls := .type "tuple", data := .seq #[a, b] }).IsTuple s.heap.objs.size #[a, b] := ⟨_, Heap.get?_push_size _ rfl, rfl, 0, rfl⟩
  have hall : ReadsAll (s.heap.push { cls := .type "tuple", data := .seq #[a, b] }) (#[a, b] : Array Value).toList [ptD p, ptD q] _ := two_all (PyProof.Rows.Reads.keeps k0 ra) (PyProof.Rows.Reads.keeps k0 rb)
  refine wpAny_bind (PySem.W.iter_tupleW (A := A.in1) (s := { s with heap := s.heap.push { cls := .type "tuple", data := .seq #[a, b] } }) hh hT fun s₂ e W st hfp hw hk => ?_)
  refine wpAny_bind (wpAny_newObj_type ?_)
  have hSf := fun hm => Nat.lt_irrefl _ (hfp s₂.heap.objs.size hm)
  have hdp : PyData.depthAll [ptD p, ptD q] ≤ 1 := ptDs_depth [p, q]
  rw [hname]
  refine wpAny_pure ⟨plainId_quiet F.plain_max_loop _, codeAny_max_loop_firstH W (s.heap.push { cls := .type "tuple", data := .seq #[a, b] }) hw _ (PySem.W.cmpIn_gt (A := A.in1) (s := { s with heap := s.heap.push { cls := .type "tuple", data := .seq #[a, b] } }) hall (alike_two p q) (by simp only [Around.in1_units]; omega))
    s₂.heap.objs.size hSf (PySem.fresh_in hk) _ (show 0 < 2 from by decide) (fun c o e => Heap.get?_push_of_some _ (hk c o e)) (W.frame 0 s₂ _ s₂.toks st (Nat.le_refl _) fun c _ o e => Heap.get?_push_of_some _ e) (Heap.get?_push_size _ rfl) fun v s' hP hm => ?_⟩
  obtain ⟨h', tk, rfl, hk'⟩ := PySem.W.moved_old e rfl (Moved.drop_new (tk := s₂.toks) hm (Nat.le_refl _))
  have hv : (if PLt p q then b else a) = v := by
    have hP : (#[a, b] : Array Value)[argBest (fun i j => PySem.W.dataLt ([ptD p, ptD q].getD j .none) ([ptD p, ptD q].getD i .none)) 1]? = some v := hP
    simp only [argBest, List.getD_cons_succ, List.getD_cons_zero, ptD_lt, decide_eq_true_eq, Nat.zero_add] at hP
    by_cases z : PLt p q
    · rw [if_pos z] at hP ⊢; exact Option.some.inj hP
    · rw [if_neg z] at hP ⊢; exact Option.some.inj hP
  rw [← hv]
  exact h h' tk fun c o e => hk' c o (k0 c o e)
theorem min_pts {a b : Value} {p q : Pt} {as bs : List Addr} {Q : Value → Shared → Prop} (hh : A.handled = none) (ra : Reads s.heap a (ptD p) as) (rb : Reads s.heap b (ptD q) bs) (hu : A.units + 8 < cLine)
    (h : ∀ h' tk, (∀ c o, s.heap.get? c = some o → h'.get? c = some o) → Q (if PLt q p then b else a) { s with heap := h', toks := tk }) : wpAny (model P w) A (call (.builtin "min") [a, b]) Q E s := by
  have hname : (toString "min" ++ toString ".loop" : String) = "min.loop" := by decide
  refine call_function_tree F.kind_min F.plain_min F.entry_min (F.args_min2 _ _) ?_
  show wpAny _ A.in1 (Builtin.Builtins.bindParams "min" ["key", "default"] 0 ⟨[], []⟩ >>= _) _ _ s
  refine wpAny_bind (wpAny_of_eq (show Builtin.Builtins.bindParams "min" ["key", "default"] 0 ⟨[], []⟩ = pure [none, none] from rfl) ?_)
  show wpAny _ A.in1 (newTuple [a, b] >>= _) _ _ s
  refine wpAny_bind (wpAny_newObj_type ?_)
  have k0 : ∀ c o, s.heap.get? c = some o → (s.heap.push { cls := .type "tuple", data := .seq #[a, b] }).get? c = some o := fun c o e => Heap.get?_push_of_some _ e
  have hT : (s.heap.push { cls := .type "tuple", data := .seq #[a, b] }).IsTuple s.heap.objs.size #[a, b] := ⟨_, Heap.get?_push_size _ rfl, rfl, 0, rfl⟩
  have hall : ReadsAll (s.heap.push { cls := .type "tuple", data := .seq #[a, b] }) (#[a, b] : Array Value).toList [ptD p, ptD q] _ := two_all (PyProof.Rows.Reads.keeps k0 ra) (PyProof.Rows.Reads.keeps k0 rb)
  refine wpAny_bind (PySem.W.iter_tupleW (A := A.in1) (s := { s with heap := s.heap.push { cls := .type "tuple", data := .seq #[a, b] } }) hh hT fun s₂ e W st hfp hw hk => ?_)
  refine wpAny_bind (wpAny_newObj_type ?_)
  have hSf := fun hm => Nat.lt_irrefl _ (hfp s₂.heap.objs.size hm)
  have hdp : PyData.depthAll [ptD p, ptD q] ≤ 1 := ptDs_depth [p, q]
  rw [hname]
  refine wpAny_pure ⟨plainId_quiet F.plain_min_loop _, codeAny_min_loop_firstH W (s.heap.push { cls := .type "tuple", data := .seq #[a, b] }) hw _ (PySem.W.cmpIn_lt (A := A.in1) (s := { s with heap := s.heap.push { cls := .type "tuple", data := .seq #[a, b] } }) hall (alike_two p q) (by simp only [Around.in1_units]; omega))
    s₂.heap.objs.size hSf (PySem.fresh_in hk) _ (show 0 < 2 from by decide) (fun c o e => Heap.get?_push_of_some _ (hk c o e)) (W.frame 0 s₂ _ s₂.toks st (Nat.le_refl _) fun c _ o e => Heap.get?_push_of_some _ e) (Heap.get?_push_size _ rfl) fun v s' hP hm => ?_⟩
  obtain ⟨h', tk, rfl, hk'⟩ := PySem.W.moved_old e rfl (Moved.drop_new (tk := s₂.toks) hm (Nat.le_refl _))
  have hv : (if PLt q p then b else a) = v := by
    have hP : (#[a, b] : Array Value)[argBest (fun i j => PySem.W.dataLt ([ptD p, ptD q].getD i .none) ([ptD p, ptD q].getD j .none)) 1]? = some v := hP
    simp only [argBest, List.getD_cons_succ, List.getD_cons_zero, ptD_lt, decide_eq_true_eq, Nat.zero_add] at hP
    by_cases z : PLt q p
    · rw [if_pos z] at hP ⊢; exact Option.some.inj hP
    · rw [if_neg z] at hP ⊢; exact Option.some.inj hP
  rw [← hv]
  exact h h' tk fun c o e => hk' c o (k0 c o e)
end
section
variable {X : Cx}
def rTwoP (f : Pt → Pt → Bool) : List V → Hp → VK → Prop := fun xs H Q => ∃ x y p q, xs = [x, y] ∧ PtV H x p ∧ PtV H y q ∧ Q (if f p q = true then y else x) H
theorem cr_maxP (hc : X.calm = true) (hu : X.A.units + 64 < cLine) : CallR X (.builtin "max") (rTwoP fun p q => decide (PLt p q)) := by
  intro pins s σ H xs us Q I r ⟨x, y, p, q, e, hp, hq, h⟩
  subst e
  cases r with
  | cons r1 r =>
    cases r with
    | cons r2 r =>
      cases r
      obtain ⟨as, ra⟩ := pp_reads I hp r1
      obtain ⟨bs, rb⟩ := pp_reads I hq r2
      refine max_pts (I.ok.hd hc) ra rb (by omega) fun h' tk k => ⟨_, H, I.kept (t' := tk) k, ?_, h⟩
      by_cases z : PLt p q
      · simp only [z, decide_true, if_true]; exact r2
      · simp only [z, decide_false, if_false, Bool.false_eq_true]; exact r1
theorem cr_minP (hc : X.calm = true) (hu : X.A.units + 64 < cLine) : CallR X (.builtin "min") (rTwoP fun p q => decide (PLt q p)) := by
  intro pins s σ H xs us Q I r ⟨x, y, p, q, e, hp, hq, h⟩
  subst e
  cases r with
  | cons r1 r =>
    cases r with
    | cons r2 r =>
      cases r
      obtain ⟨as, ra⟩ := pp_reads I hp r1
      obtain ⟨bs, rb⟩ := pp_reads I hq r2
      refine min_pts (I.ok.hd hc) ra rb (by omega) fun h' tk k => ⟨_, H, I.kept (t' := tk) k, ?_, h⟩
      by_cases z : PLt q p
      · simp only [z, decide_true, if_true]; exact r2
      · simp only [z, decide_false, if_false, Bool.false_eq_true]; exact r1
end
end K25

set_option Elab.async false
set_option linter.all false
set_option maxRecDepth 100000
set_option maxHeartbeats 4000000
/-! Rules of our own, three: dicts whose keys are segments. Own text. -/
namespace K25
open PySem PySem.Spec PyProof.Rows L2 K25S
/-- the rows of a dict: the key's address, the key, the value -/
abbrev Rows := List (Addr × Sg × V)
def xsOf : Rows → List Value → List (NestedKey × Addr × Value)
  | r :: R, u :: us => (nk r.2.1, r.1, u) :: xsOf R us
  | _, _ => []
theorem xsOf_keys : ∀ {R : Rows} {us : List Value}, Vals (R.map (·.2.2)) us → (xsOf R us).map (·.1) = R.map (fun r => nk r.2.1)
  | [], _, h => by cases h; rfl
  | r :: R, _, h => by
    have h : Vals (r.2.2 :: R.map (·.2.2)) _ := h
    cases h with
    | cons a t => show _ :: _ = _ :: _; rw [xsOf_keys t]
theorem xsOf_get : ∀ {R : Rows} {us : List Value} {i : Nat} {r : Addr × Sg × V}, Vals (R.map (·.2.2)) us → R[i]? = some r → ∃ u, RelV r.2.2 u ∧ (xsOf R us)[i]? = some (nk r.2.1, r.1, u)
  | [], _, i, r, h, e => by simp at e
  | r0 :: R, _, 0, r, h, e => by
    have h : Vals (r0.2.2 :: R.map (·.2.2)) _ := h
    cases h with
    | cons a t =>
      have e : r0 = r := by simpa using e
      subst e
      exact ⟨_, a, rfl⟩
  | r0 :: R, _, i + 1, r, h, e => by
    have h : Vals (r0.2.2 :: R.map (·.2.2)) _ := h
    cases h with
    | cons a t =>
      obtain ⟨u, h1, h2⟩ := xsOf_get (i := i) (r := r) t (by simpa using e)
      exact ⟨u, h1, by simpa [xsOf] using h2⟩
theorem xsOf_len : ∀ {R : Rows} {us : List Value}, Vals (R.map (·.2.2)) us → (xsOf R us).length = R.length
  | [], _, h => by cases h; rfl
  | r :: R, _, h => by
    have h : Vals (r.2.2 :: R.map (·.2.2)) _ := h
    cases h with
    | cons a t => simp [xsOf, xsOf_len t]
theorem xsOf_mem : ∀ {R : Rows} {us : List Value} {x : NestedKey × Addr × Value}, x ∈ xsOf R us → ∃ r ∈ R, x.1 = nk r.2.1 ∧ x.2.1 = r.1
  | [], _, x, h => by simp [xsOf] at h
  | r :: R, [], x, h => by simp [xsOf] at h
  | r :: R, u :: us, x, h => by
    rcases List.mem_cons.mp h with e | h
    · subst e; exact ⟨r, by simp, rfl, rfl⟩
    · obtain ⟨r', h1, h2⟩ := xsOf_mem h
      exact ⟨r', by simp [h1], h2⟩
theorem xsOf_snoc : ∀ {R : Rows} {us : List Value} (r : Addr × Sg × V) (u : Value), Vals (R.map (·.2.2)) us → xsOf (R ++ [r]) (us ++ [u]) = xsOf R us ++ [(nk r.2.1, r.1, u)]
  | [], _, r, u, h => by cases h; rfl
  | r0 :: R, _, r, u, h => by
    have h : Vals (r0.2.2 :: R.map (·.2.2)) _ := h
    cases h with
    | cons a t =>
      simp only [List.cons_append, xsOf]
      rw [xsOf_snoc r u t]
structure DicB (P : Program) (w : World) (d : Addr) (R : Rows) (ob : Obj) (h : Heap) : Prop where
  here : h.get? d = some ob
  ex : ob.ExactDict
  rows : ∃ es ep us, ob.data = .dict es ep ∧ Vals (R.map (·.2.2)) us ∧ es.toList = (xsOf R us).map (entryOfKey (nestedKind P w))
  nd : (R.map (·.2.1)).Nodup
  few : R.length ≤ 1000
  sys : (d == sysModules) = false
def DicO (P : Program) (w : World) (d : Addr) (R : Rows) (ob : Obj) : HO := .ext fun h => DicB P w d R ob h
theorem dicO_ok {P : Program} {w : World} {H : Hp} {h : Heap} {d : Addr} {R : Rows} {ob : Obj} (x : DicB P w d R ob h) : ObjOk P w H h d (DicO P w d R ob) :=
  ⟨x, ⟨ob, x.here⟩, fun _ _ p k => ⟨k ob p.here, p.ex, p.rows, p.nd, p.few, p.sys⟩⟩
/-- at d stands the dict with the rows R -/
def Dc (P : Program) (w : World) (H : Hp) (d : Addr) (R : Rows) : Prop := (∃ ob, H d = some (DicO P w d R ob)) ∧ ∀ r ∈ R, SgV H (.ref r.1) r.2.1
theorem dicO_ne_tup {P : Program} {w : World} {d : Addr} {R : Rows} {ob : Obj} {xs : List V} : DicO P w d R ob ≠ .tup xs := by
  intro z; cases z
theorem Dc.mono {P : Program} {w : World} {H H' : Hp} {d : Addr} {R : Rows} (x : Dc P w H d R) (t : Tps H H') (k : ∀ o, H d = some o → H' d = some o) : Dc P w H' d R :=
  ⟨let ⟨ob, e⟩ := x.1; ⟨ob, k _ e⟩, fun r hr => (x.2 r hr).mono t⟩
theorem nk_nodup {R : Rows} (h : (R.map (·.2.1)).Nodup) : (R.map fun r => nk r.2.1).Nodup := by
  have e : (R.map fun r => nk r.2.1) = (R.map (·.2.1)).map nk := by rw [List.map_map]; rfl
  rw [e]
  generalize R.map (·.2.1) = L at h
  induction L with
  | nil => simp
  | cons x L ih =>
    rw [List.nodup_cons] at h
    rw [List.map_cons, List.nodup_cons]
    refine ⟨fun hm => ?_, ih h.2⟩
    obtain ⟨y, hy, e⟩ := List.mem_map.mp hm
    exact h.1 (nk_inj e ▸ hy)
section
variable {X : Cx}
theorem dc_open {pins : List (Addr × Obj)} {σ : L2.St} {H : Hp} {s : Shared} {d : Addr} {R : Rows} (I : Inv X pins σ H s) (x : Dc X.prog X.w H d R) :
    ∃ ob es ep us, H d = some (DicO X.prog X.w d R ob) ∧ s.heap.get? d = some ob ∧ ob.ExactDict ∧ ob.data = .dict es ep ∧ Vals (R.map (·.2.2)) us ∧ es.toList = (xsOf R us).map (entryOfKey (nestedKind X.prog X.w)) ∧
      s.heap.DictOfH (nestedKind X.prog X.w) d (xsOf R us) ∧ (R.map (·.2.1)).Nodup ∧ R.length ≤ 1000 ∧ (d == sysModules) = false := by
  obtain ⟨⟨ob, e⟩, hk⟩ := x
  obtain ⟨⟨hh, hx, ⟨es, ep, us, hd, rv, he⟩, nd, few, hs⟩, _⟩ := I.hok d _ e
  refine ⟨ob, es, ep, us, e, hh, hx, hd, rv, he, ⟨ob, es, ep, hh, hx, hd, he, fun y hy => ?_, ?_⟩, nd, few, hs⟩
  · obtain ⟨r, hr, e1, e2⟩ := xsOf_mem hy
    obtain ⟨a, ea, k⟩ := isK_of I (hk r hr)
    cases ea
    rw [e1, e2]
    exact ⟨k, by rw [nk_depth]; omega⟩
  · rw [xsOf_keys rv]
    exact nk_nodup nd
theorem kis_of {pins : List (Addr × Obj)} {σ : L2.St} {H : Hp} {s : Shared} {v : V} {u : Value} {g : Sg} (I : Inv X pins σ H s) (h : SgV H v g) (r : RelV v u) : ∃ a, u = .ref a ∧ (nestedKind X.prog X.w).is s.heap (nk g) a := by
  obtain ⟨a, e, k⟩ := isK_of I h
  subst e
  cases r
  exact ⟨a, rfl, k, by rw [nk_depth]; omega⟩
theorem at_key {R : Rows} {us : List Value} {r : Addr × Sg × V} (rv : Vals (R.map (·.2.2)) us) (nd : (R.map (·.2.1)).Nodup) (hr : r ∈ R) : ∃ u, RelV r.2.2 u ∧ atKey (xsOf R us) (nk r.2.1) = some (r.1, u) := by
  obtain ⟨i, hi⟩ := List.mem_iff_getElem?.mp hr
  obtain ⟨u, h1, h2⟩ := xsOf_get rv hi
  exact ⟨u, h1, atKey_of_get (by rw [xsOf_keys rv]; exact nk_nodup nd) h2⟩
theorem at_none {R : Rows} {us : List Value} {g : Sg} (hn : g ∉ R.map (·.2.1)) : atKey (xsOf R us) (nk g) = none := by
  refine atKey_none_of_get fun j p hj => ?_
  obtain ⟨r, hr, e1, e2⟩ := xsOf_mem (List.mem_of_getElem? hj)
  exact hn (List.mem_map.mpr ⟨r, hr, (nk_inj e1).symm⟩)
/-- d[k] -/
def tKGet (X : Cx) (td ty : TE) : TE := fun σ H Q => td σ H fun x H1 => ty σ H1 fun y H2 => ∃ (d : Addr) (R : Rows) (r : Addr × Sg × V), x = .ref d ∧ Dc X.prog X.w H2 d R ∧ r ∈ R ∧ SgV H2 y r.2.1 ∧ Q r.2.2 H2
theorem pe_kget {o i : Expr} {pos : Pos} {td ty : TE} (hu : X.A.units + 64 < cLine) (ho : PE X o td) (hi : PE X i ty) (hs : NoSl i) : PE X (.Subscript o i pos) (tKGet X td ty) := by
  refine ⟨fun pins s σ H Q I h => ?_⟩
  refine subD_of PySem.F.slot_dict_getitem.lookup hs (thn (ho.run pins s σ H _ I h) fun u s1 ⟨x, H1, I1, rx, q1⟩ => thn (hi.run pins s1 σ H1 _ I1 q1) fun iv s2 ⟨y, H2, I2, ry, d, R, r, ex, hd, hr, hk, q2⟩ => ?_)
  subst ex
  obtain rfl : u = Value.ref d := rx
  obtain ⟨ob, es, ep, us, e, hh, hx, hdt, rv, he, dd, nd, few, hsy⟩ := dc_open I2 hd
  obtain ⟨a, ea, ki⟩ := kis_of I2 hk ry
  subst ea
  obtain ⟨w', rw', hp⟩ := at_key rv nd hr
  exact ⟨⟨ob, hh, hx.1⟩, wpAny_getItem_heap (by show X.A.in1.units + 8 < cLine; simp only [Around.in1_units]; omega) ki dd hp ⟨r.2.2, H2, I2.kept (t' := _) fun b o q => q, rw', q2⟩⟩
/-- d.get(k, x) -/
def tKGet2 (X : Cx) (td ty tx : TE) : TE := fun σ H Q => td σ H fun x H1 => ∃ (d : Addr) (R : Rows), x = .ref d ∧ Dc X.prog X.w H1 d R ∧ ty σ H1 fun y H2 => tx σ H2 fun z H3 => ∃ (R : Rows) (g : Sg), Dc X.prog X.w H3 d R ∧ SgV H3 y g ∧ (∀ r ∈ R, r.2.1 = g → Q r.2.2 H3) ∧ (g ∉ R.map (·.2.1) → Q z H3)
theorem pe_kget2 {o e f : Expr} {apos cpos : Pos} {td ty tx : TE} (hu : X.A.units + 64 < cLine) (ho : PE X o td) (he : PE X e ty) (hf : PE X f tx) (m : M2 X o "get" apos e f cpos) : PE X (.Call (.Attribute o "get" apos) [e, f] [] cpos) (tKGet2 X td ty tx) := by
  refine ⟨fun pins s σ H Q I h => ?_⟩
  refine wpAny_Call_method m.base m.few m.line PySem.F.plainAttrs_dict PySem.F.slot_dict_get PySem.F.type_dict_get (thn (ho.run pins s σ H _ I h) fun u s1 ⟨x, H1, I1, rx, d, R0, ex, d0, q1⟩ => ?_)
  subst ex
  obtain rfl : u = Value.ref d := rx
  obtain ⟨ob0, _, _, _, _, hh0, hx0, _⟩ := dc_open I1 d0
  refine ⟨⟨ob0, hh0, hx0.1⟩, ?_, ?_⟩
  · intro o ho
    cases ho
    exact ⟨ob0, hh0, hx0.2.1⟩
  rw [m.trees]
  refine Calls.callWith_builtin rfl (Calls.evalArgs_plain (Calls.spliced_cons (thn (he.run pins s1 σ H1 _ I1 q1) fun iv s2 ⟨y, H2, I2, ry, q2⟩ =>
    Calls.spliced_cons (thn (hf.run pins s2 σ H2 _ I2 q2) fun fv s3 ⟨z, H3, I3, rz, R, g, hd, hk, qy, qn⟩ => Calls.spliced_nil ?_))))
  obtain ⟨ob, es, ep, us, eH, hh, hx, hdt, rv, hes, dd, nd, few, hsy⟩ := dc_open I3 hd
  obtain ⟨a, ea, ki⟩ := kis_of I3 hk ry
  subst ea
  refine getOr_keyed (by show X.A.in1.units + 8 < cLine; simp only [Around.in1_units]; omega) ki hsy (show s3.heap.DictKeyed _ d (pairsH (xsOf R us)) from ⟨_, dd, rfl⟩) ?_
  rw [valueAt_pairsH]
  by_cases hg : ∃ r ∈ R, r.2.1 = g
  · obtain ⟨r, hr, eg⟩ := hg
    obtain ⟨w', rw', hp⟩ := at_key rv nd hr
    rw [← eg, hp]
    exact ⟨r.2.2, H3, I3.kept (t' := _) fun b o q => q, rw', qy r hr eg⟩
  · have hn : g ∉ R.map (·.2.1) := fun hm => by
      obtain ⟨r, hr, e⟩ := List.mem_map.mp hm
      exact hg ⟨r, hr, e⟩
    rw [at_none hn]
    exact ⟨z, H3, I3.kept (t' := _) fun b o q => q, rz, qn hn⟩


end

/-! ### a walk over things that are known beforehand -/
def Isq (G : Hp → Prop) (xs : List V) : It :=
  ⟨fun i H => G H ∧ i < xs.length, fun i H x H' => H' = H ∧ xs[i]? = some x, fun i H => G H ∧ xs.length ≤ i⟩
theorem for_sq {G : Hp → Prop} {xs : List V} {g : TG} {tb : TS} {D : L2.Ends} {σ : L2.St} {H : Hp} (Pv : Nat → L2.St → Hp → Prop) (h0 : Pv 0 σ H) (hG : ∀ i σ H, i ≤ xs.length → Pv i σ H → G H)
    (turn : ∀ i x σ H, xs[i]? = some x → Pv i σ H → g x σ H fun σ2 H2 => tb { D with nx := Pv (i + 1), ct := Pv (i + 1), bk := D.nx } σ2 H2) (last : ∀ σ H, Pv xs.length σ H → D.nx σ H) :
    ∃ W : Nat → Nat → L2.St → Hp → Prop, (∃ m, W 0 m σ H) ∧ ∀ i m σ H, W i m σ H →
      ((Isq G xs).stop i H ∧ D.nx σ H) ∨ ((Isq G xs).go i H ∧ ∃ N : L2.St → Hp → Prop, (∀ σ' H', N σ' H' → ∃ m', m' < m ∧ W (i + 1) m' σ' H') ∧ ∀ x H', (Isq G xs).yld i H x H' → g x σ H' fun σ2 H2 => tb { D with nx := N, ct := N, bk := D.nx } σ2 H2) := by
  refine ⟨fun i m σ H => m + i = xs.length ∧ Pv i σ H, ⟨xs.length, rfl, h0⟩, fun i m σ H ⟨em, p⟩ => ?_⟩
  have hg := hG i σ H (by omega) p
  by_cases hi : i < xs.length
  · refine .inr ⟨⟨hg, hi⟩, Pv (i + 1), fun σ' H' p' => ⟨m - 1, by omega, by omega, p'⟩, fun x H' ⟨e, hx⟩ => ?_⟩
    rw [e]
    exact turn i x σ H hx p
  · have ei : i = xs.length := by omega
    rw [ei] at p
    exact .inl ⟨⟨hg, by omega⟩, last σ H p⟩
theorem lc_sq {G : Hp → Prop} {xs : List V} {g : TG} {tt : TT} {te : TE} {vs : List Nat} {σ : L2.St} {H1 : Hp} {D : Addr} {Qd : Hp → Prop} (Pv : Nat → Hp → Prop) (h0 : Pv 0 (upd H1 D (.lst []))) (hG : ∀ i H, i ≤ xs.length → Pv i H → G H)
    (turn : ∀ i x H, xs[i]? = some x → Pv i H → g x (wipe σ vs) H fun σ2 H2 => wipe σ2 vs = wipe σ vs ∧ tt σ2 H2 fun b H3 =>
      if b = true then te σ2 H3 fun y H4 => ∃ acc, H4 D = some (.lst acc) ∧ acc.length < sizeLine ∧ Pv (i + 1) (upd H4 D (.lst (acc ++ [y]))) else Pv (i + 1) H3) (last : ∀ H, Pv xs.length H → Qd H) :
    ∃ W : Nat → Nat → Hp → Prop, (∃ m, W 0 m (upd H1 D (.lst []))) ∧ ∀ i m H, W i m H →
      ((Isq G xs).stop i H ∧ Qd H) ∨ ((Isq G xs).go i H ∧ ∃ Nx : Hp → Prop, (∀ H', Nx H' → ∃ m', m' < m ∧ W (i + 1) m' H') ∧ ∀ x H', (Isq G xs).yld i H x H' → g x (wipe σ vs) H' fun σ2 H2 => wipe σ2 vs = wipe σ vs ∧ tt σ2 H2 fun b H3 =>
        if b = true then te σ2 H3 fun y H4 => ∃ acc, H4 D = some (.lst acc) ∧ acc.length < sizeLine ∧ Nx (upd H4 D (.lst (acc ++ [y]))) else Nx H3) := by
  refine ⟨fun i m H => m + i = xs.length ∧ Pv i H, ⟨xs.length, rfl, h0⟩, fun i m H ⟨em, p⟩ => ?_⟩
  have hg := hG i H (by omega) p
  by_cases hi : i < xs.length
  · refine .inr ⟨⟨hg, hi⟩, Pv (i + 1), fun H' p' => ⟨m - 1, by omega, by omega, p'⟩, fun x H' ⟨e, hx⟩ => ?_⟩
    rw [e]
    exact turn i x H hx p
  · have ei : i = xs.length := by omega
    rw [ei] at p
    exact .inl ⟨⟨hg, by omega⟩, last H p⟩
/-! ### walks over the keys, over the values -/
def DcG (P : Program) (w : World) (d : Addr) (R : Rows) (ob : Obj) : Hp → Prop := fun H => H d = some (DicO P w d R ob)
theorem ents_key {P : Program} {w : World} {es : Array DictEntry} {R : Rows} {us : List Value} (rv : Vals (R.map (·.2.2)) us) (he : es.toList = (xsOf R us).map (entryOfKey (nestedKind P w))) {i : Nat} (hi : i < R.length) (hs : i < es.size) :
    es[i].key = .ref (R[i]).1 ∧ RelV (R[i]).2.2 es[i].val := by
  obtain ⟨u, h1, h2⟩ := xsOf_get rv (List.getElem?_eq_getElem hi)
  have e := entry_at he i
  rw [h2, Array.getElem?_eq_getElem hs] at e
  have e := Option.some.inj e
  rw [e]
  exact ⟨rfl, h1⟩
section
variable {P : Program} {w : World} {K : PySem.W.Frag} {tg : Expr} {d : Addr} {R : Rows} {ob : Obj} {es : Array DictEntry} {ep : Nat}
theorem dcg_open {X : Cx} {pins : List (Addr × Obj)} {σ : L2.St} {H : Hp} {s : Shared} (I : Inv X pins σ H s) (hg : DcG X.prog X.w d R ob H) (hod : ob.data = .dict es ep) :
    s.heap.DictRaw d es ep ∧ es.size = R.length ∧ ∃ us, Vals (R.map (·.2.2)) us ∧ es.toList = (xsOf R us).map (entryOfKey (nestedKind X.prog X.w)) := by
  obtain ⟨⟨hh, hx, ⟨es', ep', us, hd, rv, he⟩, nd, few, hs⟩, _⟩ := I.hok d _ hg
  obtain ⟨e1, e2⟩ := dict_ep hod hd
  subst e1 e2
  refine ⟨⟨ob, hh, hx, hd⟩, ?_, us, rv, he⟩
  rw [size_of_entries he, xsOf_len rv]
theorem turn_kks (it : Addr) (hod : ob.data = .dict es ep) : Turn P w K tg (Isq (DcG P w d R ob) (R.map fun r => V.ref r.1)) [it] it (fun i h => h.IsKeyIter it d i R.length ep) where
  mem := List.mem_singleton.mpr rfl
  obj := fun i h ⟨oi, e, _, dd⟩ b hb => by
    cases List.mem_singleton.mp hb
    exact ⟨oi, e, fun v z => by rw [dd] at z; cases z⟩
  keep := fun i h h' st k => st.at fun oi e => k it (List.mem_singleton.mpr rfl) oi e
  item := by
    intro X hP hw hK hc i pins s σ H E I hf st ⟨hg, hi⟩
    subst hP hw hK
    rw [List.length_map] at hi
    obtain ⟨f0, f1, f2, f3, f4, f5⟩ := hf it (List.mem_singleton.mpr rfl)
    obtain ⟨raw, sz, us, rv, he⟩ := dcg_open I hg hod
    have hi' : i < es.size := by omega
    rw [← sz] at st
    refine wpAny_pyNext_keys_item_raw st raw hi' fun h' st' sb => ?_
    have I1 : Inv X pins σ H { s with heap := h' } := I.turned (t' := s.toks) (fun b o hb e => (sb.2 b hb).trans e) f0 f1 f3 f4 f5
    obtain ⟨oi, e, c, dd⟩ := id st'
    refine ⟨_, rfl, go_of (s := { s with heap := h' }) e c dd (by decide) ⟨V.ref (R[i]).1, H, I1, (ents_key rv he hi hi').1, ⟨rfl, by rw [List.getElem?_map, List.getElem?_eq_getElem hi]; rfl⟩, ?_, fun b hb => (hf b hb).1⟩⟩
    rw [← sz]
    exact st'
  done := by
    intro X hP hw hK hc i pins s σ H E I hf st ⟨hg, hi⟩
    subst hP hw hK
    rw [List.length_map] at hi
    obtain ⟨f0, f1, f2, f3, f4, f5⟩ := hf it (List.mem_singleton.mpr rfl)
    obtain ⟨raw, sz, us, rv, he⟩ := dcg_open I hg hod
    rw [← sz] at st
    exact wpAny_pyNext_keys_end_raw (I.ok.hd hc) st raw (by omega) fun h' k => ⟨rfl, I.turned (t' := s.toks) (fun b o hb e => k b o hb e) f0 f1 f3 f4 f5⟩
  self := fun A i s Q E ⟨_, e, c, _⟩ h => wpAny_pyIter_keyiter ⟨_, e, c, by assumption⟩ h
theorem turn_kvs (it : Addr) (hod : ob.data = .dict es ep) : Turn P w K tg (Isq (DcG P w d R ob) (R.map (·.2.2))) [it] it (fun i h => h.IsValIter it d i R.length ep) where
  mem := List.mem_singleton.mpr rfl
  obj := fun i h ⟨oi, e, _, dd⟩ b hb => by
    cases List.mem_singleton.mp hb
    exact ⟨oi, e, fun v z => by rw [dd] at z; cases z⟩
  keep := fun i h h' st k => st.at fun oi e => k it (List.mem_singleton.mpr rfl) oi e
  item := by
    intro X hP hw hK hc i pins s σ H E I hf st ⟨hg, hi⟩
    subst hP hw hK
    rw [List.length_map] at hi
    obtain ⟨f0, f1, f2, f3, f4, f5⟩ := hf it (List.mem_singleton.mpr rfl)
    obtain ⟨raw, sz, us, rv, he⟩ := dcg_open I hg hod
    have hi' : i < es.size := by omega
    rw [← sz] at st
    refine wpAny_pyNext_values_item_raw st raw hi' fun h' st' sb => ?_
    have I1 : Inv X pins σ H { s with heap := h' } := I.turned (t' := s.toks) (fun b o hb e => (sb.2 b hb).trans e) f0 f1 f3 f4 f5
    obtain ⟨oi, e, c, dd⟩ := id st'
    refine ⟨_, rfl, go_of (s := { s with heap := h' }) e c dd (by decide) ⟨(R[i]).2.2, H, I1, (ents_key rv he hi hi').2, ⟨rfl, by rw [List.getElem?_map, List.getElem?_eq_getElem hi]; rfl⟩, ?_, fun b hb => (hf b hb).1⟩⟩
    rw [← sz]
    exact st'
  done := by
    intro X hP hw hK hc i pins s σ H E I hf st ⟨hg, hi⟩
    subst hP hw hK
    rw [List.length_map] at hi
    obtain ⟨f0, f1, f2, f3, f4, f5⟩ := hf it (List.mem_singleton.mpr rfl)
    obtain ⟨raw, sz, us, rv, he⟩ := dcg_open I hg hod
    rw [← sz] at st
    exact wpAny_pyNext_values_end_raw (I.ok.hd hc) st raw (by omega) fun h' k => ⟨rfl, I.turned (t' := s.toks) (fun b o hb e => k b o hb e) f0 f1 f3 f4 f5⟩
  self := fun A i s Q E st h => wpAny_pyIter_valiter st h
end
section
variable {X : Cx} {tg e : Expr} {td : TE} {apos cpos : Pos}
def iKks (X : Cx) (td : TE) : TI := fun σ H Rr => td σ H fun x H1 => ∃ (d : Addr) (R : Rows) (ob : Obj), x = .ref d ∧ DcG X.prog X.w d R ob H1 ∧ Rr (Isq (DcG X.prog X.w d R ob) (R.map fun r => V.ref r.1)) H1
def iKvs (X : Cx) (td : TE) : TI := fun σ H Rr => td σ H fun x H1 => ∃ (d : Addr) (R : Rows) (ob : Obj), x = .ref d ∧ DcG X.prog X.w d R ob H1 ∧ Rr (Isq (DcG X.prog X.w d R ob) (R.map (·.2.2))) H1
theorem pi_kks (he : PE X e td) : PI X tg e (iKks X td) := by
  refine ⟨fun pins s σ H Rr I h => ?_⟩
  refine thn (he.run pins s σ H _ I h) fun u s1 ⟨x, H1, I1, rx, d, R, ob, ex, hg, q⟩ => ?_
  subst ex
  obtain rfl : u = Value.ref d := rx
  have ⟨⟨hh, hx, ⟨es, ep, us, hd, rv, hes⟩, nd, few, hs⟩, _⟩ := I1.hok d _ hg
  have sz : es.size = R.length := by rw [size_of_entries hes, xsOf_len rv]
  refine wpAny_pyIter_dict_raw hs ⟨ob, hh, hx, hd⟩ (pi_one (tk := s1.toks) I1 _ (turn_kks _ hd) ⟨_, Heap.get?_push_size _ rfl, rfl, ?_⟩ q)
  rw [← sz]; rfl
theorem pi_kvs (he : PE X e td) (hbase : attributeBase e "values" X.env (eval e X.env) = eval e X.env := by rfl) (hline : (apos.endLine == cpos.line) = true := by rfl) : PI X tg (.Call (.Attribute e "values" apos) [] [] cpos) (iKvs X td) := by
  refine ⟨fun pins s σ H Rr I h => ?_⟩
  refine wpAny_Call_method (T := "dict") (id := "dict.values") hbase rfl hline F.plainAttrs_dict F.slot_dict_values F.type_dict_values (thn (he.run pins s σ H _ I h) fun u s1 ⟨x, H1, I1, rx, d, R, ob, ex, hg, q⟩ => ?_)
  subst ex
  obtain rfl : u = Value.ref d := rx
  have ⟨⟨hh, hx, ⟨es, ep, us, hd, rv, hes⟩, nd, few, hs⟩, _⟩ := I1.hok d _ hg
  have sz : es.size = R.length := by rw [size_of_entries hes, xsOf_len rv]
  have raw : s1.heap.DictRaw d es ep := ⟨ob, hh, hx, hd⟩
  refine ⟨raw.typeIs, ?_, ?_⟩
  · intro o ho
    cases ho
    exact ⟨ob, hh, hx.2.1⟩
  have I2 : Inv X pins σ H1 { s1 with heap := s1.heap.push { cls := .type "dict_values", data := .fields #[.ref d] } } := I1.kept (t' := s1.toks) fun b o q => Heap.get?_push_of_some _ q
  have fin : wpAny (model X.prog X.w) X.A (pyIter (.ref s1.heap.objs.size)) (PIE X pins σ tg Rr) X.xe { s1 with heap := s1.heap.push { cls := .type "dict_values", data := .fields #[.ref d] } } := by
    refine wpAny_pyIter_values_raw (d := d) ⟨_, Heap.get?_push_size _ rfl, rfl, rfl⟩ (raw.push _) (pi_one (tk := s1.toks) I2 _ (turn_kvs _ hd) ⟨_, Heap.get?_push_size _ rfl, rfl, ?_⟩ q)
    rw [← sz]; rfl
  show wpAny _ _ (callWith cpos (.builtin "dict.values") [.ref d] [] []) _ X.xe s1
  exact method_meetsIn F.slot_dict_values F.entry_dict_values rfl (PySem.evalArgs_none ⟨rfl, raw.typeIs, F.args_dict_values_1 _, _, meets_dict_values_raw d hs, ⟨⟨es, ep, raw⟩, fin⟩⟩)
end
end K25

set_option Elab.async false
set_option linter.all false
set_option maxRecDepth 100000
set_option maxHeartbeats 4000000
/-! Rules of our own, four: sorted(points, key=lambda point: (point[0], sign * point[1])). Own text. -/
namespace K25
open PySem PySem.Spec PyProof.Rows L2 K25S LamX
/-- the key of a point -/
def kD (g : Int) (p : Pt) : PyData := .tuple [.int p.1, .int (g * p.2)]
/-- the lambda's text -/
abbrev lamB (p1 p2 p3 p4 p5 p6 p7 p8 p9 : Pos) (j0 j1 x1 : Nat) : Expr :=
  .Tuple [.Subscript (.Name "point" p1) (.Constant (.int 0) j0 p2) p3, .BinOp (.Name "sign" p4) .Mult (.Subscript (.Name "point" p5) (.Constant (.int 1) j1 p6) p7) p8] x1 p9
section
variable {P : Program} {w : World} {A : Around} {E : Value → Shared → Prop} {s : Shared}
theorem pt_item {value : Expr} {j : Nat} {pos ps : Pos} {env : Env} {vi : Int} {i : Nat} {a : Addr} {items : Array Value} {v : Value} {Q : Value → Shared → Prop}
    (hv : wpAny (model P w) A (eval value env) (fun u s' => u = .ref a ∧ s' = s) E s) (ht : IsTup s.heap a items) (hi : seqIndex? vi items.size = some i) (h1 : -(2 ^ 63) ≤ vi) (h2 : vi < 2 ^ 63) (hx : items[i]? = some v) (hQ : Q v { s with toks := s.toks + 1 }) :
    wpAny (model P w) A (eval (.Subscript value (.Constant (.int vi) j ps) pos) env) Q E s := by
  refine Subscript_ (wpAny_mono hv (fun u s' ⟨e1, e2⟩ => ?_) fun _ _ h => h)
  subst e1 e2
  refine wpAny_Constant_int ?_
  have ht' : IsTup ({ s' with toks := s'.toks + 1 } : Shared).heap a items := ht
  exact subscriptTail_builtinR (x := v) ht'.typeIs slot_tuple_getitem.lookup (PyProof.Rows.getItem_tuple (j := i) ht' h1 h2 hi hx ⟨rfl, hQ⟩)
theorem lam_body {p1 p2 p3 p4 p5 p6 p7 p8 p9 : Pos} {j0 j1 x1 : Nat} {env : Env} {a c : Addr} {m : Str → Option Value} {x y g : Int} {tx ty tg : Tok} {Q : Value → Shared → Prop} (hk : env.scope.kind = .function) (hp : env.kindOf ("point" : Str) = some .local) (hs : env.kindOf ("sign" : Str) = some .free)
    (hns : s.heap.Ns env.locals m) (hm : m ("point" : Str) = some (.ref a)) (hc : env.cells.lookup ("sign" : Str) = some c) (hv : s.heap.IsCell c (some (.int g tg))) (ht : IsTup s.heap a #[.int x tx, .int y ty]) (hg : IntMulOk g y)
    (hQ : ∀ tk t, Q (.ref s.heap.objs.size) { s with heap := s.heap.push { cls := .type "tuple", data := .seq #[.int x tx, .int (g * y) t] }, toks := tk }) :
    wpAny (model P w) A (eval (lamB p1 p2 p3 p4 p5 p6 p7 p8 p9 j0 j1 x1) env) Q E s := by
  refine wpAny_Tuple_spliced (Calls.spliced_cons (pt_item (i := 0) (v := .int x tx) (wpAny_Name (wpAny_loadName_local hk hp hns hm ⟨rfl, rfl⟩) (by decide)) ht (by show seqIndex? 0 2 = some 0; decide) (by decide) (by decide) rfl ?_))
  refine Calls.spliced_cons (wpAny_BinOp (wpAny_Name (wpAny_loadName_free hk hs hc (show ({ s with toks := s.toks + 1 } : Shared).heap.IsCell c _ from hv) ?_) (by decide)))
  refine pt_item (i := 1) (v := .int y ty) (wpAny_Name (wpAny_loadName_local hk hp (show ({ s with toks := s.toks + 1 } : Shared).heap.Ns env.locals m from hns) hm ⟨rfl, rfl⟩) (by decide)) ht (by show seqIndex? 1 2 = some 1; decide) (by decide) (by decide) rfl ?_
  refine PyProof.Rows.mul_int ?_ hg
  refine Calls.spliced_nil ⟨by show 2 ≤ sizeLine; decide, ?_⟩
  exact hQ _ _
/-- the lambda called at a point -/
theorem lam_run {p1 p2 p3 p4 p5 p6 p7 p8 p9 pp : Pos} {j0 j1 x1 : Nat} {q : Str} {scope : Scope} {cl : List (Str × Addr)} {pm ctv : Value} {c' f a c : Addr} {x y g : Int} {tx ty tg : Tok}
    (hroom : A.depth < recursionLimit) (lim : s.heap.NoLimit)
    (ho : s.heap.get? f = some (PySem.W.kla_obj "<lambda>" q { posonlyargs := [], args := [{ arg := "point", annotation := none, pos := pp }], vararg := none, kwonlyargs := [], kw_defaults := [], kwarg := none, defaults := [] } (lamB p1 p2 p3 p4 p5 p6 p7 p8 p9 j0 j1 x1) scope cl pm c' ctv))
    (hsc : scope.kind = .function ∧ scope.isCoroutine = false ∧ scope.isGenerator = false ∧ scope.names = [(("point" : Str), NameKind.local), (("sign" : Str), NameKind.free)])
    (hcd : s.heap.CodeRec (.ref c') q) (hc : cl.lookup ("sign" : Str) = some c) (hv : s.heap.IsCell c (some (.int g tg))) (ht : IsTup s.heap a #[.int x tx, .int y ty]) (hg : IntMulOk g y) :
    wpAny (model P w) A (call (.ref f) [.ref a]) (PySem.W.KeyPure (kD g (x, y)) s) E s := by
  obtain ⟨h1, h2, h3, h4⟩ := hsc
  refine wpAny_call (PySem.W.kla_callFunE hroom ho rfl h2 h3 rfl hcd ?_)
  have hb : bindArgs (PySem.W.kla_fn "<lambda>" q { posonlyargs := [], args := [{ arg := "point", annotation := none, pos := pp }], vararg := none, kwonlyargs := [], kw_defaults := [], kwarg := none, defaults := [] } (lamB p1 p2 p3 p4 p5 p6 p7 p8 p9 j0 j1 x1) scope cl pm (.ref c') ctv) ⟨[.ref a], []⟩ = pure [(("point" : Str), Value.ref a)] := rfl
  rw [hb]
  refine wpAny_pure (wpAny_newFunctionEnv (fun z hz => ?_) (fun z hz => ?_) (fun h₁ hns hsb => ⟨lim.fresh _ hsb, ?_⟩) h1)
  · have hz : z ∈ scope.names := hz
    rw [h4] at hz
    simp only [List.mem_cons, List.not_mem_nil, or_false] at hz
    rcases hz with rfl | rfl <;> simp
  · have hz : z ∈ [(("point" : Str), Value.ref a)] := hz
    have ez := List.mem_singleton.mp hz
    subst ez
    show scope.names.lookup ("point" : Str) = some .local
    rw [h4]; rfl
  have kp : ∀ b o, s.heap.get? b = some o → h₁.get? b = some o := fun b o e => hsb.extBut b o (Nat.ne_of_lt (Heap.lt_size e)) (Heap.get?_push_of_some _ e)
  refine PySem.W.kla_codeExpr ?_
  refine lam_body (c := c) (a := a) (g := g) (tg := tg) (tx := tx) (ty := ty) (x := x) (y := y) h1 (show scope.names.lookup ("point" : Str) = some .local by rw [h4]; rfl) (show scope.names.lookup ("sign" : Str) = some .free by rw [h4]; rfl) hns rfl hc
    (let ⟨o, e1, e2⟩ := hv; ⟨o, kp _ _ e1, e2⟩) (let ⟨o, e1, e2⟩ := ht; ⟨o, kp _ _ e1, e2⟩) hg fun tk t => ?_
  refine ⟨_, _, rfl, fun b o e => Heap.get?_push_of_some _ (kp b o e), ?_⟩
  exact .tuple (as := []) (Heap.get?_push_size _ rfl) rfl rfl (.cons (as := []) (bs := []) (.int _ _) (.cons (as := []) (bs := []) (.int _ _) .nil))
end
theorem args_sorted_key (a v : Value) : argsOk "sorted" ⟨[a], [(Str.ofString "key", v)]⟩ := by unfold argsOk; kernel_rfl
theorem args_sort_key (a v : Value) : argsOk "list.sort" ⟨[a], [(Str.ofString "key", v)]⟩ := by unfold argsOk; kernel_rfl
theorem kD_le (g : Int) : PySem.W.dataLe false (kD g) = fun p q => !@decide (KLt g q p) (by unfold KLt; infer_instance) := by
  funext p q
  show (!PySem.W.dataLt (kD g q) (kD g p)) = _
  unfold kD
  rw [PySem.W.dataLt_ii]
  rfl
theorem kD_alike (g : Int) (p q : Pt) : PySem.W.alike (kD g p) (kD g q) = true := by simp [kD, PySem.W.alike, PySem.W.alikeAll]
/-- the dict of the points ps: each of them a key -/
def ptK (p : Pt) : List Key × V := ([Sum.inl p.1, Sum.inl p.2], V.bl true)
section
variable {X : Cx}
/-- what comes of a dict of points, collected -/
theorem coll_pts {pins : List (Addr × Obj)} {σ : L2.St} {H : Hp} {s : Shared} {a : Addr} {ps : List Pt} {E : Value → Shared → Prop} {Q : List Value → Shared → Prop} (hc : X.calm = true) (I : Inv X pins σ H s) (ha : H a = some (.dT (ps.map ptK)))
    (hQ : ∀ h' tk vs xs, (∀ b o, s.heap.get? b = some o → h'.get? b = some o) → PtVs H xs ps → Vals xs vs → Q vs { s with heap := h', toks := tk }) : wpAny (model X.prog X.w) X.A.in1 (collect (.ref a)) Q E s := by
  obtain ⟨hl, hs, ys, rel, o, es, ep, ho, hex, hd, he, nd⟩ := I.hok a _ ha
  have hes : es.size = ps.length := by rw [size_of_entries he, ← Paired.length rel, List.length_map]
  have raw : s.heap.DictRaw a es ep := ⟨o, ho, hex, hd⟩
  have hl' : ps.length ≤ sizeLine := by rw [List.length_map] at hl; exact hl
  refine PySem.W.kdu_collect (KdlSrc.rawDict (d := a) (es := es) (ep := ep) hs) (by simp [I.ok.hd hc]) raw (by rw [hes]; exact hl') fun h' tk acc k it => ?_
  have key : ∀ (ps : List Pt) (ys : List (List Key × Addr × Value)), Paired (fun (p : List Key × V) (q : List Key × Addr × Value) => p.1 = q.1 ∧ H q.2.1 = some (.tup (p.1.map kV)) ∧ RelV p.2 q.2.2) (ps.map ptK) ys →
      PtVs H (ys.map fun y => V.ref y.2.1) ps ∧ Vals (ys.map fun y => V.ref y.2.1) (ys.map fun y => Value.ref y.2.1) := by
    intro ps
    induction ps with
    | nil => intro ys r; cases r; exact ⟨.nil, .nil⟩
    | cons p ps ih =>
      intro ys r
      have r : Paired _ (ptK p :: ps.map ptK) ys := r
      cases r with
      | cons rr t =>
        obtain ⟨h1, h2⟩ := ih _ t
        exact ⟨.cons ⟨_, rfl, rr.2.1⟩ h1, .cons rfl h2⟩
  obtain ⟨k1, k2⟩ := key ps ys rel
  have e : acc.toList = ys.map fun y => Value.ref y.2.1 := by
    obtain ⟨i1, i2⟩ := it
    refine List.ext_getElem? fun i => ?_
    by_cases hi : i < es.size
    · have hy : i < ys.length := by rw [← size_of_entries he]; exact hi
      have ha' : i < acc.size := by omega
      obtain ⟨hi', ev⟩ := i2 i acc[i] (by simp [ha'])
      have ek := entry_at he i
      rw [Array.getElem?_eq_getElem hi, List.getElem?_eq_getElem hy] at ek
      have ek := Option.some.inj ek
      rw [List.getElem?_map, List.getElem?_eq_getElem hy, Array.getElem?_toList, Array.getElem?_eq_getElem ha', ev, ek]
      rfl
    · rw [Array.getElem?_toList, Array.getElem?_eq_none (by omega), List.getElem?_map, List.getElem?_eq_none (by rw [← size_of_entries he]; omega)]
      rfl
  rw [e]
  exact hQ h' tk _ _ k k1 k2
/-- one look at the table of code objects -/
abbrev Tb (X : Cx) (P : Addr) : List (Addr × Str) := [(P, X.env.qual ++ "<lambda>")]
def rSortK (X : Cx) (P : Addr) (j : Nat) (σ : L2.St) (x : V) (H1 : Hp) (Q : VK) : Prop := ∃ (a : Addr) (ps : List Pt) (g : Int), x = .ref a ∧ H1 a = some (.dT (ps.map ptK)) ∧ ps.length ≤ 1000 ∧ (∀ p ∈ ps, -(2 ^ 64) < p.2 ∧ p.2 < 2 ^ 64) ∧ σ[j]? = some (some (.int g)) ∧ Tabs (Tb X P) H1 ∧
  ∀ (H2 : Hp) (p : Addr) (vs : List V) (qs : List Pt), ExtN H1 H2 → Tabs (Tb X P) H2 → H2 p = none → PtVs H2 vs qs → qs.Perm ps → qs.Pairwise (fun a b => ¬ KLt g b a) → Q (.ref p) (upd H2 p (.lst vs))
def tSortK (X : Cx) (P : Addr) (j : Nat) (te : TE) : TE := fun σ H Q => te σ H fun x H1 => rSortK X P j σ x H1 Q
theorem paired_zip {α β : Type} {F : α → β → Prop} : ∀ {l : List α} {m : List β}, Paired F l m → ∃ zs : List (α × β), l = zs.map (·.1) ∧ m = zs.map (·.2) ∧ ∀ z ∈ zs, F z.1 z.2
  | _, _, .nil => ⟨[], rfl, rfl, fun z h => by cases h⟩
  | _, _, .cons r t => by
    obtain ⟨zs, e1, e2, h⟩ := paired_zip t
    refine ⟨(_, _) :: zs, by rw [e1]; rfl, by rw [e2]; rfl, fun z hz => ?_⟩
    rcases List.mem_cons.mp hz with e | hz
    · rw [e]; exact r
    · exact h z hz
theorem paired_of {α β : Type} {F : α → β → Prop} : ∀ (zs : List (α × β)), (∀ z ∈ zs, F z.1 z.2) → Paired F (zs.map (·.1)) (zs.map (·.2))
  | [], _ => .nil
  | z :: zs, h => .cons (h z (by simp)) (paired_of zs fun y hy => h y (List.mem_cons_of_mem _ hy))
theorem klt_tr {g : Int} (a b c : Pt) (h : ¬ KLt g b a) (k : ¬ KLt g c b) : ¬ KLt g c a := by
  unfold KLt at *
  omega
theorem klt_to {g : Int} (a b : Pt) : ¬ KLt g b a ∨ ¬ KLt g a b := by
  unfold KLt
  omega
theorem pe_sortk {p1 p2 p3 p4 p5 p6 p7 p8 p9 pp pl pk pn pos : Pos} {j0 j1 xx : Nat} {scope : Scope} {c P : Addr} {j : Nat} {e : Expr} {te : TE} (hcalm : X.calm = true) (hu : X.A.units + 64 < cLine) (hdep : X.A.depth < recursionLimit) (TB : TabB X.base X.mg c P) (hcode : X.env.code = .ref c)
    (hsc : scope.kind = .function ∧ scope.isCoroutine = false ∧ scope.isGenerator = false ∧ scope.names = [(("point" : Str), NameKind.local), (("sign" : Str), NameKind.free)])
    (hN : X.N[j]? = some ("sign" : Str)) (hcell : X.env.scope.names.lookup ("sign" : Str) = some .cell) (hg : Gl X "sorted") (hm : X.mg "sorted" = none) (he : PA X [e] (tCons te tNil))
    (hb : backTo pos (starEach [e] X.env) = (false, eval e X.env) :: backTo pos (starEach [] X.env) := by rfl) (hpl : (backTo pos (starEach [e] X.env)).any (·.1) = false := by rfl) :
    PE X (.Call (.Name "sorted" pn) [e] [{ arg := some ("key" : Str), value := .Lambda { posonlyargs := [], args := [{ arg := "point", annotation := none, pos := pp }], vararg := none, kwonlyargs := [], kw_defaults := [], kwarg := none, defaults := [] } (lamB p1 p2 p3 p4 p5 p6 p7 p8 p9 j0 j1 xx) scope pl, pos := pk }] pos) (tSortK X P j te) := by
  refine ⟨fun pins s σ H Q I h => ?_⟩
  refine wpAny_Call_Name_kw (ld_blt (u := .builtin "sorted") I hg hm (by decide +kernel) ?_)
  refine PyProof.Rows.callWith_kw (thn (he.run pos pins s σ H (fun vs H1 => match vs with | [x] => rSortK X P j σ x H1 Q | _ => False) I h) fun us s1 ⟨vs, H1, I1, r1, q1⟩ => ?_) hb hpl rfl rfl
  have ⟨x, ex, q1⟩ : ∃ x, vs = [x] ∧ rSortK X P j σ x H1 Q := by
    cases vs with
    | nil => exact q1.elim
    | cons x l => cases l with
      | nil => exact ⟨x, rfl, q1⟩
      | cons _ _ => exact q1.elim
  subst ex
  obtain ⟨a, ps, g, ea, ha, hl, hr, hσ, hT, q⟩ := q1
  subst ea
  rw [Vals.ref1 r1]
  -- the lambda
  refine wpAny_evalAll_cons (wpAny_bind ?_)
  refine lam_make2 (T := Tb X P) I1 TB hcode (by simp) (fun p hp _ => by simp only [List.mem_singleton] at hp; rw [hp]) hT rfl (fun y hy e => ?_) fun f c' pm ctv H2 s2 I2 hE hT2 hf hfn _ hc' => ?_
  · rw [hsc.2.2.2] at hy
    simp only [List.mem_cons, List.not_mem_nil, or_false] at hy
    rcases hy with rfl | rfl
    · cases e
    · exact I1.ok.has _ (.inl hcell)
  refine wpAny_bind (wpAny_standAt (wpAny_pure (wpAny_evalAll_nil ?_)))
  show wpAny _ _ (call (.builtin "sorted") [.ref a] [(Str.ofString "key", .ref f)]) _ _ s2
  have ha2 : H2 a = some (.dT (ps.map ptK)) := hE a _ ha (fun q z => by cases z)
  -- the captured cell
  obtain ⟨m, hns, hloc⟩ := I2.loc
  obtain ⟨u, ru, hcl⟩ := hloc j _ _ hN hσ (.inr (.inl hcell))
  obtain ⟨tg, rfl⟩ := ru
  obtain ⟨cc, hcc, hcv⟩ : ∃ cc, X.env.cells.lookup ("sign" : Str) = some cc ∧ s2.heap.IsCell cc (some (.int g tg)) := by
    rcases hcl with ⟨z, _⟩ | ⟨_, cc, h1, h2⟩
    · have z : X.env.scope.names.lookup ("sign" : Str) = some .local := z
      rw [hcell] at z
      cases z
    · exact ⟨cc, h1, h2⟩
  have hcl2 : (cloFrom X.env.cells scope.names []).lookup ("sign" : Str) = some cc := NdefX.clo_has (fun y hy e => by
    rw [hsc.2.2.2] at hy
    simp only [List.mem_cons, List.not_mem_nil, or_false] at hy
    rcases hy with rfl | rfl
    · cases e
    · exact ⟨cc, hcc⟩) (by rw [hsc.2.2.2]; simp) hcc
  obtain ⟨⟨oc, vsc, tc, hoc, hdc, hvc⟩, _, _⟩ := I2.hok c' _ hc'
  -- sorted
  refine call_function_entry_kw kind_sorted plain_sorted entry_sorted (args_sorted_key _ _) ?_
  unfold Builtin.«sorted»
  refine wpAny_bind (m := checkCount "sorted" 1 1 _) (wpAny_pure ?_)
  refine wpAny_bind (coll_pts hcalm I2 ha2 fun h3 tk us xs k3 hxs rv => ?_)
  have hlv : us.length = ps.length := by rw [← rv.length]; exact Paired.length hxs
  have hz : us.length ≤ sizeLine := by rw [hlv]; have : 1000 ≤ sizeLine := by decide
                                       omega
  refine wpAny_bind (wpAny_newList ?_ hz)
  obtain ⟨zs, ez1, ez2, hzp⟩ := paired_zip hxs
  subst ez1 ez2
  have hoL : (h3.push (seqObj "list" us.toArray 0)).get? h3.objs.size = some (seqObj "list" us.toArray 0) := Heap.get?_push_size _ rfl
  have ei : PySem.W.EachIs (fun v (z : V × Pt) => L2.RelV z.1 v) us zs := each_of_vals rv
  have up : ∀ b o, s2.heap.get? b = some o → (h3.push (seqObj "list" us.toArray 0)).get? b = some o := fun b o e => Heap.get?_push_of_some _ (k3 b o e)
  refine wpAny_bind (wpAny_holding (PySem.W.list_sort_key_data (R := fun v (z : V × Pt) => L2.RelV z.1 v) (s := { s2 with heap := h3.push (seqObj "list" us.toArray 0), toks := tk }) (f := .ref f) (b := false) (fun z : V × Pt => kD g z.2) hoL ei
    (PySem.W.AllAlike.of fun b b' => kD_alike _ _ _) (PySem.W.Sortable.tuples fun b => ⟨_, _, rfl⟩) (by rw [← ei.length]; exact hz) (fun b _ => by simp only [Around.in1_units, kD, PyData.depth, PyData.depthAll]; omega) (args_sort_key _ _) (PyProof.Rows.ksk_t1 _ _) (fun v z rz hz' h4 tk4 kb => ?_) fun out c4 h4 tk4 kb lo olen eo => ?_))
  · -- the lambda at one point
    have kk : ∀ b o, s2.heap.get? b = some o → h4.get? b = some o := fun b o e => kb b o (Nat.ne_of_lt (Heap.lt_size (k3 b o e))) (up b o e)
    obtain ⟨ap, eap, hp⟩ := hzp z hz'
    rw [eap] at rz
    cases rz
    obtain ⟨_, its, rvs, otp, ho, hct, n, hd⟩ := I2.hok ap _ hp
    cases rvs with
    | cons r1 rvs =>
      cases rvs with
      | cons r2 rvs =>
        cases rvs
        obtain ⟨tx, rfl⟩ := r1
        obtain ⟨ty, rfl⟩ := r2
        have hzm : z.2 ∈ zs.map (·.2) := List.mem_map_of_mem hz'
        refine lam_run (c := cc) (tx := tx) (ty := ty) (tg := tg) ?_ ((I2.nolimit).keeps kk) (kk _ _ hf) hsc ⟨c', oc, vsc, tc, rfl, kk _ _ hoc, hdc, hvc⟩ hcl2 (let ⟨o, e1, e2⟩ := hcv; ⟨o, kk _ _ e1, e2⟩) ⟨otp, kk _ _ ho, hct, n, hd⟩ ?_
        · show X.A.in1.in1.depth < recursionLimit
          simpa using hdep
        · exact CMul.ok (.inr (hr _ hzm))
  · have kk : ∀ b o, s2.heap.get? b = some o → h4.get? b = some o := fun b o e => kb b o (Nat.ne_of_lt (Heap.lt_size (k3 b o e))) (up b o e)
    have I3 : Inv X pins σ H2 { s2 with heap := h3, toks := tk } := I2.kept (t' := tk) k3
    have hn : H2 h3.objs.size = none := I3.hok.fresh (Nat.le_refl _)
    have pm := List.mergeSort_perm zs (PySem.W.dataLe false fun z : V × Pt => kD g z.2)
    have pw := List.pairwise_mergeSort (le := fun x y : V × Pt => PySem.W.dataLe false (kD g) x.2 y.2) (fun a b c h1 h2 => by
      rw [kD_le] at h1 h2 ⊢
      simp only [Bool.not_eq_true', decide_eq_false_iff_not] at h1 h2 ⊢
      exact klt_tr a.2 b.2 c.2 h1 h2) (fun a b => by
      rw [kD_le]
      simp only [Bool.or_eq_true, Bool.not_eq_true', decide_eq_false_iff_not]
      exact klt_to a.2 b.2) zs
    have ele : PySem.W.dataLe false (fun z : V × Pt => kD g z.2) = fun x y : V × Pt => PySem.W.dataLe false (kD g) x.2 y.2 := rfl
    rw [ele] at eo pm
    generalize zs.mergeSort (fun x y : V × Pt => PySem.W.dataLe false (kD g) x.2 y.2) = zs2 at eo pm pw
    have k34 : ∀ b o, h3.get? b = some o → h4.get? b = some o := fun b o e => kb b o (Nat.ne_of_lt (Heap.lt_size e)) (Heap.get?_push_of_some _ e)
    have len2 : (zs2.map (·.1)).length ≤ sizeLine := by rw [List.length_map, pm.length_eq, ← ei.length]; exact hz
    refine wpAny_pure ⟨_, rfl, .ref h3.objs.size, upd H2 h3.objs.size (.lst (zs2.map (·.1))), I3.laid (t' := tk4) k34 (Nat.le_refl _) ⟨len2, out, c4, vals_of_each eo, lo⟩, rfl, ?_⟩
    refine q H2 _ (zs2.map fun z : V × Pt => z.1) (zs2.map fun z : V × Pt => z.2) hE hT2 hn (paired_of zs2 fun z hz' => hzp z (pm.mem_iff.mp hz')) (pm.map _) ?_
    rw [List.pairwise_map]
    refine pw.imp fun {x y} hxy => ?_
    rw [kD_le] at hxy
    simpa using hxy
end
end K25

set_option Elab.async false
set_option linter.all false
set_option maxRecDepth 100000
set_option maxHeartbeats 4000000
/-! Rules of our own, five: {segment: e for segment in segments}. Own text. -/
namespace K25
open PySem PySem.Spec PyProof.Rows L2 K25S
theorem dic_new {P : Program} {w : World} (h : Heap) (hb : sysModules < h.objs.size) : DicB P w h.objs.size [] { cls := .type "dict", data := .dict #[] } (h.push { cls := .type "dict", data := .dict #[] }) :=
  ⟨Heap.get?_push_size _ rfl, ⟨rfl, rfl, rfl⟩, ⟨#[], _, [], rfl, .nil, rfl⟩, List.nodup_nil, by simp, beq_eq_false_iff_ne.mpr (Ne.symm (Nat.ne_of_lt hb))⟩
section
variable {X : Cx}
theorem kc_set {pins : List (Addr × Obj)} {σ : L2.St} {H : Hp} {s : Shared} {E : Value → Shared → Prop} {D a : Addr} {R : Rows} {g : Sg} {z : V} {u r : Value} {Q : Unit → Shared → Prop} (hu : X.A.units + 64 < cLine) (I : Inv X pins σ H s) (hD : Dc X.prog X.w H D R) (hg : SgV H (.ref a) g) (hn : g ∉ R.map (·.2.1)) (hl : R.length < 1000)
    (ru : L2.RelV (.ref a) u) (rz : L2.RelV z r) (h : ∀ ob s', Inv X pins σ (upd H D (DicO X.prog X.w D (R ++ [(a, g, z)]) ob)) s' → Q () s') : wpAny (model X.prog X.w) X.A (dictSet D u r) Q E s := by
  obtain ⟨ob0, es, ep, us, e, hh, hx, hdt, rv, he, dd, nd, few, hsy⟩ := dc_open I hD
  obtain ⟨a', ea, ki⟩ := kis_of I hg ru
  subst ea
  cases ru
  have hnone := at_none (us := us) hn
  have hsz : (xsOf R us).length ≤ sizeLine := by
    rw [xsOf_len rv]
    have : 1000 ≤ sizeLine := by decide
    omega
  refine wpAny_dictSet_heap (by show X.A.units + 8 < cLine; omega) ki dd (fun h' dd' hs => ?_) hsz
  rw [storedH_new hnone] at dd'
  obtain ⟨ob, es', ep', ho', hx', hd', he', _, nd'⟩ := dd'
  have rv' : Vals ((R ++ [(a, g, z)]).map (·.2.2)) (us ++ [r]) := by
    rw [List.map_append]
    exact Vals.append rv (.cons rz .nil)
  refine h ob _ (d_write I (by rw [e]; exact True.intro) hs ⟨_, ho'⟩ (dicO_ok ⟨ho', hx', ⟨es', ep', us ++ [r], hd', rv', ?_⟩, ?_, ?_, hsy⟩))
  · rw [he', xsOf_snoc (a, g, z) r rv]
  · rw [List.map_append, List.nodup_append]
    refine ⟨nd, by simp, fun x hx y hy => ?_⟩
    rintro rfl
    simp only [List.map_cons, List.map_nil, List.mem_singleton] at hy
    rw [hy] at hx
    exact hn hx
  · simp only [List.length_append, List.length_cons, List.length_nil]; omega
/-- {k: v for target in iter}, keys that are segments, no two alike -/
def tKc (X : Cx) (wi : TI) (g : TG) (tk tv : TE) (vs : List Nat) : TE := fun σ H Q => wi σ H fun J H1 => ∀ D ob0, H1 D = none → ∃ W : Nat → Nat → Hp → Prop, (∃ m, W 0 m (upd H1 D (DicO X.prog X.w D [] ob0))) ∧ ∀ i m H, W i m H →
  (J.stop i H ∧ Q (.ref D) H) ∨ (J.go i H ∧ ∃ Nx : Hp → Prop, (∀ H', Nx H' → ∃ m', m' < m ∧ W (i + 1) m' H') ∧ ∀ x H', J.yld i H x H' → g x (wipe σ vs) H' fun σ2 H2 => wipe σ2 vs = wipe σ vs ∧
    tk σ2 H2 fun y H4 => tv σ2 H4 fun z H5 => ∃ (R : Rows) (a : Addr) (k : Sg), y = .ref a ∧ Dc X.prog X.w H5 D R ∧ SgV H5 (.ref a) k ∧ k ∉ R.map (·.2.1) ∧ R.length < 1000 ∧ ∀ ob, Nx (upd H5 D (DicO X.prog X.w D (R ++ [(a, k, z)]) ob)))
theorem pe_kc {kx vx tg iter : Expr} {scope : Scope} {own : List (Str × Nat)} {pos : Pos} {wi : TI} {g : TG} {tk tv : TE} (hc : X.calm = true) (hu : X.A.units + 64 < cLine) (hN : X.N.Nodup) (hi : PI X tg iter wi) (ok : BlkOk X.N X.env.scope scope own)
    (hg : ∀ (sB : Shared) (HB : Hp) (C : Addr) (cl : List (Str × Addr)) (fp : List Addr), PG (X.blk sB HB scope (compEnvC scope cl C X.env) fp) tg g)
    (hk : ∀ (sB : Shared) (HB : Hp) (C : Addr) (cl : List (Str × Addr)) (fp : List Addr), PE (X.blk sB HB scope (compEnvC scope cl C X.env) fp) kx tk)
    (hv : ∀ (sB : Shared) (HB : Hp) (C : Addr) (cl : List (Str × Addr)) (fp : List Addr), PE (X.blk sB HB scope (compEnvC scope cl C X.env) fp) vx tv) (hs : ∀ x, foldedSetIterable iter X.env x = pure x := by intro _; rfl) :
    PE X (.DictComp kx vx [⟨tg, iter, [], 0⟩] scope pos) (tKc X wi g tk tv (own.map (·.2))) := by
  refine ⟨fun pins s σ H Q I h => ?_⟩
  rw [arm_eval_DictComp]
  have clo : ∀ y ∈ scope.names, y.2 = .free → ∃ c, X.env.cells.lookup y.1 = some c := fun y hy e => (ok.free y hy e).elim (fun z => I.ok.has _ (.inl z)) fun z => I.ok.has _ (.inr z)
  refine wpAny_comprehension_free rfl hs (closure_ok clo) ok.kind (fun y hy e => by rw [ok.uniq y hy, e]) (thn (hi.run pins s σ H _ I h) fun xv sA hx => thn hx fun itv sB hit => ?_)
  obtain ⟨it, fp, tn, J, HA, eit, IA, T, tn0, fpA, q⟩ := hit
  subst eit
  refine wpAny_newObj_type (newEnv_comp ?_)
  -- the new dict, at D
  have D0 : HA sB.heap.objs.size = none := IA.hok.fresh (Nat.le_refl _)
  obtain ⟨W, ⟨m0, w0⟩, turn⟩ := q sB.heap.objs.size { cls := .type "dict", data := .dict #[] } D0
  have IC0 : Inv X pins σ (upd HA sB.heap.objs.size (DicO X.prog X.w sB.heap.objs.size [] { cls := .type "dict", data := .dict #[] })) { sB with heap := sB.heap.push { cls := .type "dict", data := .dict #[] } } :=
    IA.laid (t' := sB.toks) (fun b o e => Heap.get?_push_of_some _ e) (Nat.le_refl _) (dicO_ok (dic_new sB.heap IA.big))
  have lt0 : ∀ b ∈ fp, b < sB.heap.objs.size := fun b hb => let ⟨_, e, _⟩ := T.obj _ _ tn0 b hb; Heap.lt_size e
  have tnC0 : tn 0 (sB.heap.push { cls := .type "dict", data := .dict #[] }) := T.keep _ _ _ tn0 fun b _ o e => Heap.get?_push_of_some _ e
  have fpC0 : ∀ b ∈ fp, FpOk X pins (upd HA sB.heap.objs.size (DicO X.prog X.w sB.heap.objs.size [] { cls := .type "dict", data := .dict #[] })) b ∧ b < (sB.heap.push { cls := .type "dict", data := .dict #[] }).objs.size := fun b hb =>
    ⟨⟨by rw [upd_ne (Nat.ne_of_lt (lt0 b hb))]; exact (fpA b hb).1, (fpA b hb).2⟩, by rw [Heap.size_push]; exact Nat.lt_succ_of_lt (lt0 b hb)⟩
  generalize hD : sB.heap.objs.size = D at *
  generalize upd HA D (DicO X.prog X.w D [] { cls := .type "dict", data := .dict #[] }) = HC at IC0 w0 fpC0
  generalize hsC : ({ sB with heap := sB.heap.push { cls := .type "dict", data := .dict #[] } } : Shared) = sC at IC0 ⊢
  have hC : sC.heap = sB.heap.push { cls := .type "dict", data := .dict #[] } := by rw [← hsC]
  rw [← hC] at tnC0 fpC0
  -- the block
  have IB := block_start IC0 ok hN fpC0
  have jg := hg sC HC sC.heap.objs.size (cellsFrom (sC.heap.objs.size + 1) scope.names (cloFrom X.env.cells scope.names [])) fp
  have jk := hk sC HC sC.heap.objs.size (cellsFrom (sC.heap.objs.size + 1) scope.names (cloFrom X.env.cells scope.names [])) fp
  have jv := hv sC HC sC.heap.objs.size (cellsFrom (sC.heap.objs.size + 1) scope.names (cloFrom X.env.cells scope.names [])) fp
  show codeAny _ _ (.compStart (.DictComp kx vx [⟨tg, iter, [], 0⟩] scope pos) 0 (.ref it) (.ref D) (compEnvC scope (cellsFrom (sC.heap.objs.size + 1) scope.names (cloFrom X.env.cells scope.names [])) sC.heap.objs.size X.env))
    (compPost (model X.prog X.w) X.A X.xe none (EP X pins σ Q) (.ref D) sC.heap.objs.size) { sC with heap := pushCells (sC.heap.push { cls := .type "dict", data := .dict #[] }) scope.names }
  have fresh0 : ∀ b ∈ fp, HC b = none := fun b hb => (fpC0 b hb).1.1
  generalize eE : compEnvC scope (cellsFrom (sC.heap.objs.size + 1) scope.names (cloFrom X.env.cells scope.names [])) sC.heap.objs.size X.env = ev at IB jg jk jv ⊢
  have evL : ev.locals = sC.heap.objs.size := by rw [← eE]; rfl
  generalize hs1 : ({ sC with heap := pushCells (sC.heap.push { cls := .type "dict", data := .dict #[] }) scope.names } : Shared) = s1 at IB ⊢
  have tn1 : tn 0 s1.heap := T.keep _ _ _ tnC0 fun b _ o e => by rw [← hs1]; exact pushCells_keeps _ _ _ _ (Heap.get?_push_of_some _ e)
  have inFp : ∀ {τ : L2.St} {H' : Hp} {s' : Shared}, Inv (X.blk sC HC scope ev fp) [] τ H' s' → (∀ b ∈ fp, H' b = none) → ∀ b ∈ fp, FpOk (X.blk sC HC scope ev fp) [] H' b := fun {τ H' s'} I' free b hb =>
    ⟨free b hb, (I'.ok.exf b hb).1, I'.ok.exfs b hb, .inl hb, (I'.ok.exf b hb).2, fun p hp => absurd (show p ∈ ([] : List (Addr × Obj)) ++ [] from hp) (by simp)⟩
  suffices loop : codeAny (model X.prog X.w) X.A (.compLoop (.DictComp kx vx [⟨tg, iter, [], 0⟩] scope pos) 0 (.ref it) (.ref D) ev) (compPost (model X.prog X.w) X.A X.xe none (EP X pins σ Q) (.ref D) sC.heap.objs.size) s1 from
    codeAny_compStart_dict loop (T.self X.A 0 _ _ _ tn1 loop)
  refine compLoop_anyD (fun n s' => ∃ i H', Inv (X.blk sC HC scope ev fp) [] (wipe σ (own.map (·.2))) H' s' ∧ tn i s'.heap ∧ (∀ b ∈ fp, H' b = none) ∧ W i n H') (fun n s2 ⟨i, H2, I2, tn2, free2, w2⟩ => ?_) m0 ⟨0, HC, IB, tn1, fresh0, w0⟩
  rcases turn i n H2 w2 with ⟨stop, done⟩ | ⟨go, Nx, hNx, step⟩
  · refine thnF (T.done (X.blk sC HC scope ev fp) rfl rfl rfl hc i [] s2 _ H2 (fun _ _ => False) I2 (inFp I2 free2) tn2 stop) fun r s3 ⟨er, I3⟩ => ?_
    subst er
    have back : Inv X pins σ H2 s3 := IC0.call' (ch := fp) I3.os I3.base I3.hok I3.bare fun b hb => let z := (fpC0 b hb).1; ⟨z.2.2.2.1, z.2.1, z.2.2.2.2.1, z.2.2.2.2.2⟩
    have free : H2 sC.heap.objs.size = none := by
      have z : H2 ev.locals = none := I3.free
      rwa [evL] at z
    obtain ⟨m, ns, _⟩ := I3.loc
    have ns : s3.heap.Ns ev.locals m := ns
    rw [evL] at ns
    have f := IC0.fpOk (Nat.le_refl _) free
    exact ⟨m, ns, fun h'' sb => ⟨.ref D, H2, back.turned (t' := s3.toks) (fun b o hb e => (sb.2 b hb).trans e) f.1 f.2.1 f.2.2.2.1 f.2.2.2.2.1 f.2.2.2.2.2, rfl, done⟩⟩
  · refine thnF (T.item (X.blk sC HC scope ev fp) rfl rfl rfl hc i [] s2 _ H2 (fun _ _ => False) I2 (inFp I2 free2) tn2 go) fun r s3 ⟨u, er, later⟩ => ?_
    subst er
    refine thnF later fun _ s4 ⟨x, H4, I4, rx, yl, tn4, free4⟩ => ?_
    have I4' := I4.pinned (inFp I4 free4) (T.obj _ _ tn4)
    refine thnF (jg.run _ s4 _ H4 x u _ I4' rx (step x H4 yl)) fun _ s5 ⟨τ, H5, I5, wp, q5⟩ => wpAny_pure ?_
    show if true = true then _ else _
    rw [if_pos rfl]
    refine thnF (jk.run _ s5 τ H5 _ I5 q5) fun ku s6 ⟨yk, H6, I6, rk, q6⟩ => thnF (jv.run _ s6 τ H6 _ I6 q6) fun vu s7 ⟨yv, H7, I7, rv, R, a, k, ek, hD7, hk7, hn, hl, nx⟩ => ?_
    subst ek
    refine kc_set (X := X.blk sC HC scope ev fp) hu I7 hD7 hk7 hn hl rk rv fun ob s8 I8 => ?_
    obtain ⟨m', hm, w'⟩ := hNx _ (nx ob)
    have pin : ∀ b ∈ fp, ∀ o, s4.heap.get? b = some o → s8.heap.get? b = some o ∧ (upd H7 D (DicO X.prog X.w D (R ++ [(a, k, yv)]) ob)) b = none := fun b hb o e =>
      let z := I8.pin (b, o) (List.mem_append_right _ (List.mem_append_right _ (mem_pinsAt hb e)))
      ⟨z.1, z.2.1⟩
    refine ⟨m', hm, i + 1, _, (I8.unpinned (pins := [])).weak (by rw [← wp, wipe_length]) (fun j v e => ?_), T.keep _ _ _ tn4 fun b hb o e => (pin b hb o e).1, fun b hb => ?_, w'⟩
    · rw [← wp] at e
      exact (wipe_some e).1
    · obtain ⟨o, e, _⟩ := T.obj _ _ tn4 b hb
      exact (pin b hb o e).2
end
end K25

set_option Elab.async false
set_option linter.all false
set_option maxRecDepth 100000
set_option maxHeartbeats 4000000
/-! Rules of our own, six: for i, x in enumerate(t), t a tuple. Own text. -/
namespace K25
open PySem PySem.Spec PyProof.Rows L2 K25S
theorem enum_meets {v : Value} {o : Obj} {G : Heap → Prop} (B : Begins v o G) :
    Meets (Builtin.«enumerate.__new__» ⟨[.type "enumerate", v], []⟩) (fun _ R s => G s.heap ∧
      R (.ok (.ret (.ref (s.heap.push o).objs.size))) { s with heap := (s.heap.push o).push { cls := .type "enumerate", data := .fields #[.none, .bool false, .ref s.heap.objs.size, rawInt 0, .none, .none] } }) :=
  .of_wp fun P w A R s hyp => by
    obtain ⟨hp, g, d, tk, os⟩ := s
    obtain ⟨h1, fin⟩ := hyp
    have hsub := sub_enumerate
    have start : ∀ {A' : Around} {E : Value → Shared → Prop} {Q : Value → Shared → Prop}, Q (.ref hp.objs.size) ⟨hp.push o, g, d, tk, os⟩ → wpAny (model P w) A' (pyIter v) Q E ⟨hp, g, d, tk, os⟩ :=
      fun q => B.iter P w _ _ ⟨hp, g, d, tk, os⟩ _ h1 q
    wp_walk using start
    refine wpAny_stack_any fun st => wpAny_pure ?_
    split
    · rename_i c _ _ _ _ _
      cases (c == Value.type "enumerate") <;> (wp_walk using start; exact ⟨_, rfl, fin⟩)
    · wp_walk using start
      exact ⟨_, rfl, fin⟩
section
variable {P : Program} {w : World} {A : Around} {E : Value → Shared → Prop} {s : Shared}
theorem enum_call {v : Value} {o : Obj} {G : Heap → Prop} {Q : Value → Shared → Prop} (B : Begins v o G) (h1 : G s.heap)
    (fin : ∀ h', IsEnum h' (s.heap.objs.size + 1) s.heap.objs.size 0 .none → h'.get? s.heap.objs.size = some o → (∀ b u, s.heap.get? b = some u → h'.get? b = some u) → Q (.ref (s.heap.objs.size + 1)) { s with heap := h' }) :
    wpAny (model P w) A (call (.type "enumerate") [v]) Q E s := by
  refine callType_new F.called_enumerate (by decide) (F.typeCall_enumerate_1 _) (F.newCall_enumerate_1 _) (fun obj => F.args_object_init_2 obj _) F.entry_enumerate_new (enum_meets B) ⟨h1, ?_⟩
  have one : (s.heap.push o).objs.size = s.heap.objs.size + 1 := Heap.size_push ..
  show _ ∧ _
  rw [one]
  have he : IsEnum ((s.heap.push o).push { cls := .type "enumerate", data := .fields #[.none, .bool false, .ref s.heap.objs.size, rawInt 0, .none, .none] }) (s.heap.objs.size + 1) s.heap.objs.size 0 .none := by
    have q := Heap.get?_push_size (s.heap.push o) (o := { cls := .type "enumerate", data := .fields #[.none, .bool false, .ref s.heap.objs.size, rawInt 0, .none, .none] }) rfl
    rw [one] at q
    exact q
  exact ⟨⟨_, he, rfl⟩, fin _ he (Heap.get?_push_of_some _ (Heap.get?_push_size _ B.free)) fun b u e => Heap.get?_push_of_some _ (Heap.get?_push_of_some _ e)⟩
end
/-- the pairs (i, x) of the tuple at a -/
def Ien (a : Addr) (xs : List V) : It :=
  ⟨fun i H => H a = some (.tup xs) ∧ i < xs.length, fun i H v H' => ∃ T x, v = .ref T ∧ H T = none ∧ xs[i]? = some x ∧ H' = upd H T (.tup [.int (i : Nat), x]), fun i H => H a = some (.tup xs) ∧ xs.length ≤ i⟩
theorem tup_at {X : Cx} {pins : List (Addr × Obj)} {σ : L2.St} {H : Hp} {s : Shared} {a : Addr} {xs : List V} (I : Inv X pins σ H s) (h : H a = some (.tup xs)) : ∃ its : List Value, Vals xs its ∧ s.heap.IsTuple a its.toArray := by
  obtain ⟨_, its, rv, p⟩ := I.hok a _ h
  exact ⟨its, rv, p⟩
theorem turn_en {P : Program} {w : World} {K : PySem.W.Frag} {elts : List Expr} {kk : Nat} {tpos : Pos} {a e it : Addr} {xs : List V} (ne : e ≠ it) :
    Turn P w K (.Tuple elts kk tpos) (Ien a xs) [e, it] e (fun i h => (∃ old, IsEnum h e it ((i : Nat) : Int) old) ∧ h.IsTupleIter it a i) where
  mem := List.mem_cons_self ..
  obj := fun i h ⟨⟨old, he⟩, ⟨o, ho, _, hd⟩⟩ b hb => by
    rcases List.mem_cons.mp hb with z | hb
    · rw [z]; exact ⟨_, he, fun v q => nomatch q⟩
    · rw [List.mem_singleton.mp hb]; exact ⟨o, ho, fun v q => by rw [hd] at q; cases q⟩
  keep := fun i h h' ⟨⟨old, he⟩, hit⟩ k => ⟨⟨old, k e (List.mem_cons_self ..) _ he⟩, hit.at fun o q => k it (by simp) o q⟩
  item := by
    intro X hP hw hK hc i pins s σ H E I hf ⟨⟨old, he⟩, hit⟩ ⟨ha, hi⟩
    subst hP hw hK
    obtain ⟨its, rv, ht⟩ := tup_at I ha
    have nai : a ≠ it := fun z => by
      have := (hf it (by simp)).1
      rw [← z, ha] at this
      cases this
    have hsz : its.toArray.size = xs.length := by rw [List.size_toArray]; exact rv.length.symm
    have nfp : e ∉ [it, a] := fun hm => by
      rcases List.mem_cons.mp hm with z | hm
      · exact ne z
      · have z := List.mem_singleton.mp hm
        have := (hf e (List.mem_cons_self ..)).1
        rw [z, ha] at this
        cases this
    have hel : e < s.heap.objs.size := Heap.lt_size he
    have hil : it < s.heap.objs.size := by obtain ⟨_, q, _⟩ := hit; exact Heap.lt_size q
    refine wpAny_pyNext_enum_itemD (Draws.tuple (A := X.A.in1) (by simp [I.ok.hd hc]) it a nai its.toArray) he ⟨hit, ht⟩ (by omega) ne nfp fun u h' tk hu ho hst hT hz hk => ?_
    refine ⟨_, rfl, wpAny_letOwnedTupleGo_enum (s := { s with heap := h', toks := tk + 1 }) ho fun h2 he2 sb => ?_⟩
    have hT2 : h2.get? s.heap.objs.size = some { cls := .type "tuple", data := .seq #[.int i tk, u] } := (sb.2 _ (Nat.ne_of_gt hel)).trans hT
    have hxi : xs[i]? = some xs[i] := List.getElem?_eq_getElem hi
    have ru : RelV xs[i] u := by
      obtain ⟨u', e1, r⟩ := rv.get hxi
      have hu : its.toArray[i]? = some u := hu
      rw [List.getElem?_toArray, e1] at hu
      cases hu
      exact r
    have I1 : Inv X pins σ (upd H s.heap.objs.size (.tup [.int (i : Nat), xs[i]])) { s with heap := h2, toks := tk + 1 } :=
      I.turnedNew (ch := [e, it]) (fun b ob hb q => (sb.2 b (fun z => hb (by simp [z]))).trans (hk b ob (fun z => hb (by simp [z])) (fun z => hb (by simp [z])) q)) hf (Nat.le_refl _)
        ⟨by show 2 ≤ sizeLine; decide, [.int i tk, u], .cons ⟨_, rfl⟩ (.cons ru .nil), ⟨_, hT2, rfl, _, rfl⟩⟩
    refine ⟨.ref s.heap.objs.size, _, I1, rfl, ⟨_, _, rfl, I.hok.fresh (Nat.le_refl _), hxi, rfl⟩, ⟨⟨u, ?_⟩, hst.1.at fun o q => (sb.2 it (Ne.symm ne)).trans q⟩, fun b hb => ?_⟩
    · rw [show ((i + 1 : Nat) : Int) = (i : Int) + 1 by omega]
      exact he2
    · have hlt : b < s.heap.objs.size := by
        rcases List.mem_cons.mp hb with z | hb
        · rw [z]; exact hel
        · rw [List.mem_singleton.mp hb]; exact hil
      rw [upd_ne (Nat.ne_of_lt hlt)]
      exact (hf b hb).1
  done := by
    intro X hP hw hK hc i pins s σ H E I hf ⟨⟨old, he⟩, hit⟩ ⟨ha, hi⟩
    subst hP hw hK
    obtain ⟨its, rv, ht⟩ := tup_at I ha
    have nai : a ≠ it := fun z => by
      have := (hf it (by simp)).1
      rw [← z, ha] at this
      cases this
    have hl := rv.length
    obtain ⟨f0, f1, f2, f3, f4, f5⟩ := hf it (by simp)
    unfold pyNext
    have hTy : s.TypeIs (.ref e) "enumerate" := ⟨_, he, rfl⟩
    refine wpAny_bind (wpAny_attempt (wpAny_callSpecial?_slot (name := Str.ofString "__next__") hTy F.slot_enumerate_next (wpAny_call_entry F.slot_enumerate_next hTy F.entry_enumerate_next ?_ (F.args_enumerate_next_1 _))))
    show wpAny _ _ (field (.ref e) 2 >>= _) _ _ _
    refine wpAny_bind (wpAny_field he rfl (x := .ref it) rfl ?_)
    refine wpAny_bind (wpAny_nextOf_tuple_end (by simp [I.ok.hd hc]) hit ht (by simp; omega) fun h' x he' ⟨o, ho, hcl⟩ => ?_)
    refine wpAny_bind (wpAny_isInstance (T := "StopIteration") (b := true) ⟨o, ho, hcl⟩ isSubtype_stop ?_)
    exact wpAny_pure ⟨rfl, I.turned (t' := s.toks) (fun b o hb q => he' b o hb q) f0 f1 f3 f4 f5⟩
  self := fun A i s Q E ⟨⟨_, he⟩, _⟩ h => wpAny_pyIter_enum he h
def iEn (ta : TA) : TI := fun σ H R => ta σ H fun vs H1 => ∃ a xs, vs = [.ref a] ∧ H1 a = some (.tup xs) ∧ R (Ien a xs) H1
theorem pi_en {X : Cx} {e : Expr} {ta : TA} {p pos tpos : Pos} {elts : List Expr} {kk : Nat} (hg : Gl X "enumerate") (hm : X.mg "enumerate" = none) (ha : PA X [e] ta) (hs : starEach [e] X.env = [(false, eval e X.env)] := by rfl) :
    PI X (.Tuple elts kk tpos) (.Call (.Name "enumerate" p) [e] [] pos) (iEn ta) := by
  refine ⟨fun pins s σ H R I h => Call_ (ld_blt I hg hm boot_enumerate (PyProof.Rows.callWith_type1 (thn (ha.run pos pins s σ H _ I h) fun us s1 ⟨vs, H1, I1, r1, a, xs, ex, hq, q⟩ => ?_) hs rfl))⟩
  subst ex
  rw [Vals.ref1 r1]
  obtain ⟨its, rv, ht⟩ := tup_at I1 hq
  refine enum_call (begins_tuple a its.toArray) ht fun h' he ho hk => wpAny_pyIter_enum he ?_
  have I2 : Inv X pins σ H1 { s1 with heap := h' } := I1.kept (t' := s1.toks) hk
  refine ⟨s1.heap.objs.size + 1, [s1.heap.objs.size + 1, s1.heap.objs.size], _, _, H1, rfl, I2, turn_en (Nat.succ_ne_self _), ⟨⟨.none, he⟩, ⟨_, ho, rfl, rfl⟩⟩, fun b hb => ?_, q⟩
  have hle : s1.heap.objs.size ≤ b := by
    rcases List.mem_cons.mp hb with z | hb
    · rw [z]; exact Nat.le_succ _
    · rw [List.mem_singleton.mp hb]; exact Nat.le_refl _
  exact I1.fpOk hle (I1.hok.fresh hle)
end K25

set_option Elab.async false
set_option linter.all false
set_option maxRecDepth 100000
set_option maxHeartbeats 0
namespace K25
open PySem PySem.Spec PyProof.Rows L2
/-! the text by places -/
def topS (i : Nat) : Stmt := PySem.Challenge.pw_trueatlas_k25_whole_cuts_at_whole_points.main.body.getD i (.Pass ⟨0, 0, 0, 0⟩)
abbrev s_is_whole : Stmt := topS 6
abbrev s_lowest : Stmt := topS 7
abbrev s_is_point : Stmt := topS 10
abbrev s_is_segment : Stmt := topS 11
abbrev s_check_segment : Stmt := topS 12
abbrev s_turned : Stmt := topS 13
abbrev s_on_one_line : Stmt := topS 15
abbrev s_are_beside : Stmt := topS 16
abbrev s_meet : Stmt := topS 17
abbrev s_meeting : Stmt := topS 18
abbrev s_check_segments : Stmt := topS 22
abbrev s_unlike : Stmt := topS 23
abbrev s_is_apart : Stmt := topS 24
abbrev s_met : Stmt := topS 25
abbrev s_nearest : Stmt := topS 26
abbrev s_points_met : Stmt := topS 27
abbrev s_along : Stmt := topS 28
abbrev s_cuts_of : Stmt := topS 29
abbrev s_pieces : Stmt := topS 30
abbrev s_cut_up : Stmt := topS 31
abbrev s_lengthened : Stmt := topS 32
abbrev s_cleaned : Stmt := topS 33
abbrev s_law_stream : Stmt := topS 35
abbrev s_law_next : Stmt := topS 36
abbrev s_law_gcd : Stmt := topS 37
abbrev s_law_low : Stmt := topS 38
abbrev s_law_pick : Stmt := topS 39
abbrev s_law_point : Stmt := topS 40
abbrev s_law_segments : Stmt := topS 41
abbrev s_law_turn : Stmt := topS 42
abbrev s_law_on : Stmt := topS 43
abbrev s_law_cross : Stmt := topS 44
abbrev s_law_plain : Stmt := topS 45
abbrev s_law_spans : Stmt := topS 46
abbrev s_law_all_whole : Stmt := topS 47
abbrev s_law : Stmt := topS 48
/-! the head: where each def stands -/
def d_is_whole : He.DefD := ⟨("is_whole", none), "is_whole", "is_whole", defArgs s_is_whole, defBody s_is_whole, defScope s_is_whole, [], []⟩
def d_lowest : He.DefD := ⟨("lowest", none), "lowest", "lowest", defArgs s_lowest, defBody s_lowest, defScope s_lowest, [], []⟩
def d_is_point : He.DefD := ⟨("is_point", none), "is_point", "is_point", defArgs s_is_point, defBody s_is_point, defScope s_is_point, [], []⟩
def d_is_segment : He.DefD := ⟨("is_segment", none), "is_segment", "is_segment", defArgs s_is_segment, defBody s_is_segment, defScope s_is_segment, [], []⟩
def d_check_segment : He.DefD := ⟨("check_segment", none), "check_segment", "check_segment", defArgs s_check_segment, defBody s_check_segment, defScope s_check_segment, [], []⟩
def d_turned : He.DefD := ⟨("turned", none), "turned", "turned", defArgs s_turned, defBody s_turned, defScope s_turned, [], []⟩
def d_on_one_line : He.DefD := ⟨("on_one_line", none), "on_one_line", "on_one_line", defArgs s_on_one_line, defBody s_on_one_line, defScope s_on_one_line, [], []⟩
def d_are_beside : He.DefD := ⟨("are_beside", none), "are_beside", "are_beside", defArgs s_are_beside, defBody s_are_beside, defScope s_are_beside, [], []⟩
def d_meet : He.DefD := ⟨("meet", none), "meet", "meet", defArgs s_meet, defBody s_meet, defScope s_meet, [], []⟩
def d_meeting : He.DefD := ⟨("meeting", none), "meeting", "meeting", defArgs s_meeting, defBody s_meeting, defScope s_meeting, [], []⟩
def d_check_segments : He.DefD := ⟨("check_segments", none), "check_segments", "check_segments", defArgs s_check_segments, defBody s_check_segments, defScope s_check_segments, [], []⟩
def d_unlike : He.DefD := ⟨("unlike", none), "unlike", "unlike", defArgs s_unlike, defBody s_unlike, defScope s_unlike, [], []⟩
def d_is_apart : He.DefD := ⟨("is_apart", none), "is_apart", "is_apart", defArgs s_is_apart, defBody s_is_apart, defScope s_is_apart, [], []⟩
def d_met : He.DefD := ⟨("met", none), "met", "met", defArgs s_met, defBody s_met, defScope s_met, [], []⟩
def d_nearest : He.DefD := ⟨("nearest", none), "nearest", "nearest", defArgs s_nearest, defBody s_nearest, defScope s_nearest, [], []⟩
def d_points_met : He.DefD := ⟨("points_met", none), "points_met", "points_met", defArgs s_points_met, defBody s_points_met, defScope s_points_met, [], []⟩
def d_along : He.DefD := ⟨("along", none), "along", "along", defArgs s_along, defBody s_along, defScope s_along, [], []⟩
def d_cuts_of : He.DefD := ⟨("cuts_of", none), "cuts_of", "cuts_of", defArgs s_cuts_of, defBody s_cuts_of, defScope s_cuts_of, [], []⟩
def d_pieces : He.DefD := ⟨("pieces", none), "pieces", "pieces", defArgs s_pieces, defBody s_pieces, defScope s_pieces, [], []⟩
def d_cut_up : He.DefD := ⟨("cut_up", none), "cut_up", "cut_up", defArgs s_cut_up, defBody s_cut_up, defScope s_cut_up, [], []⟩
def d_lengthened : He.DefD := ⟨("lengthened", none), "lengthened", "lengthened", defArgs s_lengthened, defBody s_lengthened, defScope s_lengthened, [], []⟩
def d_cleaned : He.DefD := ⟨("cleaned", none), "cleaned", "cleaned", defArgs s_cleaned, defBody s_cleaned, defScope s_cleaned, [], []⟩
def d_law_stream : He.DefD := ⟨("_law_stream", none), "_law_stream", "_law_stream", defArgs s_law_stream, defBody s_law_stream, defScope s_law_stream, [], []⟩
def d_law_next : He.DefD := ⟨("_law_next", none), "_law_next", "_law_next", defArgs s_law_next, defBody s_law_next, defScope s_law_next, [], []⟩
def d_law_gcd : He.DefD := ⟨("_law_gcd", none), "_law_gcd", "_law_gcd", defArgs s_law_gcd, defBody s_law_gcd, defScope s_law_gcd, [], []⟩
def d_law_low : He.DefD := ⟨("_law_low", none), "_law_low", "_law_low", defArgs s_law_low, defBody s_law_low, defScope s_law_low, [], []⟩
def d_law_pick : He.DefD := ⟨("_law_pick", none), "_law_pick", "_law_pick", defArgs s_law_pick, defBody s_law_pick, defScope s_law_pick, [], []⟩
def d_law_point : He.DefD := ⟨("_law_point", none), "_law_point", "_law_point", defArgs s_law_point, defBody s_law_point, defScope s_law_point, [], []⟩
def d_law_segments : He.DefD := ⟨("_law_segments", none), "_law_segments", "_law_segments", defArgs s_law_segments, defBody s_law_segments, defScope s_law_segments, [], []⟩
def d_law_turn : He.DefD := ⟨("_law_turn", none), "_law_turn", "_law_turn", defArgs s_law_turn, defBody s_law_turn, defScope s_law_turn, [], []⟩
def d_law_on : He.DefD := ⟨("_law_on", none), "_law_on", "_law_on", defArgs s_law_on, defBody s_law_on, defScope s_law_on, [], []⟩
def d_law_cross : He.DefD := ⟨("_law_cross", none), "_law_cross", "_law_cross", defArgs s_law_cross, defBody s_law_cross, defScope s_law_cross, [], []⟩
def d_law_plain : He.DefD := ⟨("_law_plain", none), "_law_plain", "_law_plain", defArgs s_law_plain, defBody s_law_plain, defScope s_law_plain, [], []⟩
def d_law_spans : He.DefD := ⟨("_law_spans", none), "_law_spans", "_law_spans", defArgs s_law_spans, defBody s_law_spans, defScope s_law_spans, [], []⟩
def d_law_all_whole : He.DefD := ⟨("_law_all_whole", none), "_law_all_whole", "_law_all_whole", defArgs s_law_all_whole, defBody s_law_all_whole, defScope s_law_all_whole, [], []⟩
def d_law : He.DefD := ⟨("law", none), "law", "law", defArgs s_law, defBody s_law, defScope s_law, [], []⟩
def fns : List He.DefD := [d_is_whole, d_lowest, d_is_point, d_is_segment, d_check_segment, d_turned, d_on_one_line, d_are_beside, d_meet, d_meeting, d_check_segments, d_unlike, d_is_apart, d_met, d_nearest, d_points_met, d_along, d_cuts_of, d_pieces, d_cut_up, d_lengthened, d_cleaned, d_law_stream, d_law_next, d_law_gcd, d_law_low, d_law_pick, d_law_point, d_law_segments, d_law_turn, d_law_on, d_law_cross, d_law_plain, d_law_spans, d_law_all_whole, d_law]
def fas : List He.Fa := [.glo "is_whole", .glo "lowest", .glo "is_point", .glo "is_segment", .glo "check_segment", .glo "turned", .glo "on_one_line", .glo "are_beside", .glo "meet", .glo "meeting", .glo "check_segments", .glo "unlike", .glo "is_apart", .glo "met", .glo "nearest", .glo "points_met", .glo "along", .glo "cuts_of", .glo "pieces", .glo "cut_up", .glo "lengthened", .glo "cleaned", .glo "_law_stream", .glo "_law_next", .glo "_law_gcd", .glo "_law_low", .glo "_law_pick", .glo "_law_point", .glo "_law_segments", .glo "_law_turn", .glo "_law_on", .glo "_law_cross", .glo "_law_plain", .glo "_law_spans", .glo "_law_all_whole", .glo "law", .int "FARTHEST" 1000, .int "MOST_SEGMENTS" 40, .int "MOST_EDGES" 400, .free "isinstance", .free "int", .free "bool", .free "tuple", .free "len", .free "all", .free "any", .free "abs", .free "min", .free "max", .free "set", .free "sorted", .free "list", .free "range", .free "enumerate", .free "zip"]
def loose1 : List PySem.Str := ["is_whole", "lowest", "is_point", "is_segment", "check_segment", "turned", "on_one_line", "are_beside", "meet", "meeting", "check_segments", "unlike", "is_apart", "met", "nearest", "points_met", "along", "cuts_of", "pieces", "cut_up", "lengthened", "cleaned"]
def loose2 : List PySem.Str := ["_law_stream", "_law_next", "_law_gcd", "_law_low", "_law_pick", "_law_point", "_law_segments", "_law_turn", "_law_on", "_law_cross", "_law_plain", "_law_spans", "_law_all_whole", "MapError", "BadValue", "TooLarge", "FARTHEST", "MOST_SEGMENTS", "MOST_EDGES"]
def loose : List PySem.Str := loose1 ++ loose2
def exG (K : PySem.W.Frag) : Bool := match PySem.W.nsIn K mainGlobals "gcd" with
  | some (some (.builtin id)) => decide (id = "math.gcd")
  | _ => false
abbrev tf : List He.Defn := [("along", none)]
abbrev R : PySem.W.OpenRow := PySem.W.OpenLaw.row PySem.Challenge.rw_trueatlas_k25_whole_cuts_at_whole_points
abbrev hk : PySem.W.Hook := He.hookX 4 fas fns [] tf exG
def ob (s : PySem.W.SharedT) : He.AlX := He.obsX 4 fas fns [] tf exG (HandSHeadRun.getT s)
theorem ob_eq (s : PySem.W.SharedT) : ob s = hk.obs s.abs := He.obsX_eq (HandSHeadRun.getT_eq s)
theorem run (w : World) : HandSHeadRun.RunEqI R (PySem.W.view R.prog [0, 48]) hk ob 30000 loose w := by
  unfold HandSHeadRun.RunEqI
  kernel_rfl
end K25

set_option Elab.async false
set_option linter.all false
set_option maxRecDepth 100000
set_option maxHeartbeats 4000000
/-! The walk, one: the small defs. Own text. -/
namespace K25
open PySem PySem.Spec PyProof.Rows L2 K25S
/-- the names of the module that the defs read -/
structure Nm (mg : Str → Option Value) : Prop where
  isi : mg "isinstance" = none
  int : mg "int" = none
  bool : mg "bool" = none
  tuple : mg "tuple" = none
  len : mg "len" = none
  all : mg "all" = none
  any : mg "any" = none
  range : mg "range" = none
  list : mg "list" = none
  set : mg "set" = none
  sorted : mg "sorted" = none
  enumerate : mg "enumerate" = none
  zip : mg "zip" = none
  min : mg "min" = none
  max : mg "max" = none
  abs : mg "abs" = none
  gcd : mg "gcd" = some (.builtin "math.gcd")
  farthest : ∃ t, mg "FARTHEST" = some (.int 1000 t)
  segs : ∃ t, mg "MOST_SEGMENTS" = some (.int 40 t)
  edges : ∃ t, mg "MOST_EDGES" = some (.int 400 t)
abbrev FnP (K : PySem.W.Frag) (x : Str) (st : Stmt) (f : Addr) (fd : FuncData) : Prop := FunD K x x (defArgs st) (defBody st) (defScope st) [] [] f fd
/-- a def by its name: what a caller needs -/
structure Cal (P : Program) (w : World) (K : PySem.W.Frag) (mg : Str → Option Value) (base : Heap) (k : Nat) (x : Str) (ps : List Str) (sp : Sp) : Prop where
  ex : ∃ f fd, FnOk P w K mg base CX0 k f fd ps sp ∧ mg x = some (.ref f) ∧ PySem.W.keepIn K (.ref f) = true ∧ Binds K fd ps []
section
variable {X : Cx} {k j : Nat} {x : Str} {ps : List Str} {sp : Sp} {p pos : Pos} {e : Expr} {es : List Expr} {t : TA}
theorem pe_cal (c : Cal X.prog X.w X.K X.mg X.base k x ps sp) (hr : Room j X.A) (hk : k ≤ j) (hg : Gl X x) (ha : PA X (e :: es) t) (hdb : (x == ("__debug__" : Str)) = false := by decide) (he : starEach (e :: es) X.env = (false, eval e X.env) :: starEach es X.env := by rfl)
    (hpl : (backTo pos (starEach es X.env)).any (·.1) = false := by rfl) : PE X (.Call (.Name x p) (e :: es) [] pos) (tCall sp [] E0 t) := by
  obtain ⟨f, fd, G, mgx, kp, b⟩ := c.ex
  exact pe_call G (hr.mono hk) hg mgx kp b .nil pass0 ha hdb he hpl
end
section
variable {P : Program} {w : World} {K : PySem.W.Frag} {mg : Str → Option Value} {base : Heap} {f : Addr} {fd : FuncData}
theorem itP {c A B : Prop} [Decidable c] (h : c) (a : A) : if decide c = true then A else B := by rw [if_pos (decide_eq_true h)]; exact a
theorem itN {c A B : Prop} [Decidable c] (h : ¬ c) (b : B) : if decide c = true then A else B := by rw [if_neg (by simpa using h)]; exact b
/-! ### turned(a, b, c) -/
theorem sc_turned : FnScope ["a", "b", "c"] ["a", "b", "c"] (defScope s_turned) := ⟨rfl, rfl, rfl, by decide +kernel, rfl, by decide +kernel, by decide +kernel⟩
def Bd (p : Pt) : Prop := -100000 ≤ p.1 ∧ p.1 ≤ 100000 ∧ -100000 ≤ p.2 ∧ p.2 ≤ 100000
def spTurned : Sp := fun vs H Q _ => ∃ (va vb vc : V) (a b c : Pt), vs = [va, vb, vc] ∧ PtV H va a ∧ PtV H vb b ∧ PtV H vc c ∧ Bd a ∧ Bd b ∧ Bd c ∧ Q (.int (turn a b c)) H
/-- v[0], v[1] of a point -/
theorem pt0 {K : PySem.W.Frag} {H : Hp} {v : V} {p : Pt} {Q : VK} (h : PtV H v p) (q : Q (.int p.1) H) : rIxT K v (.int 0) H Q := by
  obtain ⟨a, e, h⟩ := h
  exact ⟨a, _, 0, _, e, rfl, .of h, atI_nat (xs := [V.int p.1, V.int p.2]) (j := 0) rfl, q⟩
theorem pt1 {K : PySem.W.Frag} {H : Hp} {v : V} {p : Pt} {Q : VK} (h : PtV H v p) (q : Q (.int p.2) H) : rIxT K v (.int 1) H Q := by
  obtain ⟨a, e, h⟩ := h
  exact ⟨a, _, 1, _, e, rfl, .of h, atI_nat (xs := [V.int p.1, V.int p.2]) (j := 1) rfl, q⟩
theorem sg0 {K : PySem.W.Frag} {H : Hp} {v : V} {g : Sg} {Q : VK} (h : SgV H v g) (q : ∀ u, PtV H u g.1 → Q u H) : rIxT K v (.int 0) H Q := by
  obtain ⟨a, v1, v2, e, h, h1, h2⟩ := h
  exact ⟨a, _, 0, _, e, rfl, .of h, atI_nat (xs := [v1, v2]) (j := 0) rfl, q _ h1⟩
theorem sg1 {K : PySem.W.Frag} {H : Hp} {v : V} {g : Sg} {Q : VK} (h : SgV H v g) (q : ∀ u, PtV H u g.2 → Q u H) : rIxT K v (.int 1) H Q := by
  obtain ⟨a, v1, v2, e, h, h1, h2⟩ := h
  exact ⟨a, _, 1, _, e, rfl, .of h, atI_nat (xs := [v1, v2]) (j := 1) rfl, q _ h2⟩
theorem cal_of {x : Str} {k : Nat} {ps : List Str} {sp : Sp} {pa : Arguments} {bd : List Stmt} {sc : Scope} (F : FunD K x x pa bd sc [] [] f fd) (mgx : mg x = some (.ref f)) (G : FnOk P w K mg base CX0 k f fd ps sp)
    (h : ∀ (kV doc pm : Value) (an : Option Addr) (cdv ct : Value) (us : List Value), us.length = ps.length → bindArgs (PySem.W.fnOf x x pa bd sc .none kV doc pm an cdv ct) ⟨us, []⟩ = pure (ps.zip us)) : Cal P w K mg base k x ps sp := ⟨f, fd, G, mgx, F.kp, F.bindsN h⟩
/-- i * j, the left one small -/
theorem cm {i j : Int} (h : -(2 ^ 64) < i ∧ i < 2 ^ 64) : CMul i j := .inl h
theorem bd_diff {a b : Pt} (ha : Bd a) (hb : Bd b) : (-(2 ^ 64) < b.1 - a.1 ∧ b.1 - a.1 < 2 ^ 64) ∧ (-(2 ^ 64) < b.2 - a.2 ∧ b.2 - a.2 < 2 ^ 64) := by
  unfold Bd at *
  omega
theorem ok_turned (F : FnP K "turned" s_turned f fd) : FnOk P w K mg base CX0 1 f fd ["a", "b", "c"] spTurned := by
  refine F.ok sc_turned (fun vs H Q E h => ?_) (fun cdv A outer s H vs Q E hr h => ⟨_, PSs.nox (pss_one (ps_ret (pe_op op_sub
      (pe_op op_mul (pe_op op_sub (pe_ix ix_tup (pv 1) pe_int (fun _ _ => rfl)) (pe_ix ix_tup (pv 0) pe_int (fun _ _ => rfl))) (pe_op op_sub (pe_ix ix_tup (pv 2) pe_int (fun _ _ => rfl)) (pe_ix ix_tup (pv 0) pe_int (fun _ _ => rfl))))
      (pe_op op_mul (pe_op op_sub (pe_ix ix_tup (pv 1) pe_int (fun _ _ => rfl)) (pe_ix ix_tup (pv 0) pe_int (fun _ _ => rfl))) (pe_op op_sub (pe_ix ix_tup (pv 2) pe_int (fun _ _ => rfl)) (pe_ix ix_tup (pv 0) pe_int (fun _ _ => rfl))))))), ?_⟩)
  · obtain ⟨_, _, _, _, _, _, rfl, _⟩ := h
    rfl
  · obtain ⟨va, vb, vc, a, b, c, rfl, ha, hb, hc, ba, bb, bc, q⟩ := h
    have d1 := bd_diff ba bb
    obtain ⟨_, rfl, ha⟩ := ha
    obtain ⟨_, rfl, hb⟩ := hb
    obtain ⟨_, rfl, hc⟩ := hc
    exact ⟨_, rfl, _, _, _, _, rfl, rfl, .of hb, atI_nat (j := 0) rfl, _, rfl, _, _, _, _, rfl, rfl, .of ha, atI_nat (j := 0) rfl, _, _, rfl, rfl, _, rfl, _, _, _, _, rfl, rfl, .of hc, atI_nat (j := 1) rfl, _, rfl, _, _, _, _, rfl, rfl, .of ha, atI_nat (j := 1) rfl, _, _, rfl, rfl, _, _, rfl, rfl, cm d1.1, _, rfl, _, _, _, _, rfl, rfl, .of hb, atI_nat (j := 1) rfl, _, rfl, _, _, _, _, rfl, rfl, .of ha, atI_nat (j := 1) rfl, _, _, rfl, rfl, _, rfl, _, _, _, _, rfl, rfl, .of hc, atI_nat (j := 0) rfl, _, rfl, _, _, _, _, rfl, rfl, .of ha, atI_nat (j := 0) rfl, _, _, rfl, rfl, _, _, rfl, rfl, cm d1.2, _, _, rfl, rfl, q⟩
/-! ### are_beside -/
theorem sc_are_beside : FnScope ["one", "other"] ["one", "other"] (defScope s_are_beside) := ⟨rfl, rfl, rfl, by decide +kernel, rfl, by decide +kernel, by decide +kernel⟩
def spBeside : Sp := fun vs H Q _ => ∃ (x y : Int), vs = [.int x, .int y] ∧ Q (.bl (decide (Beside x y))) H
theorem ok_are_beside (F : FnP K "are_beside" s_are_beside f fd) : FnOk P w K mg base CX0 1 f fd ["one", "other"] spBeside := by
  refine F.ok sc_are_beside (fun vs H Q E h => ?_) (fun cdv A outer s H vs Q E hr h => ⟨_, PSs.nox (pss_one (ps_ret (pe_or (pe_and (pe_cmpR op_gt (pv 0) pe_int (nomark _)) (pe_one (pe_cmpR op_gt (pv 1) pe_int (nomark _))))
    (pe_one (pe_and (pe_cmpR op_lt (pv 0) pe_int (nomark _)) (pe_one (pe_cmpR op_lt (pv 1) pe_int (nomark _)))))))), ?_⟩)
  · obtain ⟨_, _, rfl, _⟩ := h
    rfl
  · obtain ⟨x, y, rfl, q⟩ := h
    refine ⟨_, rfl, _, _, rfl, rfl, _, rfl, ?_⟩
    have e : Beside x y ↔ (x > 0 ∧ y > 0) ∨ (x < 0 ∧ y < 0) := Iff.rfl
    by_cases h1 : x > 0
    · rw [if_pos (decide_eq_true h1)]
      refine ⟨_, rfl, _, _, rfl, rfl, _, rfl, ?_⟩
      by_cases h2 : y > 0
      · rw [if_pos (decide_eq_true h2)]
        rw [decide_eq_true (e.mpr (.inl ⟨h1, h2⟩))] at q
        exact q
      · rw [if_neg (by simpa using h2)]
        refine ⟨_, rfl, _, _, rfl, rfl, _, rfl, ?_⟩
        rw [if_neg (by simp; omega)]
        rw [decide_eq_false (by rw [e]; omega)] at q
        exact q
    · rw [if_neg (by simpa using h1)]
      refine ⟨_, rfl, ?_⟩
      rw [if_neg Bool.false_ne_true]
      refine ⟨_, rfl, _, _, rfl, rfl, _, rfl, ?_⟩
      by_cases h2 : x < 0
      · rw [if_pos (decide_eq_true h2)]
        refine ⟨_, rfl, _, _, rfl, rfl, ?_⟩
        have e2 : decide (y < 0) = decide (Beside x y) := by rw [Bool.eq_iff_iff, decide_eq_true_iff, decide_eq_true_iff, e]; omega
        show Q (.bl (decide (y < 0))) H
        rw [e2]
        exact q
      · rw [if_neg (by simpa using h2)]
        rw [decide_eq_false (by rw [e]; omega)] at q
        exact q
/-! ### lowest -/
theorem sc_lowest : FnScope ["n", "d", "shared"] ["n", "d"] (defScope s_lowest) := ⟨rfl, rfl, rfl, by decide +kernel, rfl, by decide +kernel, by decide +kernel⟩
def spLowest : Sp := fun vs H Q _ => ∃ (n d : Int), vs = [.int n, .int d] ∧ d ≠ 0 ∧ d.natAbs < 1073741824 ∧ ∀ p, H p = none → Q (.ref p) (upd H p (.tup [.int (lowest n d).1, .int (lowest n d).2]))
theorem ok_lowest (T : Nm mg) (F : FnP K "lowest" s_lowest f fd) : FnOk P w K mg base CX0 1 f fd ["n", "d"] spLowest := by
  refine F.ok sc_lowest (fun vs H Q E h => ?_) (fun cdv A outer s H vs Q E hr h => ⟨_, PSs.nox (pss_cons (ps_set (i := 2) sc_lowest.nd rfl (.inl rfl) (pe_callBfun cr_gcd rfl T.gcd (pa_cons (pv 0) (pa_cons (pv 1) pa_nil))))
    (pss_cons (ps_if (pt_cmpR op_lt (pv 1) pe_int (nomark _)) (pss_one (ps_set (i := 2) sc_lowest.nd rfl (.inl rfl) (pe_un un_neg (pv 2)))) pss_nil)
    (pss_one (ps_ret (pe_tup (pa_cons (pe_op op_fdivN (pv 0) (pv 2)) (pa_cons (pe_op op_fdivN (pv 1) (pv 2)) pa_nil))))))), ?_⟩)
  · obtain ⟨_, _, rfl, _⟩ := h
    rfl
  · obtain ⟨n, d, rfl, hd, hb, q⟩ := h
    refine ⟨_, rfl, _, rfl, n, d, rfl, ?_⟩
    refine ⟨_, rfl, _, _, rfl, rfl, _, rfl, ?_⟩
    have g1 : Nat.gcd n.natAbs d.natAbs ≤ d.natAbs := Nat.gcd_le_right _ (by omega)
    have g0 : 0 < Nat.gcd n.natAbs d.natAbs := Nat.gcd_pos_of_pos_right _ (by omega)
    by_cases hn : d < 0
    · refine itP hn ⟨_, rfl, _, rfl, ?_⟩
      have e : lowest n d = (n.fdiv (-((Nat.gcd n.natAbs d.natAbs : Nat) : Int)), d.fdiv (-((Nat.gcd n.natAbs d.natAbs : Nat) : Int))) := by unfold lowest; rw [if_pos hn]
      rw [e] at q
      have b : CDivN n (-((Nat.gcd n.natAbs d.natAbs : Nat) : Int)) := ⟨by omega, by omega⟩
      exact ⟨_, rfl, _, rfl, _, _, rfl, rfl, b, _, rfl, _, rfl, _, _, rfl, rfl, b, by show 2 ≤ sizeLine; decide, q⟩
    · refine itN hn ?_
      have e : lowest n d = (n.fdiv ((Nat.gcd n.natAbs d.natAbs : Nat) : Int), d.fdiv ((Nat.gcd n.natAbs d.natAbs : Nat) : Int)) := by unfold lowest; rw [if_neg hn]
      rw [e] at q
      have b : CDivN n ((Nat.gcd n.natAbs d.natAbs : Nat) : Int) := ⟨by omega, by omega⟩
      exact ⟨_, rfl, _, rfl, _, _, rfl, rfl, b, _, rfl, _, rfl, _, _, rfl, rfl, b, by show 2 ≤ sizeLine; decide, q⟩
/-! ### nearest -/
theorem sc_nearest : FnScope ["fraction", "n", "d"] ["fraction"] (defScope s_nearest) := ⟨rfl, rfl, rfl, by decide +kernel, rfl, by decide +kernel, by decide +kernel⟩
def spNearest : Sp := fun vs H Q _ => ∃ (v : V) (x : Int × Int), vs = [v] ∧ PtV H v x ∧ x.2 ≠ 0 ∧ x.2.natAbs < 536870912 ∧ Q (.int (nearest x)) H
theorem ok_nearest (F : FnP K "nearest" s_nearest f fd) : FnOk P w K mg base CX0 1 f fd ["fraction"] spNearest := by
  refine F.ok sc_nearest (fun vs H Q E h => ?_) (fun cdv A outer s H vs Q E hr h => ⟨_, PSs.nox (pss_cons (ps_asg (pv 0) (pg_tup rfl (pgs_cons (pg_name (i := 1) sc_nearest.nd rfl (.inl rfl)) (pgs_cons (pg_name (i := 2) sc_nearest.nd rfl (.inl rfl)) pgs_nil))))
    (pss_one (ps_ret (pe_op op_fdivN (pe_op op_add (pe_op op_mul pe_int (pv 1)) (pv 2)) (pe_op op_mul pe_int (pv 2)))))), ?_⟩)
  · obtain ⟨_, _, rfl, _⟩ := h
    rfl
  · obtain ⟨v, x, rfl, ⟨a, rfl, hx⟩, h0, hb, q⟩ := h
    refine ⟨_, rfl, a, _, rfl, .of hx, rfl, _, _, rfl, _, _, rfl, rfl, ?_⟩
    refine ⟨_, rfl, _, _, rfl, rfl, .inl ⟨by decide, by decide⟩, _, rfl, _, _, rfl, rfl, ?_⟩
    exact ⟨_, rfl, _, _, rfl, rfl, .inl ⟨by decide, by decide⟩, _, _, rfl, rfl, ⟨by omega, by omega⟩, q⟩
/-! ### is_whole, is_point, is_segment, check_segment -/
theorem sc_is_whole : FnScope ["value"] ["value"] (defScope s_is_whole) := ⟨rfl, rfl, rfl, by decide +kernel, rfl, by decide +kernel, by decide +kernel⟩
def spWhole : Sp := fun vs H Q _ => ∃ (x : Int), vs = [.int x] ∧ Q (.bl true) H
theorem ok_is_whole (T : Nm mg) (F : FnP K "is_whole" s_is_whole f fd) : FnOk P w K mg base CX0 1 f fd ["value"] spWhole := by
  refine F.ok sc_is_whole (fun vs H Q E h => ?_) (fun cdv A outer s H vs Q E hr h => ⟨_, PSs.nox (pss_one (ps_ret (pe_and (pe_callB call_isi rfl T.isi (by decide +kernel) (pa_cons (pv 0) (pa_cons (pe_bltn (v := .ty "int") rfl T.int (by decide +kernel) rfl) pa_nil)))
    (pe_one (pe_not (pe_callB call_isi rfl T.isi (by decide +kernel) (pa_cons (pv 0) (pa_cons (pe_bltn (v := .ty "bool") rfl T.bool (by decide +kernel) rfl) pa_nil)))))))), ?_⟩)
  · obtain ⟨_, rfl, _⟩ := h
    rfl
  · obtain ⟨x, rfl, q⟩ := h
    refine ⟨_, rfl, _, _, _, _, _, rfl, .ty _, .base (.int _), kit_ty (r := true) (by decide +kernel), _, rfl, iteT ?_⟩
    exact ⟨_, rfl, _, _, _, _, _, rfl, .ty _, .base (.int _), kit_ty (r := false) (by decide +kernel), _, rfl, q⟩
end
end K25

set_option Elab.async false
set_option linter.all false
set_option maxRecDepth 100000
set_option maxHeartbeats 4000000
/-! The walk, two: is_point, is_segment, check_segment, on_one_line. Own text. -/
namespace K25
open PySem PySem.Spec PyProof.Rows L2 K25S
section
variable {P : Program} {w : World} {K : PySem.W.Frag} {mg : Str → Option Value} {base : Heap} {f : Addr} {fd : FuncData}
theorem eqT {i j : Int} {A B : Prop} (h : i = j) (a : A) : if decide (V.int i = V.int j) = true then A else B := by subst h; rw [if_pos (decide_eq_true rfl)]; exact a
theorem eqF {i j : Int} {A B : Prop} (h : i ≠ j) (b : B) : if decide (V.int i = V.int j) = true then A else B := by rw [if_neg (by simpa using h)]; exact b
theorem neF {i j : Int} {A B : Prop} (h : i = j) (b : B) : if (!decide (V.int i = V.int j)) = true then A else B := by subst h; rw [if_neg (by simp)]; exact b
theorem neT {i j : Int} {A B : Prop} (h : i ≠ j) (a : A) : if (!decide (V.int i = V.int j)) = true then A else B := by rw [if_pos (by simpa using h)]; exact a
theorem sm_new {H : Hp} {p : Addr} {o : HO} (h : H p = none) : Same H (upd H p o) := fun b x e => by
  rw [upd_ne (ne_of_none e h)]
  exact e
theorem Same.seqT {K : PySem.W.Frag} {H H' : Hp} {a : Addr} {xs : List V} (e : Same H H') (h : SqT K H a xs) : SqT K H' a xs := by
  rcases h with (h | ⟨o, h⟩) | h
  · exact .inl (.inl (e _ _ h))
  · exact .inl (.inr ⟨o, e _ _ h⟩)
  · exact .inr h
theorem sc_is_point : FnScope ["value", "part"] ["value"] (defScope s_is_point) := ⟨rfl, rfl, rfl, by decide +kernel, rfl, by decide +kernel, by decide +kernel⟩
def spIsPoint : Sp := fun vs H Q _ => ∃ (v : V) (p : Pt), vs = [v] ∧ PtV H v p ∧ Far p ∧ ∀ H', Same H H' → Q (.bl true) H'
theorem ok_is_point (T : Nm mg) (CW : Cal P w K mg base 1 "is_whole" ["value"] spWhole) (F : FnP K "is_point" s_is_point f fd) : FnOk P w K mg base CX0 2 f fd ["value"] spIsPoint := by
  obtain ⟨t, hF⟩ := T.farthest
  refine F.ok sc_is_point (fun vs H Q E h => ?_) (fun cdv A outer s H vs Q E hr h => ⟨_, PSs.nox (pss_cons (ps_if (PW.pt (pw_or (pt_not (pt_val (pe_callB call_isi rfl T.isi (by decide +kernel) (pa_cons (pv 0) (pa_cons (pe_bltn (v := .ty "tuple") rfl T.tuple (by decide +kernel) rfl) pa_nil)))))
      (pw_or1 (pt_cmpR op_ne (pe_callB call_len_seq rfl T.len boot_len (pa_cons (pv 0) pa_nil)) pe_int (nomark _))))) (pss_one (ps_ret pe_bl)) pss_nil)
    (pss_one (ps_ret (pe_callB (cr_all rfl) rfl T.all (by decide +kernel) (pa_cons (pe_lc (own := [("part", 1)]) (g := gName 1) (tt := tYes) rfl sc_is_point.nd (pi_tup (pv 0)) (blkOk_by (N := ["value", "part"]) (sc := defScope s_is_point) (by decide +kernel))
      (fun _ _ _ _ _ => pg_name (i := 1) sc_is_point.nd rfl (Or.inl rfl)) (fun _ _ _ _ _ => pts_nil)
      (fun _ _ _ _ _ => pe_and (pe_cal CW hr (by decide) rfl (pa_cons (pv 1) pa_nil)) (pe_one (pe_cmpR op_le (pe_callB call_abs rfl T.abs (by decide +kernel) (pa_cons (pv 1) pa_nil)) (pe_glob (v := .int 1000) rfl hF ⟨_, rfl⟩) (nomark _))))) pa_nil))))), ?_⟩)
  · obtain ⟨_, _, rfl, _⟩ := h
    rfl
  · obtain ⟨v, p, rfl, ⟨a, rfl, hp⟩, far, q⟩ := h
    refine ⟨_, rfl, _, _, _, _, _, rfl, .ty _, .base (.tup hp), kit_ty (r := true) (by decide +kernel), _, rfl, ?_⟩
    refine iteF ?_
    refine ⟨_, rfl, _, _, rfl, .inr (.of hp), rfl, _, rfl, ?_⟩
    refine neF rfl ?_
    refine ⟨_, rfl, a, rfl, ⟨_, .of hp⟩, fun D hD => ?_⟩
    refine lc_tup (K := K) (a := a) (xs := [.int p.1, .int p.2]) (fun i H' => Same H H' ∧ H' D = some (.lst (List.replicate i (.bl true)))) ⟨sm_new hD, upd_same⟩ (fun i H' _ h => .of (h.1 _ _ hp)) (fun i x H' hx ⟨sm, e⟩ => ?_) (fun H' ⟨sm, e⟩ => ?_)
    · refine ⟨rfl, ?_⟩
      have ⟨z, hz, bz⟩ : ∃ z : Int, x = .int z ∧ -1000 ≤ z ∧ z ≤ 1000 := by
        unfold Far at far
        match i, hx with
        | 0, hx => exact ⟨p.1, (Option.some.inj hx).symm, by omega, by omega⟩
        | 1, hx => exact ⟨p.2, (Option.some.inj hx).symm, by omega, by omega⟩
      subst hz
      refine ⟨_, rfl, z, rfl, _, rfl, iteT ?_⟩
      refine ⟨_, rfl, z, rfl, _, _, rfl, rfl, ?_⟩
      have e1 : decide ((if z < 0 then -z else z) ≤ 1000) = true := by
        rw [decide_eq_true_iff]; split <;> omega
      refine ⟨_, e, by rw [List.length_replicate]; have : i < 2 := (List.getElem?_eq_some_iff.mp hx).1
                       exact Nat.lt_of_lt_of_le this (by show 2 ≤ sizeLine; decide), fun b o h => ?_, ?_⟩
      · rw [upd_ne (ne_of_none h hD)]
        exact sm _ _ h
      · rw [upd_same]
        show some (HO.lst (List.replicate i (V.bl true) ++ [V.bl (decide ((if z < 0 then -z else z) ≤ 1000))])) = _
        rw [e1, List.replicate_succ']
    · exact ⟨D, [true, true], rfl, .inl (.inl e), q _ sm⟩
end
end K25

set_option Elab.async false
set_option linter.all false
set_option maxRecDepth 100000
set_option maxHeartbeats 4000000
/-! The walk, three: is_segment, check_segment, on_one_line, meet. Own text. -/
namespace K25
open PySem PySem.Spec PyProof.Rows L2 K25S
section
variable {P : Program} {w : World} {K : PySem.W.Frag} {mg : Str → Option Value} {base : Heap} {f : Addr} {fd : FuncData}
theorem sc_is_segment : FnScope ["value"] ["value"] (defScope s_is_segment) := ⟨rfl, rfl, rfl, by decide +kernel, rfl, by decide +kernel, by decide +kernel⟩
def spIsSeg : Sp := fun vs H Q _ => ∃ (v : V) (g : Sg), vs = [v] ∧ SgV H v g ∧ Ok g ∧ ∀ H', Same H H' → Q (.bl true) H'
theorem PtV.ms {H H' : Hp} (s : Same H H') {v : V} {p : Pt} (h : PtV H v p) : PtV H' v p := h.mono (Tps.of s)
theorem SgV.ms {H H' : Hp} (s : Same H H') {v : V} {p : Sg} (h : SgV H v p) : SgV H' v p := h.mono (Tps.of s)
theorem ok_is_segment (T : Nm mg) (CP : Cal P w K mg base 2 "is_point" ["value"] spIsPoint) (F : FnP K "is_segment" s_is_segment f fd) : FnOk P w K mg base CX0 3 f fd ["value"] spIsSeg := by
  refine F.ok sc_is_segment (fun vs H Q E h => ?_) (fun cdv A outer s H vs Q E hr h => ⟨_, PSs.nox (pss_cons (ps_if (PW.pt (pw_or (pt_not (pt_val (pe_callB call_isi rfl T.isi (by decide +kernel) (pa_cons (pv 0) (pa_cons (pe_bltn (v := .ty "tuple") rfl T.tuple (by decide +kernel) rfl) pa_nil)))))
      (pw_or (pt_cmpR op_ne (pe_callB call_len_seq rfl T.len boot_len (pa_cons (pv 0) pa_nil)) pe_int (nomark _))
      (pw_or (pt_not (pt_val (pe_cal CP hr (by decide) rfl (pa_cons (pe_ix ix_tup (pv 0) pe_int (fun _ _ => rfl)) pa_nil))))
      (pw_or1 (pt_not (pt_val (pe_cal CP hr (by decide) rfl (pa_cons (pe_ix ix_tup (pv 0) pe_int (fun _ _ => rfl)) pa_nil)))))))))
      (pss_one (ps_ret pe_bl)) pss_nil)
    (pss_one (ps_ret (pe_cmpR (op_ltP hr.units) (pe_ix ix_tup (pv 0) pe_int (fun _ _ => rfl)) (pe_ix ix_tup (pv 0) pe_int (fun _ _ => rfl)) (nomark _))))), ?_⟩)
  · obtain ⟨_, _, rfl, _⟩ := h
    rfl
  · obtain ⟨v, g, rfl, ⟨a, v1, v2, rfl, hp, h1, h2⟩, ok, q⟩ := h
    refine ⟨_, rfl, _, _, _, _, _, rfl, .ty _, .base (.tup hp), kit_ty (r := true) (by decide +kernel), _, rfl, iteF ?_⟩
    refine ⟨_, rfl, _, _, rfl, .inr (.of hp), rfl, _, rfl, neF rfl ?_⟩
    refine ⟨_, rfl, _, _, _, _, rfl, rfl, .of hp, atI_nat (j := 0) rfl, v1, g.1, rfl, h1, ok.1, fun H1 s1 => ⟨_, rfl, iteF ?_⟩⟩
    have hp1 := s1 _ _ hp
    refine ⟨_, rfl, _, _, _, _, rfl, rfl, .of hp1, atI_nat (j := 1) rfl, v2, g.2, rfl, h2.ms s1, ok.2.1, fun H2 s2 => ⟨_, rfl, iteF ?_⟩⟩
    have hp2 := s2 _ _ hp1
    refine ⟨_, rfl, _, _, _, _, rfl, rfl, .of hp2, atI_nat (j := 0) rfl, _, rfl, _, _, _, _, rfl, rfl, .of hp2, atI_nat (j := 1) rfl, g.1, g.2, (h1.ms s1).ms s2, (h2.ms s1).ms s2, ?_⟩
    have e : decide (PLt g.1 g.2) = true := decide_eq_true ok.2.2
    have q' := q H2 (s1.trans s2)
    rw [← e] at q'
    exact q'
theorem sc_check_segment : FnScope ["value", "name"] ["value", "name"] (defScope s_check_segment) := ⟨rfl, rfl, rfl, by decide +kernel, rfl, by decide +kernel, by decide +kernel⟩
def spChk : Sp := fun vs H Q _ => ∃ (v n : V) (g : Sg), vs = [v, n] ∧ SgV H v g ∧ Ok g ∧ ∀ H', Same H H' → Q .non H'
theorem ok_check_segment (CS : Cal P w K mg base 3 "is_segment" ["value"] spIsSeg) (F : FnP K "check_segment" s_check_segment f fd) : FnOk P w K mg base CX0 4 f fd ["value", "name"] spChk := by
  refine F.ok sc_check_segment (fun vs H Q E h => ?_) (fun cdv A outer s H vs Q E hr h => ⟨_, PSs.nox (pss_one (ps_if (pt_not (pt_val (pe_cal CS hr (by decide) rfl (pa_cons (pv 0) pa_nil)))) pss_never pss_nil)), ?_⟩)
  · obtain ⟨_, _, _, rfl, _⟩ := h
    rfl
  · obtain ⟨v, n, g, rfl, hg, ok, q⟩ := h
    exact ⟨_, rfl, v, g, rfl, hg, ok, fun H' s => ⟨_, rfl, iteF (q H' s)⟩⟩
/-! ### what meet tells -/
def TolV (H : Hp) (v : V) : Told → Prop
  | .none => ∃ a, v = .ref a ∧ H a = some (.tup [.str "none"])
  | .touch p => ∃ a u, v = .ref a ∧ H a = some (.tup [.str "touch", u]) ∧ PtV H u p
  | .overlap p q => ∃ a u z, v = .ref a ∧ H a = some (.tup [.str "overlap", u, z]) ∧ PtV H u p ∧ PtV H z q
  | .cross x y => ∃ a u z, v = .ref a ∧ H a = some (.tup [.str "cross", u, z]) ∧ PtV H u x ∧ PtV H z y
theorem TolV.none {H : Hp} {p : Addr} : TolV (upd H p (.tup [.str "none"])) (.ref p) .none := ⟨p, rfl, upd_same⟩
theorem TolV.touch {H : Hp} {p : Addr} {u : V} {x : Pt} (hp : H p = Option.none) (h : PtV H u x) : TolV (upd H p (.tup [.str "touch", u])) (.ref p) (.touch x) := ⟨p, u, rfl, upd_same, h.ms (sm_new hp)⟩
theorem sc_on_one_line : FnScope ["first", "second", "low", "high"] ["first", "second"] (defScope s_on_one_line) := ⟨rfl, rfl, rfl, by decide +kernel, rfl, by decide +kernel, by decide +kernel⟩
def spTold (g : Sg → Sg → Told) : Sp := fun vs H Q _ => ∃ (v1 v2 : V) (s t : Sg), vs = [v1, v2] ∧ SgV H v1 s ∧ SgV H v2 t ∧ Ok s ∧ Ok t ∧ ∀ H' v, Same H H' → TolV H' v (g s t) → Q v H'
theorem ok_on_one_line (T : Nm mg) (F : FnP K "on_one_line" s_on_one_line f fd) : FnOk P w K mg base CX0 1 f fd ["first", "second"] (spTold onLine) := by
  refine F.ok sc_on_one_line (fun vs H Q E h => ?_) (fun cdv A outer s H vs Q E hr h => ⟨_, PSs.nox (pss_cons (ps_set (i := 2) sc_on_one_line.nd rfl (.inl rfl) (pe_callB (cr_maxP rfl hr.units) rfl T.max (by decide +kernel) (pa_cons (pe_ix ix_tup (pv 0) pe_int (fun _ _ => rfl)) (pa_cons (pe_ix ix_tup (pv 1) pe_int (fun _ _ => rfl)) pa_nil))))
    (pss_cons (ps_set (i := 3) sc_on_one_line.nd rfl (.inl rfl) (pe_callB (cr_minP rfl hr.units) rfl T.min (by decide +kernel) (pa_cons (pe_ix ix_tup (pv 0) pe_int (fun _ _ => rfl)) (pa_cons (pe_ix ix_tup (pv 1) pe_int (fun _ _ => rfl)) pa_nil))))
    (pss_cons (ps_if (pt_cmpR (op_gtP hr.units) (pv 2) (pv 3) (nomark _)) (pss_one (ps_ret (pe_tup (pa_cons pe_str pa_nil)))) pss_nil)
    (pss_one (ps_ret (pe_ifExp (pt_cmpR (op_eqP hr.units) (pv 2) (pv 3) (nomark _)) (pe_tup (pa_cons pe_str (pa_cons (pv 2) pa_nil))) (pe_tup (pa_cons pe_str (pa_cons (pv 2) (pa_cons (pv 3) pa_nil)))))))))), ?_⟩)
  · obtain ⟨_, _, _, _, rfl, _⟩ := h
    rfl
  · obtain ⟨_, _, g1, g2, rfl, ⟨a, v1, v2, rfl, ha, h1, h2⟩, ⟨b, u1, u2, rfl, hb, k1, k2⟩, ok1, ok2, q⟩ := h
    have hlow : PtV H (if decide (PLt g1.1 g2.1) = true then u1 else v1) (pmax g1.1 g2.1) := by
      unfold pmax
      by_cases z : PLt g1.1 g2.1
      · rw [if_pos (decide_eq_true z), if_pos z]; exact k1
      · rw [if_neg (by simpa using z), if_neg z]; exact h1
    have hhigh : PtV H (if decide (PLt g2.2 g1.2) = true then u2 else v2) (pmin g1.2 g2.2) := by
      unfold pmin
      by_cases z : PLt g2.2 g1.2
      · rw [if_pos (decide_eq_true z), if_pos z]; exact k2
      · rw [if_neg (by simpa using z), if_neg z]; exact h2
    refine ⟨_, rfl, _, _, _, _, rfl, rfl, .of ha, atI_nat (j := 0) rfl, _, rfl, _, _, _, _, rfl, rfl, .of hb, atI_nat (j := 0) rfl, v1, u1, g1.1, g2.1, rfl, h1, k1, ?_⟩
    refine ⟨_, rfl, _, _, _, _, rfl, rfl, .of ha, atI_nat (j := 1) rfl, _, rfl, _, _, _, _, rfl, rfl, .of hb, atI_nat (j := 1) rfl, v2, u2, g1.2, g2.2, rfl, h2, k2, ?_⟩
    generalize (if decide (PLt g1.1 g2.1) = true then u1 else v1) = lo at hlow
    generalize (if decide (PLt g2.2 g1.2) = true then u2 else v2) = hi at hhigh
    refine ⟨_, rfl, _, rfl, _, _, hlow, hhigh, _, rfl, ?_⟩
    by_cases z : PLt (pmin g1.2 g2.2) (pmax g1.1 g2.1)
    · refine itP z ⟨by show 1 ≤ sizeLine; decide, fun p hp => q _ _ (sm_new hp) ?_⟩
      have e : onLine g1 g2 = .none := if_pos z
      rw [e]; exact .none
    · refine itN z ⟨_, rfl, _, rfl, _, _, hlow, hhigh, _, rfl, ?_⟩
      by_cases y : pmax g1.1 g2.1 = pmin g1.2 g2.2
      · refine itP y ⟨_, rfl, by show 2 ≤ sizeLine; decide, fun p hp => q _ _ (sm_new hp) ?_⟩
        have e : onLine g1 g2 = .touch (pmax g1.1 g2.1) := by unfold onLine; rw [if_neg z, if_pos y]
        rw [e]; exact .touch hp hlow
      · refine itN y ⟨_, rfl, _, rfl, by show 3 ≤ sizeLine; decide, fun p hp => q _ _ (sm_new hp) ?_⟩
        have e : onLine g1 g2 = .overlap (pmax g1.1 g2.1) (pmin g1.2 g2.2) := by unfold onLine; rw [if_neg z, if_neg y]
        rw [e]; exact ⟨p, _, _, rfl, upd_same, hlow.ms (sm_new hp), hhigh.ms (sm_new hp)⟩
end
end K25

set_option Elab.async false
set_option linter.all false
set_option maxRecDepth 100000
set_option maxHeartbeats 4000000
/-! The walk, four: meet, meeting, is_apart, met, points_met. Own text. -/
namespace K25
open PySem PySem.Spec PyProof.Rows L2 K25S
section
variable {P : Program} {w : World} {K : PySem.W.Frag} {mg : Str → Option Value} {base : Heap} {f : Addr} {fd : FuncData}
theorem Far.bd {p : Pt} (h : Far p) : Bd p := by unfold Far at h; unfold Bd; omega
theorem mul_bd {x y : Int} {A B : Nat} (hx : x.natAbs ≤ A) (hy : y.natAbs ≤ B) : (x * y).natAbs ≤ A * B := by
  rw [Int.natAbs_mul]
  exact Nat.mul_le_mul hx hy
theorem turn_bd {a b c : Pt} (ha : Far a) (hb : Far b) (hc : Far c) : (turn a b c).natAbs ≤ 8000000 := by
  unfold Far at ha hb hc
  have m1 := mul_bd (x := b.1 - a.1) (y := c.2 - a.2) (A := 2000) (B := 2000) (by omega) (by omega)
  have m2 := mul_bd (x := b.2 - a.2) (y := c.1 - a.1) (A := 2000) (B := 2000) (by omega) (by omega)
  unfold turn
  omega
theorem side_ne {c d p r : Int} (h : ¬ (Beside c d ∨ Beside p r)) (p0 : p ≠ 0) : p - r ≠ 0 := by
  have h : ¬ Beside p r := fun z => h (.inr z)
  unfold Beside at h
  omega
theorem sub_bd {p r : Int} (hp : p.natAbs ≤ 8000000) (hr : r.natAbs ≤ 8000000) : (p - r).natAbs < 1073741824 := by omega
theorem bd1 {p : Pt} (h : Bd p) : -(2 ^ 64) < p.1 ∧ p.1 < 2 ^ 64 := by unfold Bd at h; omega
theorem bd2 {p : Pt} (h : Bd p) : -(2 ^ 64) < p.2 ∧ p.2 < 2 ^ 64 := by unfold Bd at h; omega
theorem andT {c d : Int} {A B S : Prop} (h : c = 0 ∧ d = 0) (f : (if decide (V.int d = V.int 0) = true then A else S) → B) (a : A) {S' : Prop} : if decide (V.int c = V.int 0) = true then B else S' := eqT h.1 (f (eqT h.2 a))
theorem andF {c d : Int} {A B S : Prop} (h : ¬ (c = 0 ∧ d = 0)) (f : (if decide (V.int d = V.int 0) = true then A else S) → B) (s : S) : if decide (V.int c = V.int 0) = true then B else S := by
  by_cases hc : c = 0
  · exact eqT hc (f (eqF (fun z => h ⟨hc, z⟩) s))
  · exact eqF hc s
theorem orT {p q : Prop} [Decidable p] [Decidable q] {A B S : Prop} (h : p ∨ q) (f : (if decide q = true then A else S) → B) (a : A) : if decide p = true then A else B := by
  by_cases hp : p
  · exact itP hp a
  · exact itN hp (f (itP (h.resolve_left hp) a))
theorem orF {p q : Prop} [Decidable p] [Decidable q] {A A' B S : Prop} (h : ¬ (p ∨ q)) (f : (if decide q = true then A else S) → B) (s : S) : if decide p = true then A' else B := itN (fun z => h (.inl z)) (f (itN (fun z => h (.inr z)) s))
theorem sc_meet : FnScope ["first", "second", "a", "b", "c", "d", "at_c", "at_d", "at_a", "at_b", "side", "point", "whole", "x"] ["first", "second"] (defScope s_meet) := ⟨rfl, rfl, rfl, by decide +kernel, rfl, by decide +kernel, by decide +kernel⟩
theorem ok_meet (CT : Cal P w K mg base 1 "turned" ["a", "b", "c"] spTurned) (CO : Cal P w K mg base 1 "on_one_line" ["first", "second"] (spTold onLine)) (CB : Cal P w K mg base 1 "are_beside" ["one", "other"] spBeside) (CL : Cal P w K mg base 1 "lowest" ["n", "d"] spLowest)
    (F : FnP K "meet" s_meet f fd) : FnOk P w K mg base CX0 2 f fd ["first", "second"] (spTold meet) := by
  refine F.ok sc_meet (fun vs H Q E h => ?_) (fun cdv A outer s H vs Q E hr h => ⟨_, PSs.nox (
    pss_cons (ps_asg (pv 0) (pg_tup rfl (pgs_cons (pg_name (i := 2) sc_meet.nd rfl (.inl rfl)) (pgs_cons (pg_name (i := 3) sc_meet.nd rfl (.inl rfl)) pgs_nil))))
    (pss_cons (ps_asg (pv 1) (pg_tup rfl (pgs_cons (pg_name (i := 4) sc_meet.nd rfl (.inl rfl)) (pgs_cons (pg_name (i := 5) sc_meet.nd rfl (.inl rfl)) pgs_nil))))
    (pss_cons (ps_set (i := 6) sc_meet.nd rfl (.inl rfl) (pe_cal CT hr (by decide) rfl (pa_cons (pv 2) (pa_cons (pv 3) (pa_cons (pv 4) pa_nil)))))
    (pss_cons (ps_set (i := 7) sc_meet.nd rfl (.inl rfl) (pe_cal CT hr (by decide) rfl (pa_cons (pv 2) (pa_cons (pv 3) (pa_cons (pv 5) pa_nil)))))
    (pss_cons (ps_if (PW.pt (pw_and (pt_cmpR op_eq (pv 6) pe_int (nomark _)) (pw_and1 (pt_cmpR op_eq (pv 7) pe_int (nomark _))))) (pss_one (ps_ret (pe_cal CO hr (by decide) rfl (pa_cons (pv 0) (pa_cons (pv 1) pa_nil))))) pss_nil)
    (pss_cons (ps_set (i := 8) sc_meet.nd rfl (.inl rfl) (pe_cal CT hr (by decide) rfl (pa_cons (pv 4) (pa_cons (pv 5) (pa_cons (pv 2) pa_nil)))))
    (pss_cons (ps_set (i := 9) sc_meet.nd rfl (.inl rfl) (pe_cal CT hr (by decide) rfl (pa_cons (pv 4) (pa_cons (pv 5) (pa_cons (pv 3) pa_nil)))))
    (pss_cons (ps_if (PW.pt (pw_or (pt_val (pe_cal CB hr (by decide) rfl (pa_cons (pv 6) (pa_cons (pv 7) pa_nil)))) (pw_or1 (pt_val (pe_cal CB hr (by decide) rfl (pa_cons (pv 8) (pa_cons (pv 9) pa_nil))))))) (pss_one (ps_ret (pe_tup (pa_cons pe_str pa_nil)))) pss_nil)
    (pss_cons (ps_for PassesOwn.never rfl (pi_tup (pe_tup (pa_cons (pe_tup (pa_cons (pv 6) (pa_cons (pv 4) pa_nil))) (pa_cons (pe_tup (pa_cons (pv 7) (pa_cons (pv 5) pa_nil))) (pa_cons (pe_tup (pa_cons (pv 8) (pa_cons (pv 2) pa_nil))) (pa_cons (pe_tup (pa_cons (pv 9) (pa_cons (pv 3) pa_nil))) pa_nil))))))
        (pg_tup rfl (pgs_cons (pg_name (i := 10) sc_meet.nd rfl (.inl rfl)) (pgs_cons (pg_name (i := 11) sc_meet.nd rfl (.inl rfl)) pgs_nil)))
        (pss_one (ps_if (pt_cmpR op_eq (pv 10) pe_int (nomark _)) (pss_one (ps_ret (pe_tup (pa_cons pe_str (pa_cons (pv 11) pa_nil))))) pss_nil)))
    (pss_cons (ps_set (i := 12) sc_meet.nd rfl (.inl rfl) (pe_op op_sub (pv 8) (pv 9)))
    (pss_cons (ps_set (i := 13) sc_meet.nd rfl (.inl rfl) (pe_cal CL hr (by decide) rfl (pa_cons (pe_op op_add (pe_op op_mul (pe_ix ix_tup (pv 2) pe_int (fun _ _ => rfl)) (pv 12)) (pe_op op_mul (pe_op op_sub (pe_ix ix_tup (pv 3) pe_int (fun _ _ => rfl)) (pe_ix ix_tup (pv 2) pe_int (fun _ _ => rfl))) (pv 8))) (pa_cons (pv 12) pa_nil))))
    (pss_one (ps_ret (pe_tup (pa_cons pe_str (pa_cons (pv 13) (pa_cons (pe_cal CL hr (by decide) rfl (pa_cons (pe_op op_add (pe_op op_mul (pe_ix ix_tup (pv 2) pe_int (fun _ _ => rfl)) (pv 12)) (pe_op op_mul (pe_op op_sub (pe_ix ix_tup (pv 3) pe_int (fun _ _ => rfl)) (pe_ix ix_tup (pv 2) pe_int (fun _ _ => rfl))) (pv 8))) (pa_cons (pv 12) pa_nil))) pa_nil))))))))))))))))), ?_⟩)
  · obtain ⟨_, _, _, _, rfl, _⟩ := h
    rfl
  · obtain ⟨_, _, g1, g2, rfl, ⟨a, v1, v2, rfl, ha, h1, h2⟩, ⟨b, u1, u2, rfl, hb, k1, k2⟩, ok1, ok2, q⟩ := h
    refine ⟨_, rfl, a, _, rfl, .of ha, rfl, _, _, rfl, _, _, rfl, rfl, ?_⟩
    refine ⟨_, rfl, b, _, rfl, .of hb, rfl, _, _, rfl, _, _, rfl, rfl, ?_⟩
    refine ⟨_, rfl, _, rfl, _, rfl, v1, v2, u1, g1.1, g1.2, g2.1, rfl, h1, h2, k1, ok1.1.bd, ok1.2.1.bd, ok2.1.bd, ?_⟩
    refine ⟨_, rfl, _, rfl, _, rfl, v1, v2, u2, g1.1, g1.2, g2.2, rfl, h1, h2, k2, ok1.1.bd, ok1.2.1.bd, ok2.2.1.bd, ?_⟩
    have em : meet g1 g2 = if turn g1.1 g1.2 g2.1 = 0 ∧ turn g1.1 g1.2 g2.2 = 0 then onLine g1 g2
        else if Beside (turn g1.1 g1.2 g2.1) (turn g1.1 g1.2 g2.2) ∨ Beside (turn g2.1 g2.2 g1.1) (turn g2.1 g2.2 g1.2) then .none
        else if turn g1.1 g1.2 g2.1 = 0 then .touch g2.1 else if turn g1.1 g1.2 g2.2 = 0 then .touch g2.2 else if turn g2.1 g2.2 g1.1 = 0 then .touch g1.1 else if turn g2.1 g2.2 g1.2 = 0 then .touch g1.2
        else .cross (lowest (g1.1.1 * (turn g2.1 g2.2 g1.1 - turn g2.1 g2.2 g1.2) + (g1.2.1 - g1.1.1) * turn g2.1 g2.2 g1.1) (turn g2.1 g2.2 g1.1 - turn g2.1 g2.2 g1.2))
          (lowest (g1.1.2 * (turn g2.1 g2.2 g1.1 - turn g2.1 g2.2 g1.2) + (g1.2.2 - g1.1.2) * turn g2.1 g2.2 g1.1) (turn g2.1 g2.2 g1.1 - turn g2.1 g2.2 g1.2)) := rfl
    have bA := turn_bd ok2.1 ok2.2.1 ok1.1
    have bB := turn_bd ok2.1 ok2.2.1 ok1.2.1
    generalize turn g1.1 g1.2 g2.1 = c at em ⊢
    generalize turn g1.1 g1.2 g2.2 = d at em ⊢
    refine ⟨_, rfl, rfl, _, rfl, ?_⟩
    by_cases hcd : c = 0 ∧ d = 0
    · rw [if_pos hcd] at em
      refine andT hcd (fun r => ⟨_, rfl, rfl, _, rfl, r⟩) ?_
      exact ⟨_, rfl, _, rfl, _, _, g1, g2, rfl, ⟨a, v1, v2, rfl, ha, h1, h2⟩, ⟨b, u1, u2, rfl, hb, k1, k2⟩, ok1, ok2, fun H' v sm tv => q H' v sm (by rw [em]; exact tv)⟩
    · rw [if_neg hcd] at em
      refine andF hcd (fun r => ⟨_, rfl, rfl, _, rfl, r⟩) ?_
      refine ⟨_, rfl, _, rfl, _, rfl, u1, u2, v1, g2.1, g2.2, g1.1, rfl, k1, k2, h1, ok2.1.bd, ok2.2.1.bd, ok1.1.bd, ?_⟩
      refine ⟨_, rfl, _, rfl, _, rfl, u1, u2, v2, g2.1, g2.2, g1.2, rfl, k1, k2, h2, ok2.1.bd, ok2.2.1.bd, ok1.2.1.bd, ?_⟩
      generalize turn g2.1 g2.2 g1.1 = p at em bA ⊢
      generalize turn g2.1 g2.2 g1.2 = r at em bB ⊢
      refine ⟨_, rfl, _, rfl, c, d, rfl, _, rfl, ?_⟩
      by_cases hbs : Beside c d ∨ Beside p r
      · rw [if_pos hbs] at em
        refine orT hbs (fun z => ⟨_, rfl, _, rfl, p, r, rfl, _, rfl, z⟩) ?_
        refine ⟨by show 1 ≤ sizeLine; decide, fun x hx => q _ _ (sm_new hx) ?_⟩
        rw [em]; exact .none
      · rw [if_neg hbs] at em
        refine orF hbs (fun z => ⟨_, rfl, _, rfl, p, r, rfl, _, rfl, z⟩) ?_
        refine ⟨_, rfl, _, rfl, by show 2 ≤ sizeLine; decide, fun p1 n1 => ⟨_, rfl, _, rfl, by show 2 ≤ sizeLine; decide, fun p2 n2 => ⟨_, rfl, _, rfl, by show 2 ≤ sizeLine; decide, fun p3 n3 => ⟨_, rfl, _, rfl, by show 2 ≤ sizeLine; decide, fun p4 n4 => ?_⟩⟩⟩⟩
        refine ⟨by show 4 ≤ sizeLine; decide, fun l hl => ⟨l, rfl, ⟨_, .of upd_same⟩, ?_⟩⟩
        have e1 : ∀ H0 : Hp, H0 = upd (upd (upd (upd H p1 (.tup [.int c, u1])) p2 (.tup [.int d, u2])) p3 (.tup [.int p, v1])) p4 (.tup [.int r, v2]) → H0 l = none → Same H H0 ∧ H0 p1 = some (.tup [.int c, u1]) ∧ H0 p2 = some (.tup [.int d, u2]) ∧ H0 p3 = some (.tup [.int p, v1]) ∧ H0 p4 = some (.tup [.int r, v2]) := fun H0 e0 _ => by
          subst e0
          have s1 : Same H (upd H p1 (.tup [.int c, u1])) := sm_new n1
          have s2 : Same (upd H p1 (.tup [.int c, u1])) _ := sm_new (o := .tup [.int d, u2]) n2
          have s3 := sm_new (o := .tup [.int p, v1]) n3
          have s4 := sm_new (o := .tup [.int r, v2]) n4
          exact ⟨((s1.trans s2).trans s3).trans s4, s4 _ _ (s3 _ _ (s2 _ _ upd_same)), s4 _ _ (s3 _ _ upd_same), s4 _ _ upd_same, upd_same⟩
        obtain ⟨sm0, f1, f2, f3, f4⟩ := e1 _ rfl hl
        generalize upd (upd (upd (upd H p1 (.tup [.int c, u1])) p2 (.tup [.int d, u2])) p3 (.tup [.int p, v1])) p4 (.tup [.int r, v2]) = H4 at hl sm0 f1 f2 f3 f4 ⊢
        have s5 : Same H4 (upd H4 l (.tup [.ref p1, .ref p2, .ref p3, .ref p4])) := sm_new hl
        have f5 : (upd H4 l (.tup [.ref p1, .ref p2, .ref p3, .ref p4])) l = some (.tup [.ref p1, .ref p2, .ref p3, .ref p4]) := upd_same
        generalize upd H4 l (.tup [.ref p1, .ref p2, .ref p3, .ref p4]) = H5 at s5 f5 ⊢
        have sm : Same H H5 := sm0.trans s5
        refine for_tup (K := K) (a := l) (xs := [.ref p1, .ref p2, .ref p3, .ref p4]) (fun i σ' H' => H' = H5 ∧ (∃ x y, σ' = [some (.ref a), some (.ref b), some v1, some v2, some u1, some u2, some (.int c), some (.int d), some (.int p), some (.int r), x, y, none, none]) ∧ (0 < i → c ≠ 0) ∧ (1 < i → d ≠ 0) ∧ (2 < i → p ≠ 0) ∧ (3 < i → r ≠ 0))
          ⟨rfl, ⟨_, _, rfl⟩, by omega, by omega, by omega, by omega⟩ (fun i σ' H' _ h => by rw [h.1]; exact .of f5) (fun i x σ' H' hx ⟨eH, ⟨y1, y2, es⟩, c0, c1, c2, c3⟩ => ?_) (fun σ' H' ⟨eH, ⟨y1, y2, es⟩, c0, c1, c2, c3⟩ => ?_)
        · subst eH es
          have ⟨ad, sd, vp, pt, ex, hh, hv, ht, hnx⟩ : ∃ (ad : Addr) (sd : Int) (vp : V) (pt : Pt), x = .ref ad ∧ H' ad = some (.tup [.int sd, vp]) ∧ PtV H' vp pt ∧ (sd = 0 → meet g1 g2 = .touch pt) ∧ (sd ≠ 0 → (0 < i + 1 → c ≠ 0) ∧ (1 < i + 1 → d ≠ 0) ∧ (2 < i + 1 → p ≠ 0) ∧ (3 < i + 1 → r ≠ 0)) := by
            match i, hx with
            | 0, hx => exact ⟨p1, c, u1, g2.1, (Option.some.inj hx).symm, s5 _ _ f1, k1.ms sm, fun z => by rw [em, if_pos z], fun z => ⟨fun _ => z, by omega, by omega, by omega⟩⟩
            | 1, hx => exact ⟨p2, d, u2, g2.2, (Option.some.inj hx).symm, s5 _ _ f2, k2.ms sm, fun z => by rw [em, if_neg (c0 (by omega)), if_pos z], fun z => ⟨fun _ => c0 (by omega), fun _ => z, by omega, by omega⟩⟩
            | 2, hx => exact ⟨p3, p, v1, g1.1, (Option.some.inj hx).symm, s5 _ _ f3, h1.ms sm, fun z => by rw [em, if_neg (c0 (by omega)), if_neg (c1 (by omega)), if_pos z], fun z => ⟨fun _ => c0 (by omega), fun _ => c1 (by omega), fun _ => z, by omega⟩⟩
            | 3, hx => exact ⟨p4, r, v2, g1.2, (Option.some.inj hx).symm, s5 _ _ f4, h2.ms sm, fun z => by rw [em, if_neg (c0 (by omega)), if_neg (c1 (by omega)), if_neg (c2 (by omega)), if_pos z], fun z => ⟨fun _ => c0 (by omega), fun _ => c1 (by omega), fun _ => c2 (by omega), fun _ => z⟩⟩
          subst ex
          refine ⟨ad, _, rfl, .of hh, rfl, _, _, rfl, _, _, rfl, rfl, ?_⟩
          refine ⟨_, rfl, rfl, _, rfl, ?_⟩
          by_cases hs : sd = 0
          · refine eqT hs ⟨_, rfl, by show 2 ≤ sizeLine; decide, fun z hz => q _ _ (sm.trans (sm_new hz)) ?_⟩
            rw [ht hs]
            exact .touch hz hv
          · exact eqF hs ⟨rfl, ⟨_, _, rfl⟩, hnx hs⟩
        · subst eH es
          have c0 := c0 (show 0 < 4 by decide)
          have c1 := c1 (show 1 < 4 by decide)
          have c2 := c2 (show 2 < 4 by decide)
          have c3 := c3 (show 3 < 4 by decide)
          rw [if_neg c0, if_neg c1, if_neg c2, if_neg c3] at em
          refine ⟨_, rfl, _, rfl, _, _, rfl, rfl, ?_⟩
          have w0 : p - r ≠ 0 := side_ne hbs c2
          have w1 : (p - r).natAbs < 1073741824 := sub_bd bA bB
          obtain ⟨av1, rfl, h1⟩ := h1
          obtain ⟨av2, rfl, h2⟩ := h2
          have d1 := bd_diff ok1.1.bd ok1.2.1.bd
          have b1 := ok1.1.bd
          refine ⟨_, rfl, _, _, _, _, rfl, rfl, .of (sm _ _ h1), atI_nat (j := 0) rfl, _, rfl, _, _, rfl, rfl, .inl (bd1 b1), _, rfl, _, _, _, _, rfl, rfl, .of (sm _ _ h2), atI_nat (j := 0) rfl, _, rfl, _, _, _, _, rfl, rfl, .of (sm _ _ h1), atI_nat (j := 0) rfl, _, _, rfl, rfl, _, rfl, _, _, rfl, rfl, cm d1.1, _, _, rfl, rfl, _, rfl, _, _, rfl, w0, w1, fun x1 nx1 => ?_⟩
          have t1 := sm_new (o := .tup [.int (lowest (g1.1.1 * (p - r) + (g1.2.1 - g1.1.1) * p) (p - r)).1, .int (lowest (g1.1.1 * (p - r) + (g1.2.1 - g1.1.1) * p) (p - r)).2]) nx1
          refine ⟨_, rfl, _, rfl, _, _, _, _, rfl, rfl, .of (t1 _ _ (sm _ _ h1)), atI_nat (j := 1) rfl, _, rfl, _, _, rfl, rfl, .inl (bd2 b1), _, rfl, _, _, _, _, rfl, rfl, .of (t1 _ _ (sm _ _ h2)), atI_nat (j := 1) rfl, _, rfl, _, _, _, _, rfl, rfl, .of (t1 _ _ (sm _ _ h1)), atI_nat (j := 1) rfl, _, _, rfl, rfl, _, rfl, _, _, rfl, rfl, cm d1.2, _, _, rfl, rfl, _, rfl, _, _, rfl, w0, w1, fun x2 nx2 => ?_⟩
          have t2 := sm_new (o := .tup [.int (lowest (g1.1.2 * (p - r) + (g1.2.2 - g1.1.2) * p) (p - r)).1, .int (lowest (g1.1.2 * (p - r) + (g1.2.2 - g1.1.2) * p) (p - r)).2]) nx2
          refine ⟨by show 3 ≤ sizeLine; decide, fun z hz => q _ _ (((sm.trans t1).trans t2).trans (sm_new hz)) ?_⟩
          rw [em]
          have t3 := sm_new (o := .tup [.str "cross", .ref x1, .ref x2]) hz
          exact ⟨z, _, _, rfl, upd_same, ⟨x1, rfl, t3 _ _ (t2 _ _ upd_same)⟩, ⟨x2, rfl, t3 _ _ upd_same⟩⟩
end
end K25

set_option Elab.async false
set_option linter.all false
set_option maxRecDepth 100000
set_option maxHeartbeats 4000000
/-! The walk, five: meeting, is_apart, met, points_met. Own text. -/
namespace K25
open PySem PySem.Spec PyProof.Rows L2 K25S
section
variable {P : Program} {w : World} {K : PySem.W.Frag} {mg : Str → Option Value} {base : Heap} {f : Addr} {fd : FuncData}
theorem sc_meeting : FnScope ["first", "second"] ["first", "second"] (defScope s_meeting) := ⟨rfl, rfl, rfl, by decide +kernel, rfl, by decide +kernel, by decide +kernel⟩
theorem ok_meeting (CC : Cal P w K mg base 4 "check_segment" ["value", "name"] spChk) (CM : Cal P w K mg base 2 "meet" ["first", "second"] (spTold meet)) (F : FnP K "meeting" s_meeting f fd) : FnOk P w K mg base CX0 5 f fd ["first", "second"] (spTold meet) := by
  refine F.ok sc_meeting (fun vs H Q E h => ?_) (fun cdv A outer s H vs Q E hr h => ⟨_, PSs.nox (pss_cons (ps_expr (pe_cal CC hr (by decide) rfl (pa_cons (pv 0) (pa_cons pe_str pa_nil))))
    (pss_cons (ps_expr (pe_cal CC hr (by decide) rfl (pa_cons (pv 1) (pa_cons pe_str pa_nil)))) (pss_one (ps_ret (pe_cal CM hr (by decide) rfl (pa_cons (pv 0) (pa_cons (pv 1) pa_nil))))))), ?_⟩)
  · obtain ⟨_, _, _, _, rfl, _⟩ := h
    rfl
  · obtain ⟨v1, v2, g1, g2, rfl, h1, h2, ok1, ok2, q⟩ := h
    refine ⟨_, rfl, v1, _, g1, rfl, h1, ok1, fun H1 s1 => ?_⟩
    refine ⟨_, rfl, v2, _, g2, rfl, h2.ms s1, ok2, fun H2 s2 => ?_⟩
    exact ⟨_, rfl, _, rfl, v1, v2, g1, g2, rfl, (h1.ms s1).ms s2, (h2.ms s1).ms s2, ok1, ok2, fun H3 v s3 t => q H3 v ((s1.trans s2).trans s3) t⟩
theorem ite_max (a b : Int) : (if b > a then b else a) = max a b := by rw [Int.max_def]; split <;> split <;> omega
theorem ite_min (a b : Int) : (if b < a then b else a) = min a b := by rw [Int.min_def]; split <;> split <;> omega
theorem ixK {X : Cx} {K : PySem.W.Frag} (h : X.K = K) : IxR X (rIxT K) := by rw [← h]; exact ix_tup
theorem sc_is_apart : FnScope ["first", "second", "low", "high", "segment"] ["first", "second"] (defScope s_is_apart) := ⟨rfl, rfl, rfl, by decide +kernel, rfl, by decide +kernel, by decide +kernel⟩
def spApart : Sp := fun vs H Q _ => ∃ (v1 v2 : V) (s t : Sg), vs = [v1, v2] ∧ SgV H v1 s ∧ SgV H v2 t ∧ ∀ H', Same H H' → Q (.bl (decide (Apart s t))) H'
theorem orTs {p q : Prop} [Decidable p] [Decidable q] {A B S : Prop} (f : (if decide q = true then A else S) → B) (h : if decide (p ∨ q) = true then A else S) : if decide p = true then A else B := by
  by_cases hp : p
  · rw [if_pos (decide_eq_true (Or.inl hp))] at h
    exact itP hp h
  · refine itN hp (f ?_)
    by_cases hq : q
    · rw [if_pos (decide_eq_true (Or.inr hq))] at h
      exact itP hq h
    · rw [if_neg (by simp [hp, hq])] at h
      exact itN hq h
/-- [f(s[0][1], s[1][1]) for s in (first, second)], f min or max -/
theorem lows_run {g : Int → Int → Int} {H : Hp} {D pt : Addr} {v1 v2 : V} {s t : Sg} {K : PySem.W.Frag} {Q : Hp → Prop} {r : List V → Hp → VK → Prop} (hr : ∀ (i j : Int) (H : Hp) (Q : VK), Q (.int (g i j)) H → r [.int i, .int j] H Q) (h1 : SgV H v1 s) (h2 : SgV H v2 t) (hp : H pt = some (.tup [v1, v2])) (hD : H D = none)
    {σ : L2.St} (hl : σ.length = 5) (q : ∀ H', Same H H' → H' D = some (.lst [.int (g s.1.2 s.2.2), .int (g t.1.2 t.2.2)]) → Q H') :
    ∃ W : Nat → Nat → Hp → Prop, (∃ m, W 0 m (upd H D (.lst []))) ∧ ∀ i m H, W i m H →
      ((Itt K pt).stop i H ∧ Q H) ∨ ((Itt K pt).go i H ∧ ∃ Nx : Hp → Prop, (∀ H', Nx H' → ∃ m', m' < m ∧ W (i + 1) m' H') ∧ ∀ x H', (Itt K pt).yld i H x H' → gName 4 x (wipe σ [4]) H' fun σ2 H2 => wipe σ2 [4] = wipe σ [4] ∧ tYes σ2 H2 fun b H3 =>
        if b = true then (tCB r (tCons (tOp (rIxT K) (tOp (rIxT K) (tVar 4) (tC (.int 0))) (tC (.int 1))) (tCons (tOp (rIxT K) (tOp (rIxT K) (tVar 4) (tC (.int 1))) (tC (.int 1))) tNil))) σ2 H3 fun y H4 => ∃ acc, H4 D = some (.lst acc) ∧ acc.length < sizeLine ∧ Nx (upd H4 D (.lst (acc ++ [y]))) else Nx H3) := by
  obtain ⟨a, b, c, d, e, rfl⟩ : ∃ a b c d e, σ = [a, b, c, d, e] := by
    match σ, hl with
    | [a, b, c, d, e], _ => exact ⟨a, b, c, d, e, rfl⟩
  refine lc_tup (K := K) (a := pt) (xs := [v1, v2]) (fun i H' => Same H H' ∧ H' D = some (.lst ([V.int (g s.1.2 s.2.2), .int (g t.1.2 t.2.2)].take i))) ⟨sm_new hD, upd_same⟩ (fun i H' _ h => .of (h.1 _ _ hp)) (fun i x H' hx ⟨sm, e⟩ => ?_) (fun H' ⟨sm, e⟩ => q H' sm e)
  refine ⟨rfl, ?_⟩
  have ⟨u, hu, hm⟩ : ∃ u : Sg, SgV H' x u ∧ ([V.int (g s.1.2 s.2.2), .int (g t.1.2 t.2.2)].take (i + 1)) = ([V.int (g s.1.2 s.2.2), .int (g t.1.2 t.2.2)].take i) ++ [V.int (g u.1.2 u.2.2)] := by
    match i, hx with
    | 0, hx => exact ⟨s, by rw [← Option.some.inj hx]; exact h1.ms sm, rfl⟩
    | 1, hx => exact ⟨t, by rw [← Option.some.inj hx]; exact h2.ms sm, rfl⟩
  have hi : i < 2 := (List.getElem?_eq_some_iff.mp hx).1
  obtain ⟨au, u1, u2, rfl, hau, ⟨b1, rfl, hu1⟩, ⟨b2, rfl, hu2⟩⟩ := hu

  refine ⟨_, rfl, _, _, _, _, rfl, rfl, .of hau, atI_nat (j := 0) rfl, _, _, _, _, rfl, rfl, .of hu1, atI_nat (j := 1) rfl, _, rfl, _, _, _, _, rfl, rfl, .of hau, atI_nat (j := 1) rfl, _, _, _, _, rfl, rfl, .of hu2, atI_nat (j := 1) rfl, hr _ _ _ _ ?_⟩
  refine ⟨_, e, ?_, fun b o h => ?_, ?_⟩
  · rw [List.length_take]
    exact Nat.lt_of_le_of_lt (Nat.min_le_left _ _) (Nat.lt_of_lt_of_le hi (by show 2 ≤ sizeLine; decide))
  · rw [upd_ne (ne_of_none h hD)]
    exact sm _ _ h
  · rw [upd_same, ← hm]
theorem ok_is_apart (T : Nm mg) (F : FnP K "is_apart" s_is_apart f fd) : FnOk P w K mg base CX0 1 f fd ["first", "second"] spApart := by
  refine F.ok sc_is_apart (fun vs H Q E h => ?_) (fun cdv A outer s H vs Q E hr h => ⟨_, PSs.nox (pss_cons (ps_if (PW.pt (pw_or (pt_cmpR op_lt (pe_ix ix_tup (pe_ix ix_tup (pv 0) pe_int (fun _ _ => rfl)) pe_int (fun _ _ => rfl)) (pe_ix ix_tup (pe_ix ix_tup (pv 1) pe_int (fun _ _ => rfl)) pe_int (fun _ _ => rfl)) (nomark _))
      (pw_or1 (pt_cmpR op_lt (pe_ix ix_tup (pe_ix ix_tup (pv 1) pe_int (fun _ _ => rfl)) pe_int (fun _ _ => rfl)) (pe_ix ix_tup (pe_ix ix_tup (pv 0) pe_int (fun _ _ => rfl)) pe_int (fun _ _ => rfl)) (nomark _))))) (pss_one (ps_ret pe_bl)) pss_nil)
    (pss_cons (ps_setLc (i := 2) (own := [("segment", 4)]) (g := gName 4) (tt := tYes) rfl sc_is_apart.nd rfl rfl (sw_true rfl rfl rfl (by decide +kernel)) (pi_tup (pe_tup (pa_cons (pv 0) (pa_cons (pv 1) pa_nil)))) (blkOk_by (N := ["first", "second", "low", "high", "segment"]) (sc := defScope s_is_apart) (by decide +kernel))
      (fun _ _ _ _ _ => pg_name (i := 4) sc_is_apart.nd rfl (Or.inl rfl)) (fun _ _ _ _ _ => pts_nil) (fun _ _ _ _ _ => pe_callB (call_min2 rfl) rfl T.min (by decide +kernel) (pa_cons (pe_ix (ixK (K := K) rfl) (pe_ix (ixK (K := K) rfl) (pv 4) pe_int (fun _ _ => rfl)) pe_int (fun _ _ => rfl)) (pa_cons (pe_ix (ixK (K := K) rfl) (pe_ix (ixK (K := K) rfl) (pv 4) pe_int (fun _ _ => rfl)) pe_int (fun _ _ => rfl)) pa_nil))))
    (pss_cons (ps_setLc (i := 3) (own := [("segment", 4)]) (g := gName 4) (tt := tYes) rfl sc_is_apart.nd rfl rfl (sw_true rfl rfl rfl (by decide +kernel)) (pi_tup (pe_tup (pa_cons (pv 0) (pa_cons (pv 1) pa_nil)))) (blkOk_by (N := ["first", "second", "low", "high", "segment"]) (sc := defScope s_is_apart) (by decide +kernel))
      (fun _ _ _ _ _ => pg_name (i := 4) sc_is_apart.nd rfl (Or.inl rfl)) (fun _ _ _ _ _ => pts_nil) (fun _ _ _ _ _ => pe_callB (call_max2 rfl) rfl T.max (by decide +kernel) (pa_cons (pe_ix (ixK (K := K) rfl) (pe_ix (ixK (K := K) rfl) (pv 4) pe_int (fun _ _ => rfl)) pe_int (fun _ _ => rfl)) (pa_cons (pe_ix (ixK (K := K) rfl) (pe_ix (ixK (K := K) rfl) (pv 4) pe_int (fun _ _ => rfl)) pe_int (fun _ _ => rfl)) pa_nil))))
    (pss_one (ps_ret (pe_or (pe_cmpR op_lt (pe_ix ix_list (pv 3) pe_int (fun _ _ => rfl)) (pe_ix ix_list (pv 2) pe_int (fun _ _ => rfl)) (nomark _)) (pe_one (pe_cmpR op_lt (pe_ix ix_list (pv 3) pe_int (fun _ _ => rfl)) (pe_ix ix_list (pv 2) pe_int (fun _ _ => rfl)) (nomark _))))))))), ?_⟩)
  · obtain ⟨_, _, _, _, rfl, _⟩ := h
    rfl
  · obtain ⟨_, _, g1, g2, rfl, H1, H2, q⟩ := h
    obtain ⟨a, v1, v2, rfl, ha, ⟨a1, rfl, h1⟩, ⟨a2, rfl, h2⟩⟩ := id H1
    obtain ⟨b, u1, u2, rfl, hb, ⟨b1, rfl, k1⟩, ⟨b2, rfl, k2⟩⟩ := id H2
    refine ⟨_, rfl, _, _, _, _, rfl, rfl, .of ha, atI_nat (j := 1) rfl, _, _, _, _, rfl, rfl, .of h2, atI_nat (j := 0) rfl, _, rfl, _, _, _, _, rfl, rfl, .of hb, atI_nat (j := 0) rfl, _, _, _, _, rfl, rfl, .of k1, atI_nat (j := 0) rfl, _, _, rfl, rfl, _, rfl, ?_⟩
    refine orTs (fun z => ⟨_, rfl, _, _, _, _, rfl, rfl, .of hb, atI_nat (j := 1) rfl, _, _, _, _, rfl, rfl, .of k2, atI_nat (j := 0) rfl, _, rfl, _, _, _, _, rfl, rfl, .of ha, atI_nat (j := 0) rfl, _, _, _, _, rfl, rfl, .of h1, atI_nat (j := 0) rfl, _, _, rfl, rfl, _, rfl, z⟩) ?_
    by_cases c1 : g1.2.1 < g2.1.1 ∨ g2.2.1 < g1.1.1
    · refine itP c1 ?_
      have e : decide (Apart g1 g2) = true := decide_eq_true (by unfold Apart; exact c1.elim .inl fun z => .inr (.inl z))
      rw [e] at q
      exact q H (Same.refl H)
    · refine itN c1 ?_
      refine ⟨_, rfl, _, rfl, by show 2 ≤ sizeLine; decide, fun pt hpt => ⟨pt, rfl, ⟨_, .of upd_same⟩, fun D hD => ?_⟩⟩
      have s1 : Same H (upd H pt (.tup [.ref a, .ref b])) := sm_new hpt
      refine lows_run (g := fun i j => if j < i then j else i) (fun i j H Q q => ⟨i, j, rfl, q⟩) (H1.ms s1) (H2.ms s1) upd_same hD rfl fun H2' s2 e2 => ?_
      refine ⟨_, rfl, _, rfl, by show 2 ≤ sizeLine; decide, fun pt' hpt' => ⟨pt', rfl, ⟨_, .of upd_same⟩, fun D' hD' => ?_⟩⟩
      have s3 : Same H2' (upd H2' pt' (.tup [.ref a, .ref b])) := sm_new hpt'
      refine lows_run (g := fun i j => if j > i then j else i) (fun i j H Q q => ⟨i, j, rfl, q⟩) (((H1.ms s1).ms s2).ms s3) (((H2.ms s1).ms s2).ms s3) upd_same hD' rfl fun H4' s4 e4 => ?_
      have e2' := s4 _ _ (s3 _ _ e2)
      refine ⟨_, rfl, _, _, _, _, rfl, rfl, .of e4, atI_nat (j := 0) rfl, _, rfl, _, _, _, _, rfl, rfl, .of e2', atI_nat (j := 1) rfl, _, _, rfl, rfl, _, rfl, ?_⟩
      have q' := q H4' (((s1.trans s2).trans s3).trans s4)
      by_cases z : (if g1.2.2 > g1.1.2 then g1.2.2 else g1.1.2) < (if g2.2.2 < g2.1.2 then g2.2.2 else g2.1.2)
      · refine itP z ?_
        rw [ite_max, ite_min] at z
        rw [decide_eq_true (show Apart g1 g2 from .inr (.inr (.inl z)))] at q'
        exact q'
      · refine itN z ⟨_, rfl, _, _, _, _, rfl, rfl, .of e4, atI_nat (j := 1) rfl, _, rfl, _, _, _, _, rfl, rfl, .of e2', atI_nat (j := 0) rfl, _, _, rfl, rfl, ?_⟩
        show Q (.bl (decide ((if g2.2.2 > g2.1.2 then g2.2.2 else g2.1.2) < (if g1.2.2 < g1.1.2 then g1.2.2 else g1.1.2)))) H4'
        rw [ite_max, ite_min]
        rw [ite_max, ite_min] at z
        have e : decide (max g2.1.2 g2.2.2 < min g1.1.2 g1.2.2) = decide (Apart g1 g2) := by
          rw [Bool.eq_iff_iff, decide_eq_true_iff, decide_eq_true_iff]
          exact ⟨fun y => .inr (.inr (.inr y)), fun y => y.elim (fun y => absurd (.inl y) c1) fun y => y.elim (fun y => absurd (.inr y) c1) fun y => y.elim (fun y => absurd y z) id⟩
        rw [e]
        exact q'
/-! ### met, points_met -/
theorem sc_met : FnScope ["first", "second"] ["first", "second"] (defScope s_met) := ⟨rfl, rfl, rfl, by decide +kernel, rfl, by decide +kernel, by decide +kernel⟩
theorem ok_met (CA : Cal P w K mg base 1 "is_apart" ["first", "second"] spApart) (CM : Cal P w K mg base 5 "meeting" ["first", "second"] (spTold meet)) (F : FnP K "met" s_met f fd) : FnOk P w K mg base CX0 6 f fd ["first", "second"] (spTold met) := by
  refine F.ok sc_met (fun vs H Q E h => ?_) (fun cdv A outer s H vs Q E hr h => ⟨_, PSs.nox (pss_one (ps_ret (pe_ifExp (pt_val (pe_cal CA hr (by decide) rfl (pa_cons (pv 0) (pa_cons (pv 1) pa_nil)))) (pe_tup (pa_cons pe_str pa_nil)) (pe_cal CM hr (by decide) rfl (pa_cons (pv 0) (pa_cons (pv 1) pa_nil)))))), ?_⟩)
  · obtain ⟨_, _, _, _, rfl, _⟩ := h
    rfl
  · obtain ⟨v1, v2, g1, g2, rfl, h1, h2, ok1, ok2, q⟩ := h
    refine ⟨_, rfl, _, rfl, v1, v2, g1, g2, rfl, h1, h2, fun H1 s1 => ⟨_, rfl, ?_⟩⟩
    by_cases z : Apart g1 g2
    · have e : met g1 g2 = .none := if_pos z
      rw [e] at q
      exact itP z ⟨by show 1 ≤ sizeLine; decide, fun p hp => q _ _ (s1.trans (sm_new hp)) .none⟩
    · have e : met g1 g2 = meet g1 g2 := if_neg z
      rw [e] at q
      exact itN z ⟨_, rfl, _, rfl, v1, v2, g1, g2, rfl, h1.ms s1, h2.ms s1, ok1, ok2, fun H' v s2 t => q H' v (s1.trans s2) t⟩
theorem lowest_bd {n d : Int} (hd : d ≠ 0) (hb : d.natAbs ≤ 16000000) : (lowest n d).2 ≠ 0 ∧ (lowest n d).2.natAbs < 536870912 := by
  obtain ⟨g, g0, _, e, h⟩ := lowest_spec n d hd
  refine ⟨by omega, ?_⟩
  have m : d.natAbs = g.natAbs * (lowest n d).2.natAbs := by rw [← Int.natAbs_mul, ← e]
  have g1 : 1 ≤ g.natAbs := by omega
  have := Nat.mul_le_mul_right (lowest n d).2.natAbs g1
  omega
theorem met_cross {s t : Sg} (hs : Ok s) (ht : Ok t) {x y : Int × Int} (h : met s t = .cross x y) : (x.2 ≠ 0 ∧ x.2.natAbs < 536870912) ∧ (y.2 ≠ 0 ∧ y.2.natAbs < 536870912) := by
  have b1 := turn_bd ht.1 ht.2.1 hs.1
  have b2 := turn_bd ht.1 ht.2.1 hs.2.1
  unfold met at h
  split at h
  · cases h
  · unfold meet at h
    simp only at h
    split at h
    · unfold onLine at h
      split at h
      · cases h
      · split at h <;> cases h
    · split at h
      · cases h
      · rename_i hbs
        split at h
        · cases h
        · split at h
          · cases h
          · split at h
            · cases h
            · rename_i a0
              split at h
              · cases h
              · have w := side_ne hbs a0
                generalize turn t.1 t.2 s.1 = a at *
                generalize turn t.1 t.2 s.2 = b at *
                have wb : (a - b).natAbs ≤ 16000000 := by clear h hbs; omega
                cases h
                exact ⟨lowest_bd w wb, lowest_bd w wb⟩
theorem sc_points_met : FnScope ["first", "second", "told"] ["first", "second"] (defScope s_points_met) := ⟨rfl, rfl, rfl, by decide +kernel, rfl, by decide +kernel, by decide +kernel⟩
def spPts : Sp := fun vs H Q _ => ∃ (v1 v2 : V) (s t : Sg), vs = [v1, v2] ∧ SgV H v1 s ∧ SgV H v2 t ∧ Ok s ∧ Ok t ∧ ∀ H' l us, Same H H' → H' l = some (.lst us) → PtVs H' us (ptsMet s t) → Q (.ref l) H'
theorem strT {i j : Str} {A B : Prop} (h : i = j) (a : A) : if decide (V.str i = V.str j) = true then A else B := by subst h; rw [if_pos (decide_eq_true rfl)]; exact a
theorem strF {i j : Str} {A B : Prop} (h : i ≠ j) (b : B) : if decide (V.str i = V.str j) = true then A else B := by rw [if_neg (by simpa using h)]; exact b
theorem ok_points_met (T : Nm mg) (CM : Cal P w K mg base 6 "met" ["first", "second"] (spTold met)) (CN : Cal P w K mg base 1 "nearest" ["fraction"] spNearest) (F : FnP K "points_met" s_points_met f fd) : FnOk P w K mg base CX0 7 f fd ["first", "second"] spPts := by
  refine F.ok sc_points_met (fun vs H Q E h => ?_) (fun cdv A outer s H vs Q E hr h => ⟨_, PSs.nox (pss_cons (ps_set (i := 2) sc_points_met.nd rfl (.inl rfl) (pe_cal CM hr (by decide) rfl (pa_cons (pv 0) (pa_cons (pv 1) pa_nil))))
    (pss_cons (ps_if (pt_cmpR op_eq (pe_ix ix_tup (pv 2) pe_int (fun _ _ => rfl)) pe_str (nomark _)) (pss_one (ps_ret (pe_lst (pa_cons (pe_tup (pa_cons (pe_cal CN hr (by decide) rfl (pa_cons (pe_ix ix_tup (pv 2) pe_int (fun _ _ => rfl)) pa_nil)) (pa_cons (pe_cal CN hr (by decide) rfl (pa_cons (pe_ix ix_tup (pv 2) pe_int (fun _ _ => rfl)) pa_nil)) pa_nil))) pa_nil)))) pss_nil)
    (pss_one (ps_ret (pe_ifExp (pt_cmpR op_eq (pe_ix ix_tup (pv 2) pe_int (fun _ _ => rfl)) pe_str (nomark _)) (pe_lst pa_nil) (pe_callTy call_list_of rfl T.list (by decide +kernel) (pa_cons (pe_slice sl_tup (pv 2) (po_some pe_int) po_none) pa_nil))))))), ?_⟩)
  · obtain ⟨_, _, _, _, rfl, _⟩ := h
    rfl
  · obtain ⟨v1, v2, g1, g2, rfl, h1, h2, ok1, ok2, q⟩ := h
    refine ⟨_, rfl, _, rfl, v1, v2, g1, g2, rfl, h1, h2, ok1, ok2, fun H1 v s1 tv => ?_⟩
    have hcr := fun x y => met_cross (x := x) (y := y) ok1 ok2
    unfold ptsMet at q
    generalize met g1 g2 = m at tv q hcr
    cases m with
    | none =>
      obtain ⟨a, rfl, ha⟩ := tv
      refine ⟨_, rfl, _, _, _, _, rfl, rfl, .of ha, atI_nat (j := 0) rfl, rfl, _, rfl, strF (by decide +kernel) ?_⟩
      refine ⟨_, rfl, _, _, _, _, rfl, rfl, .of ha, atI_nat (j := 0) rfl, rfl, _, rfl, strT rfl ?_⟩
      exact ⟨Nat.zero_le _, fun l hl => q _ _ _ (s1.trans (sm_new hl)) upd_same .nil⟩
    | touch p =>
      obtain ⟨a, u, rfl, ha, hu⟩ := tv
      refine ⟨_, rfl, _, _, _, _, rfl, rfl, .of ha, atI_nat (j := 0) rfl, rfl, _, rfl, strF (by decide +kernel) ?_⟩
      refine ⟨_, rfl, _, _, _, _, rfl, rfl, .of ha, atI_nat (j := 0) rfl, rfl, _, rfl, strF (by decide +kernel) ?_⟩
      refine ⟨_, rfl, 1, rfl, a, _, rfl, .of ha, fun z => absurd z.1 (by show ¬ HT.sIx 2 0 (some 1) = 0; decide), fun c hc => ⟨c, _, rfl, .inr (.of upd_same), fun l hl => ?_⟩⟩
      have s2 := sm_new (o := .tup (cutV [.str "touch", u] (some 1) none)) hc
      have s3 := sm_new (o := .lst (cutV [.str "touch", u] (some 1) none)) hl
      exact q _ _ [u] ((s1.trans s2).trans s3) upd_same (.cons ((hu.ms s2).ms s3) .nil)
    | overlap p p' =>
      obtain ⟨a, u, z, rfl, ha, hu, hz⟩ := tv
      refine ⟨_, rfl, _, _, _, _, rfl, rfl, .of ha, atI_nat (j := 0) rfl, rfl, _, rfl, strF (by decide +kernel) ?_⟩
      refine ⟨_, rfl, _, _, _, _, rfl, rfl, .of ha, atI_nat (j := 0) rfl, rfl, _, rfl, strF (by decide +kernel) ?_⟩
      refine ⟨_, rfl, 1, rfl, a, _, rfl, .of ha, fun z => absurd z.1 (by show ¬ HT.sIx 3 0 (some 1) = 0; decide), fun c hc => ⟨c, _, rfl, .inr (.of upd_same), fun l hl => ?_⟩⟩
      have s2 := sm_new (o := .tup (cutV [.str "overlap", u, z] (some 1) none)) hc
      have s3 := sm_new (o := .lst (cutV [.str "overlap", u, z] (some 1) none)) hl
      exact q _ _ [u, z] ((s1.trans s2).trans s3) upd_same (.cons ((hu.ms s2).ms s3) (.cons ((hz.ms s2).ms s3) .nil))
    | cross x y =>
      obtain ⟨a, u, z, rfl, ha, hu, hz⟩ := tv
      obtain ⟨⟨x0, xb⟩, ⟨y0, yb⟩⟩ := hcr x y rfl
      refine ⟨_, rfl, _, _, _, _, rfl, rfl, .of ha, atI_nat (j := 0) rfl, rfl, _, rfl, strT rfl ?_⟩
      refine ⟨_, rfl, _, _, _, _, rfl, rfl, .of ha, atI_nat (j := 1) rfl, u, x, rfl, hu, x0, xb, ?_⟩
      refine ⟨_, rfl, _, _, _, _, rfl, rfl, .of ha, atI_nat (j := 2) rfl, z, y, rfl, hz, y0, yb, ?_⟩
      refine ⟨by show 2 ≤ sizeLine; decide, fun c hc => ⟨by show 1 ≤ sizeLine; decide, fun l hl => ?_⟩⟩
      have s2 := sm_new (o := .tup [.int (nearest x), .int (nearest y)]) hc
      have s3 := sm_new (o := .lst [.ref c]) hl
      exact q _ _ [.ref c] ((s1.trans s2).trans s3) upd_same (.cons ⟨c, rfl, s3 _ _ upd_same⟩ .nil)
end
end K25

set_option Elab.async false
set_option linter.all false
set_option maxRecDepth 100000
set_option maxHeartbeats 4000000
/-! The walk, six: check_segments, unlike, along. Own text. -/
namespace K25
open PySem PySem.Spec PyProof.Rows L2 K25S
section
variable {P : Program} {w : World} {K : PySem.W.Frag} {mg : Str → Option Value} {base : Heap} {f : Addr} {fd : FuncData}
theorem sc_check_segments : FnScope ["segments", "segment"] ["segments"] (defScope s_check_segments) := ⟨rfl, rfl, rfl, by decide +kernel, rfl, by decide +kernel, by decide +kernel⟩
theorem paired_get {α β : Type} {F : α → β → Prop} : ∀ {l : List α} {m : List β} {i : Nat} {x : α}, Paired F l m → l[i]? = some x → ∃ y, m[i]? = some y ∧ F x y
  | _, _, i, x, .nil, e => by simp at e
  | _, _, 0, x, .cons r t, e => by simp at e; subst e; exact ⟨_, rfl, r⟩
  | _, _, i + 1, x, .cons r t, e => by
    obtain ⟨y, h1, h2⟩ := paired_get (i := i) t (by simpa using e)
    exact ⟨y, by simpa using h1, h2⟩
theorem paired_get' {α β : Type} {F : α → β → Prop} : ∀ {l : List α} {m : List β} {i : Nat} {y : β}, Paired F l m → m[i]? = some y → ∃ x, l[i]? = some x ∧ F x y
  | _, _, i, x, .nil, e => by simp at e
  | _, _, 0, x, .cons r t, e => by simp at e; subst e; exact ⟨_, rfl, r⟩
  | _, _, i + 1, x, .cons r t, e => by
    obtain ⟨y, h1, h2⟩ := paired_get' (i := i) t (by simpa using e)
    exact ⟨y, by simpa using h1, h2⟩
theorem SgVs.ms {H H' : Hp} (s : Same H H') {vs : List V} {gs : List Sg} (h : SgVs H vs gs) : SgVs H' vs gs := h.mono (Tps.of s)
theorem PtVs.ms {H H' : Hp} (s : Same H H') {vs : List V} {gs : List Pt} (h : PtVs H vs gs) : PtVs H' vs gs := h.mono (Tps.of s)
def spChks : Sp := fun vs H Q _ => ∃ (a : Addr) (us : List V) (gs : List Sg), vs = [.ref a] ∧ H a = some (.tup us) ∧ SgVs H us gs ∧ (∀ g ∈ gs, Ok g) ∧ gs.length ≤ 40 ∧ ∀ H', Same H H' → Q .non H'
theorem ok_check_segments (T : Nm mg) (CS : Cal P w K mg base 3 "is_segment" ["value"] spIsSeg) (F : FnP K "check_segments" s_check_segments f fd) : FnOk P w K mg base CX0 4 f fd ["segments"] spChks := by
  obtain ⟨t, hF⟩ := T.segs
  refine F.ok sc_check_segments (fun vs H Q E h => ?_) (fun cdv A outer s H vs Q E hr h => ⟨_, PSs.nox (pss_cons (ps_if (PW.pt (pw_or (pt_not (pt_val (pe_callB call_isi rfl T.isi (by decide +kernel) (pa_cons (pv 0) (pa_cons (pe_bltn (v := .ty "tuple") rfl T.tuple (by decide +kernel) rfl) pa_nil)))))
      (pw_or1 (pt_cmpR op_gt (pe_callB call_len_seq rfl T.len boot_len (pa_cons (pv 0) pa_nil)) (pe_glob (v := .int 40) rfl hF ⟨_, rfl⟩) (nomark _))))) pss_never pss_nil)
    (pss_one (ps_if (pt_not (pt_val (pe_callB (cr_all rfl) rfl T.all (by decide +kernel) (pa_cons (pe_lc (own := [("segment", 1)]) (g := gName 1) (tt := tYes) rfl sc_check_segments.nd (pi_tup (pv 0)) (blkOk_by (N := ["segments", "segment"]) (sc := defScope s_check_segments) (by decide +kernel))
      (fun _ _ _ _ _ => pg_name (i := 1) sc_check_segments.nd rfl (Or.inl rfl)) (fun _ _ _ _ _ => pts_nil)
      (fun _ _ _ _ _ => pe_cal CS hr (by decide) rfl (pa_cons (pv 1) pa_nil))) pa_nil)))) pss_never pss_nil))), ?_⟩)
  · obtain ⟨_, _, _, rfl, _⟩ := h
    rfl
  · obtain ⟨a, us, gs, rfl, ha, hv, ok, hl, q⟩ := h
    have lu : us.length = gs.length := Paired.length hv
    refine ⟨_, rfl, _, _, _, _, _, rfl, .ty _, .base (.tup ha), kit_ty (r := true) (by decide +kernel), _, rfl, iteF ?_⟩
    refine ⟨_, rfl, _, _, rfl, .inr (.of ha), _, _, rfl, rfl, _, rfl, itN (by omega) ?_⟩
    refine ⟨_, rfl, a, rfl, ⟨_, .of ha⟩, fun D hD => ?_⟩
    refine lc_tup (K := K) (a := a) (xs := us) (fun i H' => Same H H' ∧ H' D = some (.lst (List.replicate i (.bl true)))) ⟨sm_new hD, upd_same⟩ (fun i H' _ h => .of (h.1 _ _ ha)) (fun i x H' hx ⟨sm, e⟩ => ?_) (fun H' ⟨sm, e⟩ => ?_)
    · refine ⟨rfl, ?_⟩
      obtain ⟨g, hg, hxg⟩ := paired_get hv hx
      have hi : i < 40 := Nat.lt_of_lt_of_le (Nat.lt_of_lt_of_eq (List.getElem?_eq_some_iff.mp hx).1 lu) hl
      refine ⟨_, rfl, x, g, rfl, hxg.ms sm, ok g (List.mem_of_getElem? hg), fun H2 s2 => ?_⟩
      refine ⟨_, s2 _ _ e, by rw [List.length_replicate]; exact Nat.lt_of_lt_of_le hi (by show 40 ≤ sizeLine; decide), fun b o h => ?_, ?_⟩
      · rw [upd_ne (ne_of_none h hD)]
        exact s2 _ _ (sm _ _ h)
      · rw [upd_same, List.replicate_succ']
    · have e1 : (List.replicate us.length true).all id = true := by simp
      refine ⟨D, List.replicate us.length true, rfl, .inl (.inl (by rw [e, List.map_replicate])), _, rfl, ?_⟩
      rw [e1]
      exact iteF (q _ sm)
/-! ### unlike -/
theorem sc_unlike : FnScope ["segments"] ["segments"] (defScope s_unlike) := ⟨rfl, rfl, rfl, by decide +kernel, rfl, by decide +kernel, by decide +kernel⟩
def spUnlike (K : PySem.W.Frag) : Sp := fun vs H Q _ => ∃ (a : Addr) (us : List V) (gs : List Sg), vs = [.ref a] ∧ (SqL K H a us ∨ SqT K H a us) ∧ SgVs H us gs ∧ gs.length ≤ 300 ∧
  ∀ H' p us' gs', Same H H' → H' p = some (.tup us') → SgVs H' us' gs' → gs'.Pairwise SLt → (∀ g, g ∈ gs' ↔ g ∈ gs) → Q (.ref p) H'
theorem pw_slt {gs : List Sg} (h : gs.Pairwise fun a b => sgLe a b = true) (nd : gs.Nodup) : gs.Pairwise SLt := by
  have h2 := h.and nd
  refine h2.imp fun {a b} ⟨x, y⟩ => ?_
  rw [sgLe_iff] at x
  by_cases z : SLt a b
  · exact z
  · exact absurd (SLt.total z x) y
theorem ok_unlike (T : Nm mg) (F : FnP K "unlike" s_unlike f fd) : FnOk P w K mg base CX0 1 f fd ["segments"] (spUnlike K) := by
  refine F.ok sc_unlike (fun vs H Q E h => ?_) (fun cdv A outer s H vs Q E hr h => ⟨_, PSs.nox (pss_one (ps_ret (pe_callTy call_tuple_of rfl T.tuple (by decide +kernel) (pa_cons (pe_callB (cr_sortedG hr.units) rfl T.sorted (by decide +kernel) (pa_cons (pe_callTy (cr_setOf rfl hr.units) rfl T.set (by decide +kernel) (pa_cons (pv 0) pa_nil)) pa_nil)) pa_nil)))), ?_⟩)
  · obtain ⟨_, _, _, rfl, _⟩ := h
    rfl
  · obtain ⟨a, us, gs, rfl, hq, hv, hl, q⟩ := h
    refine ⟨_, rfl, a, us, gs, rfl, hq, hv, hl, fun st L hst hL mem nd len => ?_⟩
    have s1 : Same H (upd H st (SetO w st L)) := sm_new hst
    let zs : List (V × Sg) := L.map fun p => (V.ref p.1, p.2)
    have e1 : zs.map (·.1) = L.map fun p => V.ref p.1 := by simp [zs]
    have e2 : zs.map (·.2) = L.map (·.2) := by simp [zs]
    refine ⟨st, zs, rfl, ?_, fun z hz => ?_, ?_, fun zs' l pm pw hl' => ?_⟩
    · rw [e1]
      exact coll_set rfl upd_same
    · obtain ⟨p, hp, rfl⟩ := List.mem_map.mp hz
      exact ((hL p hp).ms s1).dp
    · rw [List.length_map]
      exact Nat.le_trans len (by decide)
    · refine ⟨l, _, rfl, .inl ⟨.of upd_same, fun tp htp => ?_⟩⟩
      have s2 := sm_new (o := .lst (zs'.map (·.1))) hl'
      have s3 := sm_new (o := .tup (zs'.map (·.1))) htp
      have pm2 : (zs'.map (·.2)).Perm (L.map (·.2)) := by rw [← e2]; exact pm.map _
      refine q _ _ (zs'.map fun z : V × Sg => z.1) (zs'.map fun z : V × Sg => z.2) ((s1.trans s2).trans s3) upd_same (paired_of zs' fun z hz => ?_) (pw_slt (List.pairwise_map.mpr pw) (pm2.nodup_iff.mpr nd)) fun g => ?_
      · obtain ⟨p, hp, rfl⟩ := List.mem_map.mp (pm.mem_iff.mp hz)
        exact (((hL p hp).ms s1).ms s2).ms s3
      · rw [pm2.mem_iff]
        exact mem g
end
end K25

set_option Elab.async false
set_option linter.all false
set_option maxRecDepth 100000
set_option maxHeartbeats 4000000
/-! The walk, seven: along. Own text. -/
namespace K25
open PySem PySem.Spec PyProof.Rows L2 K25S LamX
abbrev TA (PT : Addr) : List (Addr × Str) := [(PT, ("along" : Str) ++ ".<locals>." ++ "<lambda>")]
theorem tps_ext {H H' : Hp} (e : ExtN H H') : Tps H H' := fun b xs h => e b _ h (fun q z => by cases z)
section
variable {P : Program} {w : World} {K : PySem.W.Frag} {mg : Str → Option Value} {base : Heap} {f : Addr} {fd : FuncData}
theorem sc_along : FnScope ["segment", "points", "sign"] ["segment", "points"] (defScope s_along) := ⟨rfl, rfl, rfl, by decide +kernel, rfl, by decide +kernel, by decide +kernel⟩
def spAlong (PT : Addr) : Sp := fun vs H Q _ => ∃ (v : V) (d : Addr) (g : Sg) (ps : List Pt), vs = [v, .ref d] ∧ SgV H v g ∧ H d = some (.dT (ps.map ptK)) ∧ ps.length ≤ 1000 ∧ (∀ p ∈ ps, Far p) ∧ Tabs (TA PT) H ∧
  ∀ H' l us qs, ExtN H H' → Tabs (TA PT) H' → H' l = some (.lst us) → PtVs H' us qs → qs.Perm ps → qs.Pairwise (fun a b => ¬ KLt (sgn g) b a) → Q (.ref l) H'
theorem ok_along (T : Nm mg) (F : FnP K "along" s_along f fd) {c PT : Addr} (hcode : fd.code = .ref c) (TB : TabB base mg c PT) : FnOk P w K mg base CX0 2 f fd ["segment", "points"] (spAlong PT) := by
  obtain ⟨oc, od, dV, kV, doc, pm, an, cdv, ct, osl, rfl, lk, hcd, _, _⟩ := F.ex
  have hcode : cdv = .ref c := hcode
  subst hcode
  refine fn_of lk hcd sc_along (fun vs H Q E h => ?_) fun A outer s H vs Q E hr h => ⟨_, PSs.nox (pss_cons (ps_set (i := 2) sc_along.nd rfl (.inr rfl) (pe_ifExp (pt_cmpR op_ge (pe_ix ix_tup (pe_ix ix_tup (pv 0) pe_int (fun _ _ => rfl)) pe_int (fun _ _ => rfl)) (pe_ix ix_tup (pe_ix ix_tup (pv 0) pe_int (fun _ _ => rfl)) pe_int (fun _ _ => rfl)) (nomark _)) pe_int (pe_un un_neg pe_int)))
    (pss_one (ps_ret (pe_sortk (j := 2) rfl hr.units hr.depth TB rfl ⟨rfl, rfl, rfl, rfl⟩ rfl rfl rfl T.sorted (pa_cons (pv 1) pa_nil))))), ?_⟩
  · obtain ⟨_, _, _, _, rfl, _⟩ := h
    rfl
  · obtain ⟨v, d, g, ps, rfl, ⟨a, v1, v2, rfl, ha, ⟨a1, rfl, h1⟩, ⟨a2, rfl, h2⟩⟩, hd, hl, far, hT, q⟩ := h
    refine ⟨_, rfl, _, _, _, _, rfl, rfl, .of ha, atI_nat (j := 1) rfl, _, _, _, _, rfl, rfl, .of h2, atI_nat (j := 1) rfl, _, rfl, _, _, _, _, rfl, rfl, .of ha, atI_nat (j := 0) rfl, _, _, _, _, rfl, rfl, .of h1, atI_nat (j := 1) rfl, _, _, rfl, rfl, _, rfl, ?_⟩
    have fin : ∀ z : Int, z = sgn g → tRet (tSortK (cxOf CX0 P w K mg base ["segment", "points", "sign"] "along" (defScope s_along) f (.ref c) A outer s H E).nox PT 2 (tVar 1)) { nx := fun _ H' => Q .non H', rt := Q } [some (.ref a), some (.ref d), some (.int z)] H := fun z hz => by
      subst hz
      refine ⟨_, rfl, d, ps, sgn g, rfl, hd, hl, fun p hp => ?_, rfl, hT, fun H2 l vs qs e hT2 hl2 hqs pm pw => ?_⟩
      · have := far p hp
        unfold Far at this
        omega
      · have n : ExtN H (upd H2 l (.lst vs)) := fun b o hb ho => by rw [upd_ne (ne_of_none (e b o hb ho) hl2)]; exact e b o hb ho
        have s2 : Same H2 (upd H2 l (.lst vs)) := sm_new hl2
        exact q _ l vs qs n (hT2.ext s2) upd_same (hqs.ms s2) pm pw
    by_cases z : g.2.2 ≥ g.1.2
    · refine itP z (fin 1 ?_)
      unfold sgn
      rw [if_pos z]
    · refine itN z ⟨_, rfl, fin (-1) ?_⟩
      unfold sgn
      rw [if_neg z]
end
end K25

set_option Elab.async false
set_option linter.all false
set_option maxRecDepth 100000
set_option maxHeartbeats 4000000
/-! The walk, eight: pieces, cut_up. Own text. -/
namespace K25
open PySem PySem.Spec PyProof.Rows L2 K25S
section
variable {P : Program} {w : World} {K : PySem.W.Frag} {mg : Str → Option Value} {base : Heap} {f : Addr} {fd : FuncData}
theorem sc_pieces : FnScope ["points", "at"] ["points"] (defScope s_pieces) := ⟨rfl, rfl, rfl, by decide +kernel, rfl, by decide +kernel, by decide +kernel⟩
def spPieces : Sp := fun vs H Q _ => ∃ (l : Addr) (us : List V) (ps : List Pt), vs = [.ref l] ∧ H l = some (.lst us) ∧ PtVs H us ps ∧ 1 ≤ ps.length ∧ ps.length ≤ 1000 ∧ ∀ H' m vs', Same H H' → H' m = some (.lst vs') → SgVs H' vs' (pcs ps) → Q (.ref m) H'
theorem pcs_get : ∀ {ps : List Pt} {i : Nat} {p q : Pt}, ps[i]? = some p → ps[i + 1]? = some q → (pcs ps)[i]? = some (sg p q)
  | [], _, _, _, h, _ => by simp at h
  | [_], 0, _, _, _, h => by simp at h
  | [_], i + 1, _, _, h, _ => by simp at h
  | a :: b :: r, 0, p, q, h, k => by
    have h : a = p := by simpa using h
    have k : b = q := by simpa using k
    subst h k
    rfl
  | a :: b :: r, i + 1, p, q, h, k => by
    show (sg a b :: pcs (b :: r))[i + 1]? = _
    rw [List.getElem?_cons_succ]
    exact pcs_get (ps := b :: r) (by simpa using h) (by simpa using k)
theorem pcs_len : ∀ (ps : List Pt), (pcs ps).length = ps.length - 1
  | [] => rfl
  | [_] => rfl
  | a :: b :: r => by
    show (sg a b :: pcs (b :: r)).length = _
    rw [List.length_cons, pcs_len (b :: r)]
    simp
theorem cut2 {us : List V} {i : Nat} {x y : V} (hx : us[i]? = some x) (hy : us[i + 1]? = some y) : cutV us (some (0 + (i : Int))) (some (0 + (i : Int) + 2)) = [x, y] := by
  have hl : i + 1 < us.length := (List.getElem?_eq_some_iff.mp hy).1
  have e1 : (0 + (i : Int)) = ((i : Nat) : Int) := by omega
  have e2 : (0 + (i : Int) + 2) = ((i + 2 : Nat) : Int) := by omega
  unfold cutV
  rw [e2, e1, HT.sIx_nat, HT.sIx_nat, Nat.min_eq_left (by omega), Nat.min_eq_left (by omega), show i + 2 - i = 2 by omega]
  refine List.ext_getElem? fun j => ?_
  rw [List.getElem?_take, List.getElem?_drop]
  match j with
  | 0 => simpa using hx
  | 1 => simpa using hy
  | j + 2 =>
    simp
    omega
theorem perm_two {α : Type} {x y : α} {l : List α} (h : l.Perm [x, y]) : l = [x, y] ∨ l = [y, x] := by
  have hl := h.length_eq
  match l, hl with
  | [a, b], _ =>
    have ha : a ∈ [x, y] := h.mem_iff.mp (by simp)
    rcases List.mem_cons.mp ha with rfl | ha
    · have := (List.perm_cons a).mp h
      rw [List.perm_singleton.mp this] 
      exact .inl rfl
    · have e : a = y := by simpa using ha
      subst e
      have h2 : [a, b].Perm [a, x] := h.trans (List.Perm.swap a x [])
      have := (List.perm_cons a).mp h2
      rw [List.perm_singleton.mp this]
      exact .inr rfl
/-- two points sorted, as a tuple: the segment between them -/
theorem two_sorted {H : Hp} {x y : V} {p q : Pt} (hx : PtV H x p) (hy : PtV H y q) {zs : List (V × Pt)} (pm : zs.Perm [(x, p), (y, q)]) (pw : zs.Pairwise fun a b => ptLe a.2 b.2 = true) : ∃ u z, zs.map (·.1) = [u, z] ∧ PtV H u (sg p q).1 ∧ PtV H z (sg p q).2 := by
  rcases perm_two pm with rfl | rfl
  · have h : ptLe p q = true := by simpa using pw
    rw [ptLe_iff] at h
    exact ⟨x, y, rfl, by unfold sg; rw [if_neg h]; exact hx, by unfold sg; rw [if_neg h]; exact hy⟩
  · have h : ptLe q p = true := by simpa using pw
    rw [ptLe_iff] at h
    by_cases z : PLt q p
    · exact ⟨y, x, rfl, by unfold sg; rw [if_pos z]; exact hy, by unfold sg; rw [if_pos z]; exact hx⟩
    · have e : p = q := PLt.total h z
      subst e
      exact ⟨y, x, rfl, by unfold sg; rw [if_neg h]; exact hy, by unfold sg; rw [if_neg h]; exact hx⟩
theorem paired_app {α β : Type} {F : α → β → Prop} : ∀ {l l' : List α} {m m' : List β}, Paired F l m → Paired F l' m' → Paired F (l ++ l') (m ++ m')
  | _, _, _, _, .nil, h => h
  | _, _, _, _, .cons r t, h => .cons r (paired_app t h)
/-- sorted of a list or a tuple of points -/
def rSortL (K : PySem.W.Frag) : List V → Hp → VK → Prop := fun vs H Q => ∃ (a : Addr) (zs : List (V × Pt)), vs = [.ref a] ∧ (SqL K H a (zs.map (·.1)) ∨ SqT K H a (zs.map (·.1))) ∧ (∀ z ∈ zs, PtV H z.1 z.2) ∧ zs.length ≤ sizeLine ∧
  ∀ (zs' : List (V × Pt)) (p : Addr), zs'.Perm zs → zs'.Pairwise (fun a b => ptLe a.2 b.2 = true) → H p = none → Q (.ref p) (upd H p (.lst (zs'.map (·.1))))
theorem cr_sortL {X : Cx} (e : X.K = K) (hu : X.A.units + 64 < cLine) : CallR X (.builtin "sorted") (rSortL K) := by
  subst e
  intro pins s σ H vs us Q I r ⟨a, zs, ev, hs, hz, hl, q⟩
  exact cr_sortedP hu pins s σ H vs us Q I r ⟨a, zs, ev, coll_seq hs, fun z hz' => (hz z hz').dp, hl, q⟩
theorem call_tupK {X : Cx} (e : X.K = K) : CallR X (.type "tuple") (fun xs H Q => ∃ p ys, xs = [.ref p] ∧ ((SqL K H p ys ∧ ∀ l, H l = none → Q (.ref l) (upd H l (.tup ys))) ∨ (SqT K H p ys ∧ Q (.ref p) H))) := by
  subst e
  exact call_tuple_of
theorem sl_listK {X : Cx} (e : X.K = K) : SlR X (rSlL K) := by
  subst e
  exact sl_list
theorem ok_pieces (T : Nm mg) (F : FnP K "pieces" s_pieces f fd) : FnOk P w K mg base CX0 1 f fd ["points"] spPieces := by
  refine F.ok sc_pieces (fun vs H Q E h => ?_) (fun cdv A outer s H vs Q E hr h => ⟨_, PSs.nox (pss_one (ps_ret (pe_lc (own := [("at", 1)]) (g := gName 1) (tt := tYes) rfl sc_pieces.nd (pi_range1 rfl T.range (pa_cons (pe_op op_sub (pe_callB call_len_seq rfl T.len boot_len (pa_cons (pv 0) pa_nil)) pe_int) pa_nil)) (blkOk_by (N := ["points", "at"]) (sc := defScope s_pieces) (by decide +kernel))
      (fun _ _ _ _ _ => pg_name (i := 1) sc_pieces.nd rfl (Or.inl rfl)) (fun _ _ _ _ _ => pts_nil)
      (fun _ _ _ _ _ => pe_callTy (call_tupK (K := K) rfl) rfl T.tuple (by decide +kernel) (pa_cons (pe_callB (cr_sortL (K := K) rfl hr.units) rfl T.sorted (by decide +kernel) (pa_cons (pe_slice (sl_listK (K := K) rfl) (pv 0) (po_some (pv 1)) (po_some (pe_op op_add (pv 1) pe_int))) pa_nil)) pa_nil))))), ?_⟩)
  · obtain ⟨_, _, _, rfl, _⟩ := h
    rfl
  · obtain ⟨l, us, ps, rfl, hl, hv, l1, l2, q⟩ := h
    have lu : us.length = ps.length := Paired.length hv
    refine ⟨_, rfl, _, _, rfl, .inl (.of hl), _, _, rfl, rfl, _, rfl, by omega, by omega, fun D hD => ?_⟩
    have en : ((us.length : Int) - 1).toNat = us.length - 1 := by omega
    refine lc_range (lo := 0) (n := ((us.length : Int) - 1).toNat) (fun i H' => ∃ vs', Same H H' ∧ H' D = some (.lst vs') ∧ SgVs H' vs' ((pcs ps).take i)) ⟨[], sm_new hD, upd_same, .nil⟩ (fun i H' hi ⟨vs', sm, e, hvs⟩ => ?_) (fun H' ⟨vs', sm, e, hvs⟩ => ?_)
    · rw [en] at hi
      refine ⟨rfl, ?_⟩
      have hp : ps[i]? = some ps[i] := List.getElem?_eq_getElem (by omega)
      have hq : ps[i + 1]? = some ps[i + 1] := List.getElem?_eq_getElem (by omega)
      obtain ⟨x, hx, px⟩ := paired_get' hv hp
      obtain ⟨y, hy, py⟩ := paired_get' hv hq
      refine ⟨_, rfl, _, rfl, _, rfl, _, rfl, _, _, rfl, rfl, _, rfl, l, us, rfl, .of (sm _ _ hl), fun c hc => ?_⟩
      have s1 := sm_new (o := .lst (cutV us (some (0 + (i : Int))) (some (0 + (i : Int) + 2)))) hc
      have px1 := (px.ms sm).ms s1
      have py1 := (py.ms sm).ms s1
      refine ⟨c, [(x, ps[i]), (y, ps[i + 1])], rfl, .inl (.of (by rw [upd_same, cut2 hx hy]; rfl)), fun z hz => ?_, by show 2 ≤ sizeLine; decide, fun zs' d pm pw hd => ?_⟩
      · simp only [List.mem_cons, List.not_mem_nil, or_false] at hz
        rcases hz with rfl | rfl
        · exact px1
        · exact py1
      · obtain ⟨u, z, ez, hu, hz⟩ := two_sorted px1 py1 pm pw
        rw [ez]
        have s2 := sm_new (o := .lst [u, z]) hd
        refine ⟨d, _, rfl, .inl ⟨.of upd_same, fun t ht => ?_⟩⟩
        have s3 := sm_new (o := .tup [u, z]) ht
        have s123 := ((s1.trans s2).trans s3)
        have hsg : SgV (upd (upd (upd H' c (.lst (cutV us (some (0 + (i : Int))) (some (0 + (i : Int) + 2))))) d (.lst [u, z])) t (.tup [u, z])) (.ref t) (sg ps[i] ps[i + 1]) := ⟨t, u, z, rfl, upd_same, (hu.ms s2).ms s3, (hz.ms s2).ms s3⟩
        have fr : ∀ b o, (upd (upd (upd H' c (.lst (cutV us (some (0 + (i : Int))) (some (0 + (i : Int) + 2))))) d (.lst [u, z])) t (.tup [u, z])) b = some o → True := fun _ _ _ => trivial
        have lv : vs'.length = i := by
          rw [Paired.length hvs, List.length_take, pcs_len]
          omega
        refine ⟨vs', s123 _ _ e, by rw [lv]; exact Nat.lt_of_lt_of_le (show i < 1000 by omega) (by decide), vs' ++ [.ref t], fun b o h => ?_, upd_same, ?_⟩
        · rw [upd_ne (ne_of_none h hD)]
          exact s123 _ _ (sm _ _ h)
        · rw [List.take_add_one, pcs_get hp hq]
          have tp : Tps (upd (upd (upd H' c (.lst (cutV us (some (0 + (i : Int))) (some (0 + (i : Int) + 2))))) d (.lst [u, z])) t (.tup [u, z])) _ := Tps.set (o := .lst (vs' ++ [.ref t])) (s123 _ _ e) (fun xs z => by cases z)
          exact paired_app ((hvs.ms s123).mono tp) (.cons (hsg.mono tp) .nil)
    · refine q H' D vs' sm e ?_
      rw [en, lu, ← pcs_len, List.take_length] at hvs
      exact hvs
end
end K25

set_option Elab.async false
set_option linter.all false
set_option maxRecDepth 100000
set_option maxHeartbeats 4000000
/-! The walk, nine: cut_up. Own text. -/
namespace K25
open PySem PySem.Spec PyProof.Rows L2 K25S
/-- the dict of the cuts: its rows R, under each segment a list of its points -/
def CutsD (P : Program) (w : World) (H : Hp) (D : Addr) (R : Rows) (c : Sg → List Pt) : Prop := Dc P w H D R ∧ ∀ r ∈ R, ∃ l ps, r.2.2 = .ref l ∧ H l = some (.lst ps) ∧ PtVs H ps (c r.2.1)
theorem Dc.ms {P : Program} {w : World} {H H' : Hp} {D : Addr} {R : Rows} (s : Same H H') (h : Dc P w H D R) : Dc P w H' D R := h.mono (Tps.of s) fun o e => s _ _ e
theorem CutsD.ms {P : Program} {w : World} {H H' : Hp} {D : Addr} {R : Rows} {c : Sg → List Pt} (s : Same H H') (h : CutsD P w H D R c) : CutsD P w H' D R c :=
  ⟨h.1.ms s, fun r hr => let ⟨l, ps, e, hl, hp⟩ := h.2 r hr; ⟨l, ps, e, s _ _ hl, hp.ms s⟩⟩
abbrev keys (R : Rows) : List Sg := R.map (·.2.1)
theorem cutUp_append (c : Sg → List Pt) (E F : List Sg) : cutUp c (E ++ F) = cutUp c E ++ cutUp c F := by unfold cutUp; rw [List.flatMap_append]
theorem cutUp_take {c : Sg → List Pt} {E : List Sg} (i : Nat) : (cutUp c (E.take i)).length ≤ (cutUp c E).length := by
  have e : cutUp c E = cutUp c (E.take i) ++ cutUp c (E.drop i) := by rw [← cutUp_append, List.take_append_drop]
  rw [e, List.length_append]
  omega
theorem sm_set {H H' : Hp} {a : Addr} {o : HO} (s : Same H H') (n : H a = none) : Same H (upd H' a o) := fun b x e => by
  rw [upd_ne (ne_of_none e n)]
  exact s _ _ e
section
variable {P : Program} {w : World} {K : PySem.W.Frag} {mg : Str → Option Value} {base : Heap} {f : Addr} {fd : FuncData}
theorem sc_cut_up : FnScope ["cuts", "found", "segment"] ["cuts"] (defScope s_cut_up) := ⟨rfl, rfl, rfl, by decide +kernel, rfl, by decide +kernel, by decide +kernel⟩
def spCutUp (P : Program) (w : World) : Sp := fun vs H Q _ => ∃ (D : Addr) (R : Rows) (c : Sg → List Pt), vs = [.ref D] ∧ CutsD P w H D R c ∧ (∀ r ∈ R, (c r.2.1).length ≤ 900) ∧ (cutUp c (keys R)).length ≤ 300 ∧
  ∀ H' p us' gs', Same H H' → H' p = some (.tup us') → SgVs H' us' gs' → gs'.Pairwise SLt → (∀ g, g ∈ gs' ↔ g ∈ cutUp c (keys R)) → Q (.ref p) H'
theorem ok_cut_up (T : Nm mg) (CPi : Cal P w K mg base 1 "pieces" ["points"] spPieces) (CU : Cal P w K mg base 1 "unlike" ["segments"] (spUnlike K)) (F : FnP K "cut_up" s_cut_up f fd) : FnOk P w K mg base CX0 2 f fd ["cuts"] (spCutUp P w) := by
  refine F.ok sc_cut_up (fun vs H Q E h => ?_) (fun cdv A outer s H vs Q E hr h => ⟨_, PSs.nox (pss_cons (ps_set (i := 1) sc_cut_up.nd rfl (.inl rfl) (pe_lst pa_nil))
    (pss_cons (ps_for PassesOwn.never rfl (pi_kks (pv 0)) (pg_name (i := 2) sc_cut_up.nd rfl (.inl rfl)) (pss_one (ps_expr (pe_bm PySem.F.plainAttrs_list PySem.F.slot_list_extend PySem.F.type_list_extend mt_extend (pv 1)
      (pa_cons (pe_cal CPi hr (by decide) rfl (pa_cons (pe_op op_cat (pe_op op_cat (pe_lst (pa_cons (pe_ix ix_tup (pv 2) pe_int (fun _ _ => rfl)) pa_nil)) (pe_kget hr.units (pv 0) (pv 2) (fun _ _ => rfl))) (pe_lst (pa_cons (pe_ix ix_tup (pv 2) pe_int (fun _ _ => rfl)) pa_nil))) pa_nil)) pa_nil)))))
    (pss_one (ps_ret (pe_cal CU hr (by decide) rfl (pa_cons (pv 1) pa_nil)))))), ?_⟩)
  · obtain ⟨_, _, _, rfl, _⟩ := h
    rfl
  · obtain ⟨D, R, c, rfl, hc, hlen, htot, q⟩ := h
    refine ⟨Nat.zero_le _, fun fl hfl => ?_⟩
    have s0 : Same H (upd H fl (.lst [])) := sm_new hfl
    obtain ⟨ob, hob⟩ := hc.1.1
    refine ⟨_, rfl, D, R, ob, rfl, s0 _ _ hob, ?_⟩
    refine for_sq (G := DcG P w D R ob) (fun i σ' H' => ∃ x vs', σ' = [some (.ref D), some (.ref fl), x] ∧ Same H H' ∧ H' fl = some (.lst vs') ∧ SgVs H' vs' (cutUp c ((keys R).take i))) ⟨none, [], rfl, s0, upd_same, .nil⟩
      (fun i σ' H' _ ⟨_, _, _, sm, _⟩ => sm _ _ hob) (fun i x σ' H' hx ⟨x2, vs', eσ, sm, e, hvs⟩ => ?_) (fun σ' H' ⟨x2, vs', eσ, sm, e, hvs⟩ => ?_)
    · subst eσ
      rw [List.getElem?_map] at hx
      have hi : i < R.length := by
        rcases Nat.lt_or_ge i R.length with z | z
        · exact z
        · rw [List.getElem?_eq_none z] at hx; cases hx
      rw [List.getElem?_eq_getElem hi] at hx
      have hx : V.ref (R[i]).1 = x := Option.some.inj hx
      subst hx
      have hri : R[i] ∈ R := List.getElem_mem hi
      generalize hr0 : R[i] = r at hri ⊢
      have hcs := hc.ms sm
      obtain ⟨l, ps, el, hl, hp⟩ := hcs.2 r hri
      obtain ⟨a, v1, v2, ea, ha, h1, h2⟩ := hcs.1.2 r hri
      cases ea
      have lps : ps.length = (c r.2.1).length := Paired.length hp
      have lc := hlen r hri
      have key : (keys R)[i]? = some r.2.1 := by rw [List.getElem?_map, List.getElem?_eq_getElem hi, hr0]; rfl
      refine ⟨_, rfl, .inl ⟨rfl, _, .of e⟩, ?_⟩
      refine ⟨_, rfl, _, _, _, _, rfl, rfl, .of ha, atI_nat (j := 0) rfl, by show 1 ≤ sizeLine; decide, fun o1 n1 => ?_⟩
      have t1 := sm_new (o := .lst [v1]) n1
      refine ⟨_, rfl, _, rfl, D, R, r, rfl, hcs.1.ms t1, hri, ⟨r.1, v1, v2, rfl, t1 _ _ ha, h1.ms t1, h2.ms t1⟩, ?_⟩
      refine ⟨o1, l, _, _, rfl, el, upd_same, t1 _ _ hl, ?_, fun o2 n2 => ?_⟩
      · rw [lps]
        exact Nat.le_trans (show 1 + (c r.2.1).length ≤ 1000 by omega) (by decide)
      have t2 := sm_new (o := .lst ([v1] ++ ps)) n2
      refine ⟨_, rfl, _, _, _, _, rfl, rfl, .of (t2 _ _ (t1 _ _ ha)), atI_nat (j := 1) rfl, by show 1 ≤ sizeLine; decide, fun o3 n3 => ?_⟩
      have t3 := sm_new (o := .lst [v2]) n3
      refine ⟨o2, o3, _, _, rfl, rfl, t3 _ _ upd_same, upd_same, ?_, fun o4 n4 => ?_⟩
      · rw [List.length_append, lps]
        exact Nat.le_trans (show 1 + (c r.2.1).length + 1 ≤ 1000 by omega) (by decide)
      have t4 := sm_new (o := .lst ([v1] ++ ps ++ [v2])) n4
      have t := ((t1.trans t2).trans t3).trans t4
      refine ⟨o4, _, row r.2.1 (c r.2.1), rfl, upd_same, ?_, ?_, ?_, fun H2 m vs2 s2 hm hg => ?_⟩
      · exact .cons (h1.ms t) (paired_app (hp.ms t) (.cons (h2.ms t) .nil))
      · unfold row; simp
      · unfold row
        simp only [List.length_cons, List.length_append, List.length_nil]
        omega
      have sa := t.trans s2
      have l1 : vs'.length ≤ 300 := by
        rw [Paired.length hvs]
        exact Nat.le_trans (cutUp_take i) htot
      have l2 : vs2.length ≤ 1000 := by
        rw [Paired.length hg, pcs_len]
        unfold row
        simp only [List.length_cons, List.length_append, List.length_nil]
        omega
      refine ⟨fl, m, _, _, rfl, rfl, sa _ _ e, hm, Nat.le_trans (show vs'.length + vs2.length ≤ 1300 by omega) (by decide), ?_⟩
      have sf : Same H (upd H2 fl (.lst (vs' ++ vs2))) := sm_set (sm.trans sa) hfl
      have tp : Tps H2 (upd H2 fl (.lst (vs' ++ vs2))) := Tps.set (sa _ _ e) (fun xs z => by cases z)
      refine ⟨_, _, rfl, sf, upd_same, ?_⟩
      have ek : cutUp c ((keys R).take (i + 1)) = cutUp c ((keys R).take i) ++ pcs (row r.2.1 (c r.2.1)) := by
        rw [List.take_add_one, key, cutUp_append]
        simp [cutUp]
      rw [ek]
      exact paired_app ((hvs.ms sa).mono tp) (hg.mono tp)
    · subst eσ
      have el : (R.map fun r => V.ref r.1).length = (keys R).length := by simp
      rw [el, List.take_length] at hvs
      exact ⟨_, rfl, fl, vs', _, rfl, .inl (.of e), hvs, htot, fun H' p us' gs' s' hp hg pw mem => q H' p us' gs' (sm.trans s') hp hg pw mem⟩
end
end K25

set_option Elab.async false
set_option linter.all false
set_option maxRecDepth 100000
set_option maxHeartbeats 4000000
/-! The walk, ten: lengthened. Own text. -/
namespace K25
open PySem PySem.Spec PyProof.Rows L2 K25S RZ
/-- what comes between two neighbours -/
def bt (c : Sg → List Pt) (p q : Pt) : List Pt := if PLt p q then c (sg p q) else (c (sg p q)).reverse
theorem lenTail_snoc (c : Sg → List Pt) (p q : Pt) : ∀ l : List Pt, lenTail c (l ++ [p, q]) = lenTail c (l ++ [p]) ++ (bt c p q ++ [q])
  | [] => by simp [lenTail, bt]
  | [x] => by simp [lenTail, bt]
  | x :: y :: l => by
    have ih := lenTail_snoc c p q (y :: l)
    simp only [List.cons_append] at ih ⊢
    simp only [lenTail, ih]
    simp
theorem lengthen_snoc (c : Sg → List Pt) (p q : Pt) : ∀ l : List Pt, lengthen c (l ++ [p, q]) = lengthen c (l ++ [p]) ++ (bt c p q ++ [q])
  | [] => by simp [lengthen, lenTail, bt]
  | x :: l => by
    have h := lenTail_snoc c p q (x :: l)
    simp only [List.cons_append] at h ⊢
    simp only [lengthen, h]
    simp
theorem take_two {ch : List Pt} {i : Nat} {p q : Pt} (hp : ch[i]? = some p) (hq : ch[i + 1]? = some q) : ch.take (i + 1) = ch.take i ++ [p] ∧ ch.take (i + 2) = ch.take i ++ [p, q] := by
  constructor
  · rw [List.take_add_one, hp]; rfl
  · rw [List.take_add_one, List.take_add_one, hp, hq]; simp
theorem lengthen_take (c : Sg → List Pt) {ch : List Pt} {i : Nat} {p q : Pt} (hp : ch[i]? = some p) (hq : ch[i + 1]? = some q) : lengthen c (ch.take (i + 2)) = lengthen c (ch.take (i + 1)) ++ (bt c p q ++ [q]) := by
  obtain ⟨e1, e2⟩ := take_two hp hq
  rw [e1, e2, lengthen_snoc]
theorem lengthen_mono (c : Sg → List Pt) (ch : List Pt) : ∀ k, k + 1 ≤ ch.length → ∀ j, j ≤ k → (lengthen c (ch.take (j + 1))).length ≤ (lengthen c (ch.take (k + 1))).length := by
  intro k
  induction k with
  | zero => intro _ j hj; cases Nat.le_zero.mp hj; exact Nat.le_refl _
  | succ k ih =>
    intro hk j hj
    rcases Nat.lt_or_ge j (k + 1) with z | z
    · have h1 := ih (by omega) j (by omega)
      have e := lengthen_take c (ch := ch) (i := k) (List.getElem?_eq_getElem (by omega)) (List.getElem?_eq_getElem (by omega))
      rw [show k + 1 + 1 = k + 2 from rfl, e, List.length_append]
      omega
    · have : j = k + 1 := by omega
      rw [this]
      exact Nat.le_refl _
theorem ch_get {R : Pt → Pt → Prop} : ∀ {l : List Pt} {i : Nat} {p q : Pt}, Ch R l → l[i]? = some p → l[i + 1]? = some q → R p q
  | [], _, _, _, _, h, _ => by simp at h
  | [_], 0, _, _, _, _, h => by simp at h
  | [_], i + 1, _, _, _, _, h => by simp at h
  | a :: b :: r, 0, p, q, h, h1, h2 => by
    have h1 : a = p := by simpa using h1
    have h2 : b = q := by simpa using h2
    subst h1 h2
    exact h.1
  | a :: b :: r, i + 1, p, q, h, h1, h2 => ch_get (l := b :: r) h.2 (by simpa using h1) (by simpa using h2)
theorem cut1 (xs : List V) : cutV xs (some 1) none = xs.drop 1 := by
  unfold cutV
  rw [show HT.sIx xs.length 0 (some 1) = min 1 xs.length from HT.sIx_nat xs.length 0 1, HT.sIx_none]
  cases xs with
  | nil => rfl
  | cons x r =>
    rw [show min 1 (x :: r).length = 1 by rw [List.length_cons]; omega]
    show (List.take ((x :: r).length - 1) r) = r
    rw [List.length_cons, Nat.add_sub_cancel]
    exact List.take_length
theorem paired_rev {α β : Type} {F : α → β → Prop} : ∀ {l : List α} {m : List β}, Paired F l m → Paired F l.reverse m.reverse
  | _, _, .nil => .nil
  | _, _, .cons r t => by
    rw [List.reverse_cons, List.reverse_cons]
    exact paired_app (paired_rev t) (.cons r .nil)
theorem for_zipT {K : PySem.W.Frag} {a b : Addr} {xs ys : List V} {g : TG} {tb : TS} {D : L2.Ends} {σ : L2.St} {H : Hp} (Pv : Nat → L2.St → Hp → Prop) (hl : ys.length ≤ xs.length) (h0 : Pv 0 σ H) (hG : ∀ i σ H, Pv i σ H → H a = some (.tup xs) ∧ H b = some (.tup ys))
    (turn : ∀ i x y T σ H, xs[i]? = some x → ys[i]? = some y → Pv i σ H → H T = none → g (.ref T) σ (upd H T (.tup [x, y])) fun σ2 H2 => tb { D with nx := Pv (i + 1), ct := Pv (i + 1), bk := D.nx } σ2 H2) (last : ∀ σ H, Pv ys.length σ H → D.nx σ H) :
    ∃ W : Nat → Nat → L2.St → Hp → Prop, (∃ m, W 0 m σ H) ∧ ∀ i m σ H, W i m σ H →
      ((ItzT K a b).stop i H ∧ D.nx σ H) ∨ ((ItzT K a b).go i H ∧ ∃ N : L2.St → Hp → Prop, (∀ σ' H', N σ' H' → ∃ m', m' < m ∧ W (i + 1) m' σ' H') ∧ ∀ x H', (ItzT K a b).yld i H x H' → g x σ H' fun σ2 H2 => tb { D with nx := N, ct := N, bk := D.nx } σ2 H2) := by
  refine ⟨fun i m σ H => m + i = ys.length ∧ Pv i σ H, ⟨ys.length, rfl, h0⟩, fun i m σ H ⟨em, p⟩ => ?_⟩
  obtain ⟨ha, hb⟩ := hG i σ H p
  by_cases hi : i < ys.length
  · have hx : xs[i]? = some xs[i] := List.getElem?_eq_getElem (by omega)
    have hy : ys[i]? = some ys[i] := List.getElem?_eq_getElem hi
    refine .inr ⟨⟨xs, ys, _, _, .of ha, .of hb, hx, hy⟩, Pv (i + 1), fun σ' H' p' => ⟨m - 1, by omega, by omega, p'⟩, fun v H' ⟨T, x, y, ev, hT, eH, qx, qy⟩ => ?_⟩
    subst ev eH
    exact turn i x y T σ H (qx _ (.of ha)) (qy _ (.of hb)) p hT
  · have ei : i = ys.length := by omega
    rw [ei] at p
    exact .inl ⟨⟨xs, ys, .of ha, .of hb, .inr (by omega)⟩, last σ H p⟩
section
variable {P : Program} {w : World} {K : PySem.W.Frag} {mg : Str → Option Value} {base : Heap} {f : Addr} {fd : FuncData}
theorem sc_lengthened : FnScope ["chain", "cuts", "found", "first", "second", "between"] ["chain", "cuts"] (defScope s_lengthened) := ⟨rfl, rfl, rfl, by decide +kernel, rfl, by decide +kernel, by decide +kernel⟩
def spLengthened (P : Program) (w : World) : Sp := fun vs H Q _ => ∃ (a D : Addr) (us : List V) (ch : List Pt) (R : Rows) (c : Sg → List Pt), vs = [.ref a, .ref D] ∧ H a = some (.tup us) ∧ PtVs H us ch ∧ 2 ≤ ch.length ∧ CutsD P w H D R c ∧ Ch (fun p q => p ≠ q ∧ sg p q ∈ keys R) ch ∧ (lengthen c ch).length ≤ 1000 ∧
  (∀ g ∈ keys R, (c g).length ≤ 1000) ∧ ∀ H' t vs', Same H H' → H' t = some (.tup vs') → PtVs H' vs' (lengthen c ch) → Q (.ref t) H'
theorem ok_lengthened (T : Nm mg) (F : FnP K "lengthened" s_lengthened f fd) : FnOk P w K mg base CX0 1 f fd ["chain", "cuts"] (spLengthened P w) := by
  refine F.ok sc_lengthened (fun vs H Q E h => ?_) (fun cdv A outer s H vs Q E hr h => ⟨_, PSs.nox (pss_cons (ps_set (i := 2) sc_lengthened.nd rfl (.inl rfl) (pe_lst (pa_cons (pe_ix ix_tup (pv 0) pe_int (fun _ _ => rfl)) pa_nil)))
    (pss_cons (ps_for PassesOwn.never rfl (pi_zipA rfl T.zip (pa_cons (pv 0) (pa_cons (pe_slice sl_tup (pv 0) (po_some pe_int) po_none) pa_nil)))
        (pg_tup rfl (pgs_cons (pg_name (i := 3) sc_lengthened.nd rfl (.inl rfl)) (pgs_cons (pg_name (i := 4) sc_lengthened.nd rfl (.inl rfl)) pgs_nil)))
      (pss_cons (ps_set (i := 5) sc_lengthened.nd rfl (.inl rfl) (pe_kget2 hr.units (pv 1) (pe_callTy (call_tupK (K := K) rfl) rfl T.tuple (by decide +kernel) (pa_cons (pe_callB (cr_sortL (K := K) rfl hr.units) rfl T.sorted (by decide +kernel) (pa_cons (pe_tup (pa_cons (pv 3) (pa_cons (pv 4) pa_nil))) pa_nil)) pa_nil)) (pe_lst pa_nil) ⟨rfl, rfl, rfl, rfl⟩))
      (pss_cons (ps_expr (pe_bm PySem.F.plainAttrs_list PySem.F.slot_list_extend PySem.F.type_list_extend mt_extend (pv 2) (pa_cons (pe_ifExp (pt_cmpR (op_ltP hr.units) (pv 3) (pv 4) (nomark _)) (pv 5) (pe_revL (pv 5))) pa_nil)))
      (pss_one (ps_expr (pe_bm PySem.F.plainAttrs_list PySem.F.slot_list_append PySem.F.type_list_append mt_append (pv 2) (pa_cons (pv 4) pa_nil)))))))
    (pss_one (ps_ret (pe_callTy (call_tupK (K := K) rfl) rfl T.tuple (by decide +kernel) (pa_cons (pv 2) pa_nil)))))), ?_⟩)
  · obtain ⟨_, _, _, _, _, _, rfl, _⟩ := h
    rfl
  · obtain ⟨a, D, us, ch, R, c, rfl, ha, hv, l2, hc, hch, htot, hcl, q⟩ := h
    have lu : us.length = ch.length := Paired.length hv
    obtain ⟨p0, hp0⟩ : ∃ p0, ch[0]? = some p0 := ⟨ch[0], List.getElem?_eq_getElem (by omega)⟩
    obtain ⟨v0, hv0, pv0⟩ := paired_get' hv hp0
    refine ⟨_, rfl, _, _, _, _, rfl, rfl, .of ha, atI_nat (j := 0) hv0, by show 1 ≤ sizeLine; decide, fun fl hfl => ?_⟩
    have s0 : Same H (upd H fl (.lst [v0])) := sm_new hfl
    refine ⟨_, rfl, _, rfl, 1, rfl, a, us, rfl, .of (s0 _ _ ha), ?_, fun z hz => ?_⟩
    · intro y
      have y := y.1
      rw [show HT.sIx us.length 0 (some 1) = min 1 us.length from HT.sIx_nat us.length 0 1] at y
      omega
    have s1 := sm_new (o := .tup (cutV us (some 1) none)) hz
    rw [cut1] at *
    refine ⟨a, z, us, us.drop 1, rfl, .inr ⟨.of (s1 _ _ (s0 _ _ ha)), .of upd_same, ?_⟩⟩
    have s01 := s0.trans s1
    have e0 : (upd (upd H fl (.lst [v0])) z (.tup (us.drop 1))) fl = some (.lst [v0]) := s1 _ _ upd_same
    have ez : (upd (upd H fl (.lst [v0])) z (.tup (us.drop 1))) z = some (.tup (us.drop 1)) := upd_same
    have nz : z ≠ fl := fun y => by rw [y] at hz; rw [upd_same] at hz; cases hz
    generalize upd (upd H fl (.lst [v0])) z (.tup (us.drop 1)) = H0 at s01 e0 ez ⊢
    refine for_zipT (K := K) (a := a) (b := z) (xs := us) (ys := us.drop 1) (fun i σ' H' => ∃ x3 x4 x5 vs', σ' = [some (.ref a), some (.ref D), some (.ref fl), x3, x4, x5] ∧ Same H H' ∧ H' z = some (.tup (us.drop 1)) ∧ H' fl = some (.lst vs') ∧ PtVs H' vs' (lengthen c (ch.take (i + 1))))
      (by simp) ⟨_, _, _, _, rfl, s01, ez, e0, ?_⟩ (fun i σ' H' ⟨_, _, _, _, _, sm, ez, _⟩ => ⟨sm _ _ ha, ez⟩) (fun i x y T σ' H' hx hy ⟨x3, x4, x5, vs', eσ, sm, ez', e, hvs⟩ hT => ?_) (fun σ' H' ⟨x3, x4, x5, vs', eσ, sm, ez', e, hvs⟩ => ?_)
    · have et : ch.take 1 = [p0] := by
        rw [List.take_add_one, hp0]; rfl
      rw [et]
      exact .cons (pv0.ms s01) .nil
    · subst eσ
      rw [List.getElem?_drop, Nat.add_comm 1 i] at hy
      obtain ⟨p, hp, px⟩ := paired_get hv hx
      obtain ⟨q', hq, py⟩ := paired_get hv hy
      obtain ⟨npq, hmem⟩ := ch_get hch hp hq
      have hi1 : i + 1 < ch.length := (List.getElem?_eq_some_iff.mp hq).1
      have tT := sm_new (o := .tup [x, y]) hT
      have px0 := (px.ms sm).ms tT
      have py0 := (py.ms sm).ms tT
      have el := lengthen_take c hp hq
      have lmono := lengthen_mono c ch (ch.length - 1) (by omega)
      have lall : (lengthen c (ch.take (i + 2))).length ≤ 1000 := by
        have h1 : (lengthen c (ch.take (i + 2))).length ≤ (lengthen c (ch.take (ch.length - 1 + 1))).length := lmono (i + 1) (by omega)
        rw [show ch.length - 1 + 1 = ch.length by omega, List.take_length] at h1
        omega
      rw [el, List.length_append, List.length_append, List.length_singleton] at lall
      have lvs : vs'.length = (lengthen c (ch.take (i + 1))).length := Paired.length hvs
      refine ⟨T, [x, y], rfl, .of upd_same, rfl, _, _, rfl, _, _, rfl, rfl, ?_⟩
      -- between = cuts.get(.., [])
      refine ⟨_, rfl, D, R, rfl, ((hc.ms sm).ms tT).1, ?_⟩
      refine ⟨_, rfl, _, rfl, by show 2 ≤ sizeLine; decide, fun o1 n1 => ?_⟩
      have t1 := sm_new (o := .tup [x, y]) n1
      refine ⟨o1, [(x, p), (y, q')], rfl, .inr (.of upd_same), fun u hu => ?_, by show 2 ≤ sizeLine; decide, fun zs' o2 pm pw n2 => ?_⟩
      · simp only [List.mem_cons, List.not_mem_nil, or_false] at hu
        rcases hu with rfl | rfl
        · exact px0.ms t1
        · exact py0.ms t1
      obtain ⟨u1, u2, eu, hu1, hu2⟩ := two_sorted (px0.ms t1) (py0.ms t1) pm pw
      rw [eu]
      have t2 := sm_new (o := .lst [u1, u2]) n2
      refine ⟨o2, _, rfl, .inl ⟨.of upd_same, fun o3 n3 => ?_⟩⟩
      have t3 := sm_new (o := .tup [u1, u2]) n3
      refine ⟨Nat.zero_le _, fun o4 n4 => ?_⟩
      have t4 := sm_new (o := .lst []) n4
      have tt : Same H' _ := ((((tT.trans t1).trans t2).trans t3).trans t4)
      have hsg := (show SgV _ (.ref o3) (sg p q') from ⟨o3, u1, u2, rfl, upd_same, (hu1.ms t2).ms t3, (hu2.ms t2).ms t3⟩).ms t4
      generalize upd (upd (upd (upd (upd H' T (.tup [x, y])) o1 (.tup [x, y])) o2 (.lst [u1, u2])) o3 (.tup [u1, u2])) o4 (.lst []) = H4 at tt hsg ⊢
      have cd := (hc.ms sm).ms tt
      refine ⟨R, sg p q', cd.1, hsg, fun r hr er => ?_, fun z => absurd hmem z⟩
      obtain ⟨l, ps, elr, hl, hps⟩ := cd.2 r hr
      rw [elr]
      rw [er] at hps
      have lps : ps.length ≤ 1000 := by rw [Paired.length hps]; exact hcl _ hmem
      have e4 := tt _ _ e
      have hvs4 := hvs.ms tt
      have px4 := (px.ms sm).ms tt
      have py4 := (py.ms sm).ms tt
      -- the rest, behind extend
      have rest : ∀ (H5 : Hp) (qs : List V), Same H4 H5 → PtVs H5 qs (bt c p q') → tBM K "list" rAppend (tVar 2) (tCons (tVar 4) tNil) [some (.ref a), some (.ref D), some (.ref fl), some x, some y, some (.ref l)] (upd H5 fl (.lst (vs' ++ qs)))
          fun _ H' => ∃ x3 x4 x5 vs', [some (.ref a), some (.ref D), some (.ref fl), some x, some y, some (.ref l)] = [some (.ref a), some (.ref D), some (.ref fl), x3, x4, x5] ∧ Same H H' ∧ H' z = some (.tup (us.drop 1)) ∧ H' fl = some (.lst vs') ∧ PtVs H' vs' (lengthen c (ch.take (i + 1 + 1))) := fun H5 qs s5 hqs => by
        have tp : Tps H5 (upd H5 fl (.lst (vs' ++ qs))) := Tps.set (s5 _ _ e4) (fun xs z => by cases z)
        have lq : qs.length = (bt c p q').length := Paired.length hqs
        have sm5 := (sm.trans tt).trans s5
        have l9 : (vs' ++ qs).length < sizeLine := by
          rw [List.length_append]
          exact Nat.lt_of_le_of_lt (show vs'.length + qs.length ≤ 1000 by omega) (by decide)
        refine ⟨_, rfl, .inl ⟨rfl, _, .of upd_same⟩, _, rfl, fl, _, y, rfl, rfl, upd_same, l9, ?_⟩
        rw [upd_upd]
        refine ⟨_, _, _, _, rfl, sm_set sm5 hfl, ?_, upd_same, ?_⟩
        · rw [upd_ne nz]
          exact s5 _ _ (tt _ _ ez')
        · rw [show i + 1 + 1 = i + 2 from rfl, el, List.append_assoc]
          have tp2 : Tps H5 (upd H5 fl (.lst (vs' ++ qs ++ [y]))) := Tps.set (s5 _ _ e4) (fun xs z => by cases z)
          rw [List.append_assoc] at tp2
          exact paired_app ((hvs4.ms s5).mono tp2) (paired_app (hqs.mono tp2) (.cons ((py4.ms s5).mono tp2) .nil))
      refine ⟨_, rfl, .inl ⟨rfl, _, .of e4⟩, ?_⟩
      refine ⟨_, rfl, _, rfl, p, q', px4, py4, _, rfl, ?_⟩
      have eb := Paired.length hps
      by_cases zz : PLt p q'
      · have ebt : bt c p q' = c (sg p q') := if_pos zz
        have hps' : PtVs H4 ps (bt c p q') := by rw [ebt]; exact hps
        refine itP zz ⟨_, rfl, fl, l, _, _, rfl, rfl, e4, hl, ?_, rest H4 ps (Same.refl H4) hps'⟩
        have := Paired.length hps'
        exact Nat.le_trans (show vs'.length + ps.length ≤ 1000 by omega) (by decide)
      · have ebt : bt c p q' = (c (sg p q')).reverse := if_neg zz
        refine itN zz ⟨_, rfl, l, ps, rfl, .of hl, fun o5 n5 => ?_⟩
        have t5 := sm_new (o := .lst ps.reverse) n5
        have hps' : PtVs (upd H4 o5 (.lst ps.reverse)) ps.reverse (bt c p q') := by rw [ebt]; exact paired_rev (hps.ms t5)
        refine ⟨fl, o5, _, _, rfl, rfl, t5 _ _ e4, upd_same, ?_, rest _ _ t5 hps'⟩
        have := Paired.length hps'
        exact Nat.le_trans (show vs'.length + ps.reverse.length ≤ 1000 by omega) (by decide)
    · subst eσ
      have el : (us.drop 1).length + 1 = ch.length := by rw [List.length_drop]; omega
      rw [el, List.take_length] at hvs
      refine ⟨_, rfl, fl, vs', rfl, .inl ⟨.of e, fun t ht => ?_⟩⟩
      have st := sm_new (o := .tup vs') ht
      exact q _ t vs' (sm.trans st) upd_same (hvs.ms st)
end
end K25

set_option Elab.async false
set_option linter.all false
set_option maxRecDepth 100000
set_option maxHeartbeats 4000000
/-! The walk, eleven: what cuts_of leans on. Own text. -/
namespace K25
open PySem PySem.Spec PyProof.Rows L2 K25S LamX
theorem put_pt (ps : List Pt) (p : Pt) : putK (ps.map ptK) [Sum.inl p.1, Sum.inl p.2] (V.bl true) = (if p ∈ ps then ps else ps ++ [p]).map ptK := by
  unfold putK
  have e : ((ps.map ptK).any fun kv => decide (kv.1 = [Sum.inl p.1, Sum.inl p.2])) = decide (p ∈ ps) := by
    rw [Bool.eq_iff_iff, List.any_map, List.any_eq_true, decide_eq_true_iff]
    constructor
    · rintro ⟨q, hq, h⟩
      simp only [Function.comp_apply, ptK, decide_eq_true_eq, List.cons.injEq, Sum.inl.injEq, and_true] at h
      have : q = p := Prod.ext h.1 h.2
      rw [← this]; exact hq
    · intro hp
      exact ⟨p, hp, by simp [ptK]⟩
  rw [e]
  by_cases hp : p ∈ ps
  · rw [if_pos (decide_eq_true hp), if_pos hp, List.map_map]
    refine List.map_congr_left fun q _ => ?_
    show (if (ptK q).1 = _ then ((ptK q).1, V.bl true) else ptK q) = ptK q
    split <;> rfl
  · rw [if_neg (by simpa using hp), if_neg hp, List.map_append]
    rfl
def tKGetP (P : Program) (w : World) (td ty : TE) : TE := fun σ H Q => td σ H fun x H1 => ty σ H1 fun y H2 => ∃ (d : Addr) (R : Rows) (r : Addr × Sg × V), x = .ref d ∧ Dc P w H2 d R ∧ r ∈ R ∧ SgV H2 y r.2.1 ∧ Q r.2.2 H2
theorem pe_kgetP {X : Cx} {P : Program} {w : World} {o i : Expr} {pos : Pos} {td ty : TE} (eP : X.prog = P) (ew : X.w = w) (hu : X.A.units + 64 < cLine) (ho : PE X o td) (hi : PE X i ty) (hs : NoSl i) : PE X (.Subscript o i pos) (tKGetP P w td ty) := by
  subst eP ew
  exact pe_kget hu ho hi hs
theorem kc_tup {P : Program} {w : World} {K : PySem.W.Frag} {a : Addr} {xs : List V} {g : TG} {tk tv : TE} {vs : List Nat} {σ : L2.St} {H1 : Hp} {D : Addr} {ob0 : Obj} {Qd : Hp → Prop} (Pv : Nat → Hp → Prop) (h0 : Pv 0 (upd H1 D (DicO P w D [] ob0))) (hT : ∀ i H, i ≤ xs.length → Pv i H → SqT K H a xs)
    (turn : ∀ i x H, xs[i]? = some x → Pv i H → g x (wipe σ vs) H fun σ2 H2 => wipe σ2 vs = wipe σ vs ∧ tk σ2 H2 fun y H4 => tv σ2 H4 fun z H5 => ∃ (R : Rows) (a : Addr) (k : Sg), y = .ref a ∧ Dc P w H5 D R ∧ SgV H5 (.ref a) k ∧ k ∉ R.map (·.2.1) ∧ R.length < 1000 ∧ ∀ ob, Pv (i + 1) (upd H5 D (DicO P w D (R ++ [(a, k, z)]) ob)))
    (last : ∀ H, Pv xs.length H → Qd H) :
    ∃ W : Nat → Nat → Hp → Prop, (∃ m, W 0 m (upd H1 D (DicO P w D [] ob0))) ∧ ∀ i m H, W i m H →
      ((Itt K a).stop i H ∧ Qd H) ∨ ((Itt K a).go i H ∧ ∃ Nx : Hp → Prop, (∀ H', Nx H' → ∃ m', m' < m ∧ W (i + 1) m' H') ∧ ∀ x H', (Itt K a).yld i H x H' → g x (wipe σ vs) H' fun σ2 H2 => wipe σ2 vs = wipe σ vs ∧
        tk σ2 H2 fun y H4 => tv σ2 H4 fun z H5 => ∃ (R : Rows) (a : Addr) (k : Sg), y = .ref a ∧ Dc P w H5 D R ∧ SgV H5 (.ref a) k ∧ k ∉ R.map (·.2.1) ∧ R.length < 1000 ∧ ∀ ob, Nx (upd H5 D (DicO P w D (R ++ [(a, k, z)]) ob))) := by
  refine ⟨fun i m H => m + i = xs.length ∧ Pv i H, ⟨xs.length, rfl, h0⟩, fun i m H ⟨em, p⟩ => ?_⟩
  have hq := hT i H (by omega) p
  by_cases hi : i < xs.length
  · refine .inr ⟨⟨xs, _, hq, List.getElem?_eq_getElem hi⟩, Pv (i + 1), fun H' p' => ⟨m - 1, by omega, by omega, p'⟩, fun x H' ⟨e, hx⟩ => ?_⟩
    rw [e]
    exact turn i x H (hx xs hq) p
  · have ei : i = xs.length := by omega
    rw [ei] at p
    exact .inl ⟨⟨xs, hq, by omega⟩, last H p⟩
theorem for_en {a : Addr} {xs : List V} {g : TG} {tb : TS} {D : L2.Ends} {σ : L2.St} {H : Hp} (Pv : Nat → L2.St → Hp → Prop) (h0 : Pv 0 σ H) (hG : ∀ i σ H, Pv i σ H → H a = some (.tup xs))
    (turn : ∀ i x T σ H, xs[i]? = some x → Pv i σ H → H T = none → g (.ref T) σ (upd H T (.tup [.int (i : Nat), x])) fun σ2 H2 => tb { D with nx := Pv (i + 1), ct := Pv (i + 1), bk := D.nx } σ2 H2) (last : ∀ σ H, Pv xs.length σ H → D.nx σ H) :
    ∃ W : Nat → Nat → L2.St → Hp → Prop, (∃ m, W 0 m σ H) ∧ ∀ i m σ H, W i m σ H →
      ((Ien a xs).stop i H ∧ D.nx σ H) ∨ ((Ien a xs).go i H ∧ ∃ N : L2.St → Hp → Prop, (∀ σ' H', N σ' H' → ∃ m', m' < m ∧ W (i + 1) m' σ' H') ∧ ∀ x H', (Ien a xs).yld i H x H' → g x σ H' fun σ2 H2 => tb { D with nx := N, ct := N, bk := D.nx } σ2 H2) := by
  refine ⟨fun i m σ H => m + i = xs.length ∧ Pv i σ H, ⟨xs.length, rfl, h0⟩, fun i m σ H ⟨em, p⟩ => ?_⟩
  have ha := hG i σ H p
  by_cases hi : i < xs.length
  · refine .inr ⟨⟨ha, hi⟩, Pv (i + 1), fun σ' H' p' => ⟨m - 1, by omega, by omega, p'⟩, fun v H' ⟨T, x, ev, hT, hx, eH⟩ => ?_⟩
    subst ev eH
    exact turn i x T σ H hx p hT
  · have ei : i = xs.length := by omega
    rw [ei] at p
    exact .inl ⟨⟨ha, by omega⟩, last σ H p⟩
/-- the state of the two loops: what was gathered, in the dicts that found tells -/
structure Gs (P : Program) (w : World) (H : Hp) (D : Addr) (R : Rows) (ob : Obj) (E : List Sg) (Dn : Sg → Pt → Prop) (H' : Hp) : Prop where
  same : Same H H'
  dic : H' D = some (DicO P w D R ob)
  fs : ∃ F, Sta E Dn F ∧ ∀ r ∈ R, ∃ d, r.2.2 = .ref d ∧ H' d = some (.dT ((F r.2.1).map ptK))
/-- what is fixed of the rows -/
structure Gr (H : Hp) (R : Rows) (E : List Sg) : Prop where
  keys : keys R = E
  sg : ∀ r ∈ R, SgV H (.ref r.1) r.2.1
  new : ∀ r ∈ R, ∀ d, r.2.2 = .ref d → H d = none
  inj : ∀ r ∈ R, ∀ r' ∈ R, r.2.2 = r'.2.2 → r = r'
  kin : ∀ r ∈ R, ∀ r' ∈ R, r.2.1 = r'.2.1 → r = r'
section
variable {P : Program} {w : World} {H : Hp} {D : Addr} {R : Rows} {ob : Obj} {E : List Sg} {Dn : Sg → Pt → Prop} {H' H2 : Hp}
theorem Gs.ms (h : Gs P w H D R ob E Dn H') (s : Same H' H2) : Gs P w H D R ob E Dn H2 :=
  ⟨h.same.trans s, s _ _ h.dic, let ⟨F, a, b⟩ := h.fs; ⟨F, a, fun r hr => let ⟨d, e, f⟩ := b r hr; ⟨d, e, s _ _ f⟩⟩⟩
theorem Gs.congr {Dn' : Sg → Pt → Prop} (h : Gs P w H D R ob E Dn H') (e : ∀ g ∈ E, ∀ r, Dn g r ↔ Dn' g r) : Gs P w H D R ob E Dn' H' :=
  ⟨h.same, h.dic, let ⟨F, a, b⟩ := h.fs; ⟨F, a.congr e, b⟩⟩
theorem Gs.dc (h : Gs P w H D R ob E Dn H') (g : Gr H R E) : Dc P w H' D R := ⟨⟨ob, h.dic⟩, fun r hr => (g.sg r hr).ms h.same⟩
theorem Gs.skip {g : Sg} {p : Pt} (h : Gs P w H D R ob E Dn H') (hp : ¬ (p ≠ g.1 ∧ p ≠ g.2)) : Gs P w H D R ob E (fun k r => Dn k r ∨ (k = g ∧ r = p)) H' :=
  ⟨h.same, h.dic, let ⟨F, a, b⟩ := h.fs; ⟨F, a.skip hp, b⟩⟩
/-- one point more -/
theorem Gs.put {g : Sg} {p : Pt} (h : Gs P w H D R ob E Dn H') (G : Gr H R E) (h1 : p ≠ g.1) (h2 : p ≠ g.2) (sb : Sub E Dn) (hE : E.length ≤ 300) {r : Addr × Sg × V} (hr : r ∈ R) (er : r.2.1 = g) :
    ∃ d kvs, r.2.2 = .ref d ∧ H' d = some (.dT kvs) ∧ kvs.length < sizeLine ∧ (∀ xs, HO.dT kvs ≠ .tup xs) ∧ Gs P w H D R ob E (fun k r => Dn k r ∨ (k = g ∧ r = p)) (upd H' d (.dT (putK kvs [Sum.inl p.1, Sum.inl p.2] (.bl true)))) := by
  obtain ⟨F, a, b⟩ := h.fs
  obtain ⟨d, ed, hd⟩ := b r hr
  have hg : g ∈ E := by rw [← G.keys, ← er]; exact List.mem_map_of_mem hr
  have nD : D ≠ d := ne_of h.dic hd (by intro z; cases z)
  have hl := a.len sb hg
  refine ⟨d, _, ed, hd, ?_, (fun xs z => by cases z), ?_, ?_, addP F g p, a.add h1 h2, fun r' hr' => ?_⟩
  · rw [List.length_map, er]
    exact Nat.lt_of_le_of_lt (show (F g).length ≤ 600 by omega) (by decide)
  · exact sm_set h.same (G.new r hr d ed)
  · rw [upd_ne nD]
    exact h.dic
  · obtain ⟨d', ed', hd'⟩ := b r' hr'
    refine ⟨d', ed', ?_⟩
    by_cases e : r' = r
    · subst e
      rw [ed] at ed'
      cases ed'
      rw [upd_same, put_pt, er]
      unfold addP
      rw [if_pos rfl]
    · have nd : d' ≠ d := fun z => e (G.inj r' hr' r hr (by rw [ed', ed, z]))
      rw [upd_ne nd, hd']
      have nk : r'.2.1 ≠ g := fun z => e (G.kin r' hr' r hr (z.trans er.symm))
      unfold addP
      rw [if_neg nk]
end
end K25

set_option Elab.async false
set_option linter.all false
set_option maxRecDepth 100000
set_option maxHeartbeats 4000000
/-! The walk, twelve: cuts_of. Own text. -/
namespace K25
open PySem PySem.Spec PyProof.Rows L2 K25S LamX
section
variable {P : Program} {w : World} {K : PySem.W.Frag} {mg : Str → Option Value} {base : Heap} {f : Addr} {fd : FuncData}
theorem sc_cuts_of : FnScope ["segments", "segment", "found", "i", "first", "second", "point"] ["segments"] (defScope s_cuts_of) := ⟨rfl, rfl, rfl, by decide +kernel, rfl, by decide +kernel, by decide +kernel⟩
def spCuts (P : Program) (w : World) (PT : Addr) : Sp := fun vs H Q _ => ∃ (a : Addr) (us : List V) (E : List Sg), vs = [.ref a] ∧ H a = some (.tup us) ∧ SgVs H us E ∧ (∀ g ∈ E, Ok g) ∧ E.Pairwise SLt ∧ E.length ≤ 300 ∧ Tabs (TA PT) H ∧
  ∀ H' D R c, ExtN H H' → Tabs (TA PT) H' → CutsD P w H' D R c → keys R = E → (∀ g ∈ E, Cuts E g (c g)) → Q (.ref D) H'
theorem pw_nodup {E : List Sg} (h : E.Pairwise SLt) : E.Nodup := h.imp fun h => h.ne
theorem take_nodup {E : List Sg} {i : Nat} {g : Sg} (nd : E.Nodup) (h : E[i]? = some g) : g ∉ E.take i := fun hm => by
  obtain ⟨j, hj⟩ := List.mem_iff_getElem?.mp hm
  rw [List.getElem?_take] at hj
  split at hj
  · rename_i hlt
    obtain ⟨lj, ej⟩ := List.getElem?_eq_some_iff.mp hj
    obtain ⟨li, ei⟩ := List.getElem?_eq_some_iff.mp h
    exact (List.pairwise_iff_getElem.mp nd) j i lj li hlt (ej.trans ei.symm)
  · cases hj
theorem map_inj {α β : Type} {f : α → β} : ∀ {l : List α}, (l.map f).Nodup → ∀ x ∈ l, ∀ y ∈ l, f x = f y → x = y
  | [], _, x, hx, _, _, _ => by cases hx
  | a :: l, nd, x, hx, y, hy, e => by
    rw [List.map_cons, List.nodup_cons] at nd
    rcases List.mem_cons.mp hx with zx | hx
    · rcases List.mem_cons.mp hy with zy | hy
      · rw [zx, zy]
      · rw [zx] at e
        exact absurd (List.mem_map.mpr ⟨y, hy, e.symm⟩) nd.1
    · rcases List.mem_cons.mp hy with zy | hy
      · rw [zy] at e
        exact absurd (List.mem_map.mpr ⟨x, hx, e⟩) nd.1
      · exact map_inj nd.2 x hx y hy e
theorem dic_ne_code {P : Program} {w : World} {D : Addr} {R : Rows} {ob : Obj} {q : Str} : DicO P w D R ob ≠ CodeO D q := fun z => by
  unfold DicO CodeO at z
  injection z with e
  have g : ({ objs := Array.replicate (D + 1) { cls := .none, data := .fields #[.none, .str q 0] } } : Heap).get? D = some { cls := .none, data := .fields #[.none, .str q 0] } := Heap.get?_some_iff.mpr ⟨by simp, rfl⟩
  have h := congrFun e { objs := Array.replicate (D + 1) { cls := .none, data := .fields #[.none, .str q 0] } }
  have k : DicB P w D R ob { objs := Array.replicate (D + 1) { cls := .none, data := .fields #[.none, .str q 0] } } := by
    rw [h]
    exact ⟨_, _, 0, g, rfl, rfl⟩
  have e1 := k.here
  rw [g] at e1
  obtain ⟨es, ep, us, hd, _⟩ := k.rows
  rw [← Option.some.inj e1] at hd
  cases hd
theorem cut_from (xs : List V) (i : Nat) : cutV xs (some ((i : Int) + 1)) none = xs.drop (i + 1) := by
  have e : ((i : Int) + 1) = ((i + 1 : Nat) : Int) := by omega
  unfold cutV
  rw [e, HT.sIx_nat, HT.sIx_none]
  rcases Nat.lt_or_ge (i + 1) xs.length with h | h
  · rw [Nat.min_eq_left (by omega)]
    exact List.take_of_length_le (by rw [List.length_drop]; omega)
  · rw [Nat.min_eq_right h, List.drop_of_length_le h, List.drop_of_length_le (Nat.le_refl _)]
    exact List.take_nil
/-- within the innermost loop -/
def Dn4 (E : List Sg) (i : Nat) (s : Sg) (m : Nat) (t : Sg) (n : Nat) (p : Pt) (u : Nat) (k : Sg) (r : Pt) : Prop := (Dn2 E i s m t n k r ∨ (0 < u ∧ k = s ∧ r = p)) ∨ (1 < u ∧ k = t ∧ r = p)
theorem Dn4_sub {E : List Sg} {i m n u : Nat} {s t : Sg} {p : Pt} (pw : E.Pairwise SLt) (hs : E[i]? = some s) (ht : E[i + 1 + m]? = some t) (hp : (ptsMet s t)[n]? = some p) : Sub E (Dn4 E i s m t n p u) := fun g hg r h =>
  sub2 pw hs ht g hg r ((Dn2_step hp).mp (h.elim (fun h => .inl (h.elim .inl fun h => .inr h.2)) fun h => .inr h.2))
theorem ok_cuts_of (T : Nm mg) {PT : Addr} (CPM : Cal P w K mg base 7 "points_met" ["first", "second"] spPts) (CAl : Cal P w K mg base 2 "along" ["segment", "points"] (spAlong PT)) (F : FnP K "cuts_of" s_cuts_of f fd) : FnOk P w K mg base CX0 8 f fd ["segments"] (spCuts P w PT) := by
  refine F.ok sc_cuts_of (fun vs H Q E h => ?_) (fun cdv A outer s H vs Q E hr h => ⟨_, PSs.nox (
    pss_cons (ps_set (i := 2) sc_cuts_of.nd rfl (.inr rfl) (pe_kc (own := [("segment", 1)]) (g := gName 1) rfl hr.units sc_cuts_of.nd (pi_tup (pv 0)) (blkOk_by (N := ["segments", "segment", "found", "i", "first", "second", "point"]) (sc := defScope s_cuts_of) (by decide +kernel))
      (fun _ _ _ _ _ => pg_name (i := 1) sc_cuts_of.nd rfl (Or.inl rfl)) (fun _ _ _ _ _ => pv 1) (fun _ _ _ _ _ => pe_dnewT)))
    (pss_cons (ps_for PassesOwn.never rfl (pi_en rfl T.enumerate (pa_cons (pv 0) pa_nil)) (pg_tup rfl (pgs_cons (pg_name (i := 3) sc_cuts_of.nd rfl (.inl rfl)) (pgs_cons (pg_name (i := 4) sc_cuts_of.nd rfl (.inl rfl)) pgs_nil)))
      (pss_one (ps_for PassesOwn.never rfl (pi_tup (pe_slice sl_tup (pv 0) (po_some (pe_op op_add (pv 3) pe_int)) po_none)) (pg_name (i := 5) sc_cuts_of.nd rfl (.inl rfl))
        (pss_one (ps_for PassesOwn.never rfl (pi_list (pe_cal CPM hr (by decide) rfl (pa_cons (pv 4) (pa_cons (pv 5) pa_nil)))) (pg_name (i := 6) sc_cuts_of.nd rfl (.inl rfl))
          (pss_one (ps_for PassesOwn.never rfl (pi_tup (pe_tup (pa_cons (pv 4) (pa_cons (pv 5) pa_nil)))) (pg_name (i := 1) sc_cuts_of.nd rfl (.inl rfl))
            (pss_one (ps_if (pt_cmpR (op_notInSg hr.units) (pv 6) (pv 1) rfl) (pss_one (ps_dput (hu_of hr) (pe_kget hr.units (pv 2) (pv 1) (fun _ _ => rfl)) (pv 6) pe_bl rfl)) pss_nil)))))))))
    (pss_one (ps_ret (pe_kc (own := [("segment", 1)]) (g := gName 1) rfl hr.units sc_cuts_of.nd (pi_tup (pv 0)) (blkOk_by (N := ["segments", "segment", "found", "i", "first", "second", "point"]) (sc := defScope s_cuts_of) (by decide +kernel))
      (fun _ _ _ _ _ => pg_name (i := 1) sc_cuts_of.nd rfl (Or.inl rfl)) (fun _ _ _ _ _ => pv 1) (fun _ _ _ _ _ => pe_cal CAl hr (by decide) rfl (pa_cons (pv 1) (pa_cons (pe_kgetP (P := P) (w := w) rfl rfl hr.units (pv 2) (pv 1) (fun _ _ => rfl)) pa_nil)))))))), ?_⟩)
  · obtain ⟨_, _, _, rfl, _⟩ := h
    rfl
  · obtain ⟨a, us, E, rfl, ha, hv, ok, pw, hE, hT, q⟩ := h
    have nd := pw_nodup pw
    have lu : us.length = E.length := Paired.length hv
    -- found = {segment: {} for segment in segments}
    refine ⟨_, rfl, a, rfl, ⟨_, .of ha⟩, fun D ob0 hD => ?_⟩
    refine kc_tup (P := P) (w := w) (K := K) (a := a) (xs := us) (fun i H' => ∃ R ob, Same H H' ∧ H' D = some (DicO P w D R ob) ∧ keys R = E.take i ∧ (∀ r ∈ R, SgV H (.ref r.1) r.2.1) ∧ (∀ r ∈ R, ∃ d, r.2.2 = .ref d ∧ H' d = some (.dT []) ∧ H d = none) ∧ ∀ r ∈ R, ∀ r' ∈ R, r.2.2 = r'.2.2 → r = r')
      ⟨[], ob0, sm_new hD, upd_same, rfl, by simp, by simp, by simp⟩ (fun i H' _ ⟨_, _, sm, _⟩ => .of (sm _ _ ha)) (fun i x H' hx ⟨R, ob, sm, hd, hk, hsg, hin, inj⟩ => ?_) (fun H' ⟨R, ob, sm, hd, hk, hsg, hin, inj⟩ => ?_)
    · obtain ⟨g, hg, hxg⟩ := paired_get hv hx
      obtain ⟨ax, _, _, ex, _⟩ := id hxg
      subst ex
      have li : i < E.length := (List.getElem?_eq_some_iff.mp hg).1
      have lR : R.length = i := by
        have := congrArg List.length hk
        rw [List.length_map, List.length_take] at this
        omega
      refine ⟨rfl, _, rfl, fun d hd0 => ?_⟩
      have s1 := sm_new (o := .dT []) hd0
      have nDd : D ≠ d := ne_of_none hd hd0
      refine ⟨R, ax, g, rfl, ⟨⟨ob, s1 _ _ hd⟩, fun r hr => ((hsg r hr).ms sm).ms s1⟩, (hxg.ms sm).ms s1, ?_, by omega, fun ob' => ?_⟩
      · show g ∉ keys R
        rw [hk]
        exact take_nodup nd hg
      · refine ⟨R ++ [(ax, g, .ref d)], ob', sm_set (sm.trans s1) hD, upd_same, ?_, ?_, ?_, ?_⟩
        · rw [List.take_add_one, hg]
          show (R ++ [(ax, g, V.ref d)]).map (·.2.1) = _
          rw [List.map_append]
          show keys R ++ _ = _
          rw [hk]
          rfl
        · intro r hr
          rcases List.mem_append.mp hr with hr | hr
          · exact hsg r hr
          · rw [List.mem_singleton.mp hr]; exact hxg
        · intro r hr
          rcases List.mem_append.mp hr with hr | hr
          · obtain ⟨d', e1, e2, e3⟩ := hin r hr
            refine ⟨d', e1, ?_, e3⟩
            rw [upd_ne (show d' ≠ D from fun z => by rw [z] at e3 e2; rw [hd] at e2; cases e2)]
            exact s1 _ _ e2
          · rw [List.mem_singleton.mp hr]
            refine ⟨d, rfl, ?_, sm.free hd0⟩
            rw [upd_ne nDd.symm, upd_same]
        · have old : ∀ r ∈ R, r.2.2 ≠ .ref d := fun r hr z => by
            obtain ⟨d', e1, e2, _⟩ := hin r hr
            rw [z] at e1
            cases e1
            rw [hd0] at e2
            cases e2
          intro r hr r' hr' e
          rcases List.mem_append.mp hr with hr | hr <;> rcases List.mem_append.mp hr' with hr' | hr'
          · exact inj r hr r' hr' e
          · rw [List.mem_singleton.mp hr'] at e
            exact absurd e (old r hr)
          · rw [List.mem_singleton.mp hr] at e
            exact absurd e.symm (old r' hr')
          · rw [List.mem_singleton.mp hr, List.mem_singleton.mp hr']
    -- behind the first comprehension
    rw [lu, List.take_length] at hk
    have G : Gr H R E := ⟨hk, hsg, fun r hr d ed => by
      obtain ⟨d', e1, _, e3⟩ := hin r hr
      rw [ed] at e1
      cases e1
      exact e3, inj, map_inj (show (R.map fun r => r.2.1).Nodup from by rw [show R.map (fun r => r.2.1) = E from hk]; exact nd)⟩
    have g0 : Gs P w H D R ob E (Dn0 E 0) H' := ⟨sm, hd, fun _ => [], ⟨fun _ _ => List.nodup_nil, fun g _ r => ⟨fun z => by simp at z, fun ⟨_, _, j, k, s, t, hj, _⟩ => absurd hj (Nat.not_lt_zero _)⟩⟩, fun r hr => by
      obtain ⟨d, e1, e2, _⟩ := hin r hr
      exact ⟨d, e1, e2⟩⟩
    clear hin inj hsg hk
    -- the loops
    refine ⟨_, rfl, a, us, rfl, sm _ _ ha, ?_⟩
    refine for_en (a := a) (xs := us) (fun i σ' H2 => ∃ x1 x3 x4 x5 x6, σ' = [some (.ref a), x1, some (.ref D), x3, x4, x5, x6] ∧ Gs P w H D R ob E (Dn0 E i) H2) ⟨_, _, _, _, _, rfl, g0⟩ (fun i σ' H2 ⟨_, _, _, _, _, _, gs⟩ => gs.same _ _ ha)
      (fun i x T σ' H2 hx ⟨x1, x3, x4, x5, x6, eσ, gs⟩ hT => ?_) (fun σ' H2 ⟨x1, x3, x4, x5, x6, eσ, gs⟩ => ?_)
    · subst eσ
      obtain ⟨s, hs, hxs⟩ := paired_get hv hx
      have hsE : s ∈ E := List.mem_of_getElem? hs
      have hi : i < us.length := (List.getElem?_eq_some_iff.mp hx).1
      refine ⟨T, [.int i, x], rfl, .of upd_same, rfl, _, _, rfl, _, _, rfl, rfl, ?_⟩
      have gT := gs.ms (sm_new (o := .tup [.int (i : Nat), x]) hT)
      generalize upd H2 T (.tup [.int (i : Nat), x]) = H3 at gT ⊢
      refine ⟨_, rfl, _, rfl, _, _, rfl, rfl, _, rfl, a, us, rfl, .of (gT.same _ _ ha), ?_, fun z hz => ?_⟩
      · intro y
        have y := y.1
        rw [show ((i : Int) + 1) = ((i + 1 : Nat) : Int) by omega, HT.sIx_nat] at y
        omega
      rw [cut_from] at *
      refine ⟨z, rfl, ⟨_, .of upd_same⟩, ?_⟩
      have gz := gT.ms (sm_new (o := .tup (us.drop (i + 1))) hz)
      refine for_tup (K := K) (a := z) (xs := us.drop (i + 1)) (fun m σ' H4 => ∃ x1 x5 x6, σ' = [some (.ref a), x1, some (.ref D), some (.int i), some x, x5, x6] ∧ H4 z = some (.tup (us.drop (i + 1))) ∧ Gs P w H D R ob E (Dn1 E i s m) H4)
        ⟨_, _, _, rfl, upd_same, gz.congr fun g _ r => Dn1_zero⟩ (fun m σ' H4 _ ⟨_, _, _, _, e, _⟩ => .of e) (fun m y σ' H4 hy ⟨x1, x5, x6, eσ, ez, g4⟩ => ?_) (fun σ' H4 ⟨x1, x5, x6, eσ, ez, g4⟩ => ?_)
      · subst eσ
        rw [List.getElem?_drop] at hy
        obtain ⟨t, ht, hyt⟩ := paired_get hv hy
        have htE : t ∈ E := List.mem_of_getElem? ht
        refine ⟨_, rfl, _, rfl, x, y, s, t, rfl, hxs.ms g4.same, hyt.ms g4.same, ok s hsE, ok t htE, fun H5 l ps s5 hl hps => ⟨l, rfl, ⟨_, .of hl⟩, ?_⟩⟩
        have lps : ps.length = (ptsMet s t).length := Paired.length hps
        refine for_list (K := K) (a := l) (xs := ps) (fun n σ' H6 => ∃ x1 x6, σ' = [some (.ref a), x1, some (.ref D), some (.int i), some x, some y, x6] ∧ H6 z = some (.tup (us.drop (i + 1))) ∧ H6 l = some (.lst ps) ∧ PtVs H6 ps (ptsMet s t) ∧ Gs P w H D R ob E (Dn2 E i s m t n) H6)
          ⟨_, _, rfl, s5 _ _ ez, hl, hps, (g4.ms s5).congr fun g _ r => Dn2_zero⟩ (fun n σ' H6 _ ⟨_, _, _, _, e, _⟩ => .of e) (fun n v σ' H6 hv6 ⟨x1, x6, eσ, ez6, el6, hps6, g6⟩ => ?_) (fun σ' H6 ⟨x1, x6, eσ, ez6, el6, hps6, g6⟩ => ?_)
        · subst eσ
          obtain ⟨p, hp, hvp⟩ := paired_get hps6 hv6
          refine ⟨_, rfl, _, rfl, by show 2 ≤ sizeLine; decide, fun T4 n4 => ⟨T4, rfl, ⟨_, .of upd_same⟩, ?_⟩⟩
          have s7 := sm_new (o := .tup [x, y]) n4
          refine for_tup (K := K) (a := T4) (xs := [x, y]) (fun u σ' H7 => ∃ x1, σ' = [some (.ref a), x1, some (.ref D), some (.int i), some x, some y, some v] ∧ H7 z = some (.tup (us.drop (i + 1))) ∧ H7 l = some (.lst ps) ∧ H7 T4 = some (.tup [x, y]) ∧ PtVs H7 ps (ptsMet s t) ∧ Gs P w H D R ob E (Dn4 E i s m t n p u) H7)
            ⟨_, rfl, s7 _ _ ez6, s7 _ _ el6, upd_same, hps6.ms s7, (g6.ms s7).congr fun g _ r => ⟨fun h => .inl (.inl h), fun h => h.elim (fun h => h.elim id fun h => absurd h.1 (by decide)) fun h => absurd h.1 (by decide)⟩⟩
            (fun u σ' H7 _ ⟨_, _, _, _, e, _⟩ => .of e) (fun u wv σ' H7 hw ⟨x1, eσ, ez7, el7, eT7, hps7, g7⟩ => ?_) (fun σ' H7 ⟨x1, eσ, ez7, el7, eT7, hps7, g7⟩ => ?_)
          · subst eσ
            have ⟨gu, hgu, hguE, step⟩ : ∃ gu, SgV H wv gu ∧ gu ∈ E ∧ ∀ k r, (Dn4 E i s m t n p u k r ∨ (k = gu ∧ r = p)) ↔ Dn4 E i s m t n p (u + 1) k r := by
              match u, hw with
              | 0, hw =>
                refine ⟨s, by rw [← Option.some.inj hw]; exact hxs, hsE, fun k r => ⟨?_, ?_⟩⟩
                · rintro (((h | h) | h) | h)
                  · exact .inl (.inl h)
                  · exact absurd h.1 (by decide)
                  · exact absurd h.1 (by decide)
                  · exact .inl (.inr ⟨by decide, h⟩)
                · rintro ((h | h) | h)
                  · exact .inl (.inl (.inl h))
                  · exact .inr h.2
                  · exact absurd h.1 (by decide)
              | 1, hw =>
                refine ⟨t, by rw [← Option.some.inj hw]; exact hyt, htE, fun k r => ⟨?_, ?_⟩⟩
                · rintro (((h | h) | h) | h)
                  · exact .inl (.inl h)
                  · exact .inl (.inr ⟨by decide, h.2⟩)
                  · exact absurd h.1 (by decide)
                  · exact .inr ⟨by decide, h⟩
                · rintro ((h | h) | h)
                  · exact .inl (.inl (.inl h))
                  · exact .inl (.inl (.inr ⟨by decide, h.2⟩))
                  · exact .inr h.2
            obtain ⟨v', hv', hvp7⟩ := paired_get' hps7 hp
            rw [hv6] at hv'
            cases hv'
            refine ⟨_, rfl, _, rfl, p, gu, hvp7, hgu.ms g7.same, _, rfl, ?_⟩
            by_cases hc : p ≠ gu.1 ∧ p ≠ gu.2
            · obtain ⟨r, hr, er⟩ := List.mem_map.mp (show gu ∈ keys R by rw [G.keys]; exact hguE)
              obtain ⟨d, kvs, ed, hd7, hlen, _, g8⟩ := g7.put G hc.1 hc.2 (Dn4_sub pw hs ht hp) hE hr er
              obtain ⟨b, eb, hb⟩ := id hvp7
              refine itP hc ⟨_, rfl, _, rfl, D, R, r, rfl, g7.dc G, hr, (by rw [er]; exact hgu.ms g7.same), _, rfl, d, _, ed, (by rw [eb]; exact DPut.t hd7 (k := [Sum.inl p.1, Sum.inl p.2]) hb hlen), ?_⟩
              refine ⟨_, rfl, ?_, ?_, ?_, hps7.mono (Tps.set hd7 fun xs y => by cases y), g8.congr fun k _ r => step k r⟩
              · rw [upd_ne (ne_of ez7 hd7 (by intro y; cases y))]; exact ez7
              · rw [upd_ne (ne_of el7 hd7 (by intro y; cases y))]; exact el7
              · rw [upd_ne (ne_of eT7 hd7 (by intro y; cases y))]; exact eT7
            · exact itN hc ⟨_, rfl, ez7, el7, eT7, hps7, (g7.skip hc).congr fun k _ r => step k r⟩
          · subst eσ
            exact ⟨_, _, rfl, ez7, el7, hps7, g7.congr fun k _ r => Iff.trans ⟨fun h => h.elim (fun h => h.elim (fun h => .inl (.inl h)) fun h => .inl (.inr h.2)) fun h => .inr h.2, fun h => h.elim (fun h => h.elim (fun h => .inl (.inl h)) fun h => .inl (.inr ⟨Nat.zero_lt_succ _, h⟩)) fun h => .inr ⟨(show 1 < 2 by decide), h⟩⟩ (Dn2_step hp)⟩
        · subst eσ
          rw [lps] at g6
          exact ⟨_, _, _, rfl, ez6, g6.congr fun k _ r => Dn2_last ht⟩
      · subst eσ
        rw [List.length_drop, lu] at g4
        exact ⟨_, _, _, _, _, rfl, g4.congr fun k _ r => Dn1_last hs⟩
    · subst eσ
      rw [lu] at gs
      obtain ⟨F0, sta, hF⟩ := gs.fs
      have hT2 : Tabs (TA PT) H2 := hT.ext gs.same
      have dc2 := gs.dc G
      have hd2 := gs.dic
      refine ⟨_, rfl, a, rfl, ⟨_, .of (gs.same _ _ ha)⟩, fun D2 ob0 hD2 => ?_⟩
      refine kc_tup (P := P) (w := w) (K := K) (a := a) (xs := us) (fun i H3 => ∃ R2 ob2 c, ExtN H2 H3 ∧ Tabs (TA PT) H3 ∧ H3 D2 = some (DicO P w D2 R2 ob2) ∧ keys R2 = E.take i ∧ (∀ r ∈ R2, SgV H3 (.ref r.1) r.2.1) ∧ (∀ r ∈ R2, ∃ l ps, r.2.2 = .ref l ∧ H3 l = some (.lst ps) ∧ PtVs H3 ps (c r.2.1)) ∧ ∀ r ∈ R2, Cuts E r.2.1 (c r.2.1))
        ⟨[], ob0, fun _ => [], ExtN.of (sm_new hD2), hT2.ext (sm_new hD2), upd_same, rfl, by simp, by simp, by simp⟩ (fun i H3 _ ⟨_, _, _, ex, _⟩ => .of (ex a _ (gs.same _ _ ha) (fun q z => by cases z))) (fun i x H3 hx ⟨R2, ob2, c, ex, tb, hd3, hk, hsg, hin, hcu⟩ => ?_) (fun H3 ⟨R2, ob2, c, ex, tb, hd3, hk, hsg, hin, hcu⟩ => ?_)
      · obtain ⟨g, hg, hxg⟩ := paired_get hv hx
        have hgE : g ∈ E := List.mem_of_getElem? hg
        obtain ⟨ax, _, _, ex1, _⟩ := id hxg
        subst ex1
        have li : i < E.length := (List.getElem?_eq_some_iff.mp hg).1
        have lR : R2.length = i := by
          have := congrArg List.length hk
          rw [List.length_map, List.length_take] at this
          omega
        have tp3 : Tps H2 H3 := tps_ext ex
        have hg3 : SgV H3 (.ref ax) g := (hxg.ms gs.same).mono tp3
        have dc3 : Dc P w H3 D R := dc2.mono tp3 fun o e => by
          rw [hd2] at e
          cases e
          exact ex D _ hd2 (fun q z => by cases z)
        obtain ⟨r, hr, er⟩ := List.mem_map.mp (show g ∈ keys R by rw [G.keys]; exact hgE)
        obtain ⟨d, ed, hd⟩ := hF r hr
        rw [er] at hd
        have hd3' : H3 d = some (.dT ((F0 g).map ptK)) := ex d _ hd (fun q z => by cases z)
        have flen := sta.len (sub0 pw _) hgE
        refine ⟨rfl, _, rfl, _, rfl, _, rfl, _, rfl, D, R, r, rfl, dc3, hr, by rw [er]; exact hg3, _, d, g, F0 g, by rw [ed]; rfl, hg3, hd3', by omega, fun p hp => ?_, tb, fun H4 l us4 qs ex4 tb4 hl hqs pm pwq => ?_⟩
        · obtain ⟨_, _, hdn⟩ := (sta.mem g hgE p).mp hp
          obtain ⟨t, ht, _, hm⟩ := sub0 pw _ g hgE p hdn
          exact ((pm_sound (ok g hgE) (ok t ht) hm).rnd).far (ok g hgE)
        · have tp4 : Tps H3 H4 := tps_ext ex4
          have cu : Cuts E g qs := sta.cuts pw hgE pm pwq
          have hd4 : H4 D2 = some (DicO P w D2 R2 ob2) := ex4 _ _ hd3 (fun q z => by cases z)
          refine ⟨R2, ax, g, rfl, ⟨⟨ob2, hd4⟩, fun r' hr' => (hsg r' hr').mono tp4⟩, hg3.mono tp4, ?_, by omega, fun ob' => ?_⟩
          · show g ∉ keys R2
            rw [hk]
            exact take_nodup nd hg
          · have nk : ∀ r' ∈ R2, r'.2.1 ≠ g := fun r' hr' z => take_nodup nd hg (by rw [← hk, ← z]; exact List.mem_map_of_mem hr')
            have tpD : Tps H4 (upd H4 D2 (DicO P w D2 (R2 ++ [(ax, g, V.ref l)]) ob')) := Tps.set hd4 fun xs y => by cases y
            have lD : ∀ l' ps, H4 l' = some (.lst ps) → upd H4 D2 (DicO P w D2 (R2 ++ [(ax, g, V.ref l)]) ob') l' = some (.lst ps) := fun l' ps e => by
              rw [upd_ne (ne_of e hd4 (by intro y; cases y))]; exact e
            refine ⟨R2 ++ [(ax, g, .ref l)], ob', fun k => if k = g then qs else c k, fun b o e ne => ?_, ?_, upd_same, ?_, ?_, ?_, ?_⟩
            · rw [upd_ne (ne_of_none e hD2)]
              exact ex4 b o (ex b o e ne) ne
            · intro pr hpr
              obtain ⟨ps', h1, h2, h3⟩ := tb4 pr hpr
              refine ⟨ps', ?_, h2, fun pos cv hcv => ?_⟩
              · rw [upd_ne (ne_of h1 hd4 (by intro y; cases y))]; exact h1
              · obtain ⟨c1, e1, e2⟩ := h3 pos cv hcv
                refine ⟨c1, e1, ?_⟩
                rw [upd_ne (fun y => ?_)]
                · exact e2
                · rw [y, hd4] at e2
                  exact dic_ne_code (Option.some.inj e2)
            · show (R2 ++ [(ax, g, V.ref l)]).map (·.2.1) = _
              rw [List.map_append, List.take_add_one, hg]
              show keys R2 ++ _ = _
              rw [hk]; rfl
            · intro r' hr'
              rcases List.mem_append.mp hr' with hr' | hr'
              · exact ((hsg r' hr').mono tp4).mono tpD
              · rw [List.mem_singleton.mp hr']
                exact (hg3.mono tp4).mono tpD
            · intro r' hr'
              rcases List.mem_append.mp hr' with hr' | hr'
              · obtain ⟨l', ps', e1, e2, e3⟩ := hin r' hr'
                refine ⟨l', ps', e1, lD _ _ (ex4 _ _ e2 (fun q z => by cases z)), ?_⟩
                simp only [if_neg (nk r' hr')]
                exact (e3.mono tp4).mono tpD
              · rw [List.mem_singleton.mp hr']
                refine ⟨l, us4, rfl, lD _ _ hl, ?_⟩
                simp only [if_true]
                exact hqs.mono tpD
            · intro r' hr'
              rcases List.mem_append.mp hr' with hr' | hr'
              · simp only [if_neg (nk r' hr')]
                exact hcu r' hr'
              · rw [List.mem_singleton.mp hr']
                simp only [if_true]
                exact cu
      · rw [lu, List.take_length] at hk
        refine q H3 D2 R2 c (ExtN.trans (ExtN.of gs.same) ex) tb ⟨⟨⟨ob2, hd3⟩, hsg⟩, hin⟩ hk fun g hg => ?_
        obtain ⟨r, hr, er⟩ := List.mem_map.mp (show g ∈ keys R2 by rw [hk]; exact hg)
        rw [← er]
        exact hcu r hr
end
end K25

set_option Elab.async false
set_option linter.all false
set_option maxRecDepth 100000
set_option maxHeartbeats 4000000
/-! The walk, thirteen: cleaned. Own text. -/
namespace K25
open PySem PySem.Spec PyProof.Rows L2 K25S LamX
/-- a chain: a tuple of points -/
def ChV (H : Hp) (v : V) (ch : List Pt) : Prop := ∃ b vs, v = .ref b ∧ H b = some (.tup vs) ∧ PtVs H vs ch
theorem ChV.mono {H H' : Hp} (t : Tps H H') {v : V} {ch : List Pt} (h : ChV H v ch) : ChV H' v ch := let ⟨b, vs, e, hb, hp⟩ := h; ⟨b, vs, e, t _ _ hb, hp.mono t⟩
def ChVs (H : Hp) (vs : List V) (chs : List (List Pt)) : Prop := Paired (ChV H) vs chs
theorem ChVs.mono {H H' : Hp} (t : Tps H H') {vs : List V} {chs : List (List Pt)} (h : ChVs H vs chs) : ChVs H' vs chs := Paired.mapP h fun _ _ => ChV.mono t
/-- all crossings of the first round are whole points, as the law asks it -/
def AllWh (S : List Sg) : Prop := ∀ (i j : Nat) (s t : Sg), i < j → S[i]? = some s → S[j]? = some t → LawWhole s t
theorem AllWh.allW {S E : List Sg} (ok : ∀ s ∈ S, Ok s) (h : AllWh S) (e : ∀ g, g ∈ E ↔ g ∈ S) : AllW E := by
  refine ⟨fun s hs => ok s ((e s).mp hs), fun s hs t ht ne => ?_⟩
  have hs' := (e s).mp hs
  have ht' := (e t).mp ht
  obtain ⟨i, hi⟩ := List.mem_iff_getElem?.mp hs'
  obtain ⟨j, hj⟩ := List.mem_iff_getElem?.mp ht'
  rcases Nat.lt_trichotomy i j with z | z | z
  · exact (h i j s t z hi hj).whole (ok s hs') (ok t ht')
  · rw [z, hj] at hi
    exact absurd (Option.some.inj hi).symm ne
  · exact ((h j i t s z hj hi).whole (ok t ht') (ok s hs')).symm (ok t ht')
def Cov (S E : List Sg) : Prop := ∀ D X Y : Int, 0 < D → ((∃ s ∈ S, On D X Y s) ↔ ∃ e ∈ E, On D X Y e)
/-- what cleaned promises of its answer -/
structure Ans (S E : List Sg) (chs : List (List Pt)) (n : Nat) : Prop where
  ok : ∀ g ∈ E, Ok g
  few : E.length ≤ 300
  chain : Paired (Chain E) S chs
  whole : AllWh S → n ≤ 1 ∧ Cov S E
/-- what holds ahead of each round -/
structure Rst (S E : List Sg) (c : Sg → List Pt) (chs : List (List Pt)) (n : Nat) : Prop where
  ok : ∀ g ∈ E, Ok g
  pw : E.Pairwise SLt
  pot : pot E ≤ 300
  cuts : ∀ g ∈ E, Cuts E g (c g)
  chain : Paired (Chain E) S chs
  cps : ∀ ch ∈ chs, cp ch ≤ 400
  whole : AllWh S → (n = 0 ∧ ∀ g, g ∈ E ↔ g ∈ S) ∨ (n = 1 ∧ (∀ g ∈ E, c g = []) ∧ Cov S E)
theorem Rst.few {S E : List Sg} {c : Sg → List Pt} {chs : List (List Pt)} {n : Nat} (r : Rst S E c chs n) : E.length ≤ 300 :=
  Nat.le_trans (len_le_pot fun g hg => wt_pos (r.ok g hg)) r.pot
theorem Rst.ans {S E : List Sg} {c : Sg → List Pt} {chs : List (List Pt)} {n : Nat} (r : Rst S E c chs n) : Ans S E chs n := by
  refine ⟨r.ok, r.few, r.chain, fun h => ?_⟩
  rcases r.whole h with ⟨a, b⟩ | ⟨a, _, b⟩
  · refine ⟨by omega, fun D X Y _ => ⟨fun ⟨s, hs, o⟩ => ⟨s, (b s).mpr hs, o⟩, fun ⟨s, hs, o⟩ => ⟨s, (b s).mp hs, o⟩⟩⟩
  · exact ⟨by omega, b⟩
theorem paired_map_right {α β γ : Type} {F : α → β → Prop} {G : α → γ → Prop} {f : β → γ} : ∀ {l : List α} {m : List β}, Paired F l m → (∀ a b, b ∈ m → F a b → G a (f b)) → Paired G l (m.map f)
  | _, _, .nil, _ => .nil
  | _, _, .cons r t, h => .cons (h _ _ (by simp) r) (paired_map_right t fun a b m => h a b (List.mem_cons_of_mem _ m))
/-- a round with a cut -/
theorem Rst.next {S E E' : List Sg} {c c' : Sg → List Pt} {chs : List (List Pt)} {n : Nat} (okS : ∀ s ∈ S, Ok s) (r : Rst S E c chs n) (some : ∃ g ∈ E, c g ≠ []) (d : Rd1 E E' c) (hc' : ∀ g ∈ E', Cuts E' g (c' g)) : Rst S E' c' (chs.map (lengthen c)) (n + 1) ∧ K25.pot E' < K25.pot E := by
  obtain ⟨g0, hg0, ne0⟩ := some
  have l0 : 1 ≤ (c g0).length := by
    cases h : c g0 with
    | nil => exact absurd h ne0
    | cons x l => simp
  have l1 := mem_length_le (c := c) hg0
  have le := d.le
  have hE : ∀ e ∈ E, ∀ f ∈ pcs (row e (c e)), f ∈ E' := fun e he f hf => (d.mem f).mpr (mem_cutUp.mpr ⟨e, he, hf⟩)
  have rp := r.pot
  refine ⟨⟨d.ok, d.pw, by omega, hc', ?_, ?_, fun h => ?_⟩, by omega⟩
  · exact paired_map_right r.chain fun s ch hm h => h.step r.ok r.cuts hE
  · intro ch hm
    obtain ⟨ch0, h0, rfl⟩ := List.mem_map.mp hm
    have : ∃ s, Chain E s ch0 := by
      obtain ⟨i, hi⟩ := List.mem_iff_getElem?.mp h0
      obtain ⟨s, _, hs⟩ := paired_get' r.chain hi
      exact ⟨s, hs⟩
    obtain ⟨s, hs⟩ := this
    rw [cp_lengthen r.ok r.cuts hs.nb]
    exact r.cps ch0 h0
  · rcases r.whole h with ⟨a, b⟩ | ⟨_, b, _⟩
    · have A := h.allW okS b
      refine .inr ⟨by omega, fun g hg => whole_clean A r.cuts d.mem hg (hc' g hg), fun D X Y hD => ?_⟩
      rw [← whole_cover A r.cuts d.mem hD]
      exact ⟨fun ⟨s, hs, o⟩ => ⟨s, (b s).mpr hs, o⟩, fun ⟨s, hs, o⟩ => ⟨s, (b s).mp hs, o⟩⟩
    · exact absurd (b g0 hg0) ne0
section
variable {P : Program} {w : World} {K : PySem.W.Frag} {mg : Str → Option Value} {base : Heap} {f : Addr} {fd : FuncData}
theorem sc_cleaned : FnScope ["segments", "edges", "chains", "rounds", "cuts", "row", "chain"] ["segments"] (defScope s_cleaned) := ⟨rfl, rfl, rfl, by decide +kernel, rfl, by decide +kernel, by decide +kernel⟩
def spCleaned (P : Program) (w : World) (PT : Addr) : Sp := fun vs H Q _ => ∃ (a : Addr) (us : List V) (S : List Sg), vs = [.ref a] ∧ H a = some (.tup us) ∧ SgVs H us S ∧ (∀ g ∈ S, Ok g) ∧ S.length ≤ 40 ∧ pot S ≤ 300 ∧ Tabs (TA PT) H ∧
  ∀ H' o ea ca (n : Nat) ue uc E chs, ExtN H H' → Tabs (TA PT) H' → H' o = some (.tup [.ref ea, .ref ca, .int n]) → H' ea = some (.tup ue) → SgVs H' ue E → H' ca = some (.tup uc) → ChVs H' uc chs → Ans S E chs n → Q (.ref o) H'
theorem call_lenK {X : Cx} (e : X.K = K) : CallR X (.builtin "len") (fun xs H Q => ∃ p xs', xs = [.ref p] ∧ (SqL K H p xs' ∨ SqT K H p xs') ∧ Q (.int xs'.length) H) := by
  subst e
  exact call_len_seq
theorem bT {b : Bool} {A B : Prop} (h : b = true) (a : A) : if b = true then A else B := by rw [if_pos h]; exact a
theorem bF {b : Bool} {A B : Prop} (h : ¬ b = true) (a : B) : if b = true then A else B := by rw [if_neg h]; exact a
theorem SgV.chv {H : Hp} {v : V} {g : Sg} (h : SgV H v g) : ChV H v [g.1, g.2] := let ⟨a, v1, v2, e, ha, h1, h2⟩ := h; ⟨a, [v1, v2], e, ha, .cons h1 (.cons h2 .nil)⟩
theorem wt_le_pot : ∀ {S : List Sg} {s : Sg}, s ∈ S → wt s ≤ pot S
  | x :: S, s, h => by
    rw [pot_cons]
    rcases List.mem_cons.mp h with rfl | h
    · omega
    · have := wt_le_pot h
      omega
theorem paired_self {α β : Type} {F : α → β → Prop} {f : α → β} : ∀ {l : List α}, (∀ x ∈ l, F x (f x)) → Paired F l (l.map f)
  | [], _ => .nil
  | x :: l, h => .cons (h x (by simp)) (paired_self fun y hy => h y (List.mem_cons_of_mem _ hy))
theorem Rst.init {S E : List Sg} {c : Sg → List Pt} (ok : ∀ s ∈ S, Ok s) (hp : K25.pot S ≤ 300) (pw : E.Pairwise SLt) (mem : ∀ g, g ∈ E ↔ g ∈ S) (cu : ∀ g ∈ E, Cuts E g (c g)) : Rst S E c (S.map fun s => [s.1, s.2]) 0 := by
  refine ⟨fun g hg => ok g ((mem g).mp hg), pw, Nat.le_trans (pot_le (pw.imp fun h => h.ne) fun g hg => (mem g).mp hg) hp, cu, paired_self fun s hs => Chain.start (ok s hs) ((mem s).mpr hs), fun ch hm => ?_, fun _ => .inl ⟨rfl, mem⟩⟩
  obtain ⟨s, hs, rfl⟩ := List.mem_map.mp hm
  have h1 := wt_le_pot hs
  have h2 : K25.pot (pcs [s.1, s.2]) = wt s := by
    show K25.pot (sg s.1 s.2 :: []) = _
    rw [pot_cons, sg_lt (ok s hs).2.2]
    show wt s + 0 = _
    omega
  unfold cp
  rw [h2]
  simp only [List.length_cons, List.length_nil]
  omega
theorem Chain.two {E : List Sg} {s : Sg} {ch : List Pt} (h : Chain E s ch) : 2 ≤ ch.length := by
  obtain ⟨m, e⟩ := h.form
  rw [e]
  simp only [List.length_cons, List.length_append, List.length_nil]
  omega
theorem ok_cleaned (T : Nm mg) {PT : Addr} (CCh : Cal P w K mg base 4 "check_segments" ["segments"] spChks) (CUn : Cal P w K mg base 1 "unlike" ["segments"] (spUnlike K)) (CCu : Cal P w K mg base 8 "cuts_of" ["segments"] (spCuts P w PT)) (CUp : Cal P w K mg base 2 "cut_up" ["cuts"] (spCutUp P w)) (CLe : Cal P w K mg base 1 "lengthened" ["chain", "cuts"] (spLengthened P w))
    (F : FnP K "cleaned" s_cleaned f fd) : FnOk P w K mg base CX0 9 f fd ["segments"] (spCleaned P w PT) := by
  obtain ⟨t, hF⟩ := T.edges
  refine F.ok sc_cleaned (fun vs H Q E h => ?_) (fun cdv A outer s H vs Q E hr h => ⟨_, PSs.nox (
    pss_cons (ps_expr (pe_cal CCh hr (by decide) rfl (pa_cons (pv 0) pa_nil)))
    (pss_cons (ps_set (i := 1) sc_cleaned.nd rfl (.inl rfl) (pe_cal CUn hr (by decide) rfl (pa_cons (pv 0) pa_nil)))
    (pss_cons (ps_set (i := 2) sc_cleaned.nd rfl (.inl rfl) (pe_callTy call_list_of rfl T.list (by decide +kernel) (pa_cons (pv 0) pa_nil)))
    (pss_cons (ps_set (i := 3) sc_cleaned.nd rfl (.inl rfl) pe_int)
    (pss_cons (ps_set (i := 4) sc_cleaned.nd rfl (.inr rfl) (pe_cal CCu hr (by decide) rfl (pa_cons (pv 1) pa_nil)))
    (pss_cons (ps_while PassesOwn.never (pt_val (pe_callB (cr_any rfl) rfl T.any (by decide +kernel) (pa_cons (pe_lc (own := [("row", 5)]) (g := gName 5) (tt := tYes) rfl sc_cleaned.nd (pi_kvs (pv 4)) (blkOk_by (N := ["segments", "edges", "chains", "rounds", "cuts", "row", "chain"]) (sc := defScope s_cleaned) (by decide +kernel))
        (fun _ _ _ _ _ => pg_name (i := 5) sc_cleaned.nd rfl (Or.inl rfl)) (fun _ _ _ _ _ => pts_nil) (fun _ _ _ _ _ => pe_cmpR op_gt (pe_callB (call_lenK (K := K) rfl) rfl T.len boot_len (pa_cons (pv 5) pa_nil)) pe_int (nomark _))) pa_nil)))
      (pss_cons (ps_set (i := 3) sc_cleaned.nd rfl (.inl rfl) (pe_op op_add (pv 3) pe_int))
      (pss_cons (ps_set (i := 1) sc_cleaned.nd rfl (.inl rfl) (pe_cal CUp hr (by decide) rfl (pa_cons (pv 4) pa_nil)))
      (pss_cons (ps_if (pt_cmpR op_gt (pe_callB call_len_seq rfl T.len boot_len (pa_cons (pv 1) pa_nil)) (pe_glob (v := .int 400) rfl hF ⟨_, rfl⟩) (nomark _)) pss_never pss_nil)
      (pss_cons (ps_setLc (i := 2) (own := [("chain", 6)]) (g := gName 6) (tt := tYes) rfl sc_cleaned.nd rfl rfl (sw_true rfl rfl rfl (by decide +kernel)) (pi_list (pv 2)) (blkOk_by (N := ["segments", "edges", "chains", "rounds", "cuts", "row", "chain"]) (sc := defScope s_cleaned) (by decide +kernel))
        (fun _ _ _ _ _ => pg_name (i := 6) sc_cleaned.nd rfl (Or.inl rfl)) (fun _ _ _ _ _ => pts_nil) (fun _ _ _ _ _ => pe_cal CLe hr (by decide) rfl (pa_cons (pv 6) (pa_cons (pv 4) pa_nil))))
      (pss_one (ps_set (i := 4) sc_cleaned.nd rfl (.inr rfl) (pe_cal CCu hr (by decide) rfl (pa_cons (pv 1) pa_nil)))))))))
    (pss_one (ps_ret (pe_tup (pa_cons (pv 1) (pa_cons (pe_callTy call_tuple_of rfl T.tuple (by decide +kernel) (pa_cons (pv 2) pa_nil)) (pa_cons (pv 3) pa_nil)))))))))))), ?_⟩)
  · obtain ⟨_, _, _, rfl, _⟩ := h
    rfl
  · obtain ⟨a, us, S, rfl, ha, hv, ok, hS, hpot, hT, q⟩ := h
    refine ⟨_, rfl, a, us, S, rfl, ha, hv, ok, hS, fun H1 s1 => ?_⟩
    refine ⟨_, rfl, a, us, S, rfl, .inr (.of (s1 _ _ ha)), hv.ms s1, by omega, fun H2 ea ue E0 s2 hea hE pwE memE => ?_⟩
    have s12 := s1.trans s2
    refine ⟨_, rfl, a, us, rfl, .inr (.of (s12 _ _ ha)), fun ca hca => ?_⟩
    have s3 := sm_new (o := .lst us) hca
    have s123 := s12.trans s3
    have okE : ∀ g ∈ E0, Ok g := fun g hg => ok g ((memE g).mp hg)
    have lE : E0.length ≤ 300 := Nat.le_trans (len_le_pot fun g hg => wt_pos (okE g hg)) (Nat.le_trans (pot_le (pwE.imp fun h => h.ne) fun g hg => (memE g).mp hg) hpot)
    refine ⟨_, rfl, ea, ue, E0, rfl, s3 _ _ hea, hE.ms s3, okE, pwE, lE, hT.ext s123, fun H4 D R c ex tb cd hk cu => ?_⟩
    have tp4 : Tps _ H4 := tps_ext ex
    have hv4 : SgVs H4 us S := (hv.ms s123).mono tp4
    refine ⟨fun m σ' H' => ∃ ea ca D ue E ul chs R c n x5 x6, σ' = [some (.ref a), some (.ref ea), some (.ref ca), some (.int (n : Nat)), some (.ref D), x5, x6] ∧ m = K25.pot E ∧ ExtN H H' ∧ Tabs (TA PT) H' ∧ H' ea = some (.tup ue) ∧ SgVs H' ue E ∧ H' ca = some (.lst ul) ∧ ChVs H' ul chs ∧ CutsD P w H' D R c ∧ keys R = E ∧ Rst S E c chs n,
      ⟨_, ea, ca, D, ue, E0, us, _, R, c, 0, none, none, rfl, rfl, (ExtN.of s123).trans ex, tb, ex _ _ (s3 _ _ hea) (fun q z => by cases z), (hE.ms s3).mono tp4, ex _ _ upd_same (fun q z => by cases z), paired_map_right hv4 (fun v g _ h => h.chv), cd, hk, Rst.init ok hpot pwE memE cu⟩, ?_⟩
    clear cd hk cu tb ex tp4 hv4 lE okE memE pwE hE hea c R D H4
    rintro m σ' H' ⟨ea, ca, D, ue, E, ul, chs, R, c, n, x5, x6, rfl, rfl, ex, tb, hea, hE, hca', hch, cd, hk, rst⟩
    have ⟨ob, hob⟩ := cd.1.1
    have cuR : ∀ r ∈ R, r.2.1 ∈ E := fun r hr => by rw [← hk]; exact List.mem_map_of_mem hr
    refine ⟨_, rfl, D, R, ob, rfl, hob, fun L hL => ?_⟩
    refine lc_sq (G := DcG P w D R ob) (fun i H5 => Same H' H5 ∧ H5 L = some (.lst (((R.map fun r => decide (0 < (c r.2.1).length)).take i).map V.bl))) ⟨sm_new hL, upd_same⟩ (fun i H5 _ h => h.1 _ _ hob) (fun i x H5 hx ⟨sm, e⟩ => ?_) (fun H5 ⟨sm, e⟩ => ?_)
    · rw [List.getElem?_map] at hx
      have hi : i < R.length := by
        rcases Nat.lt_or_ge i R.length with z | z
        · exact z
        · rw [List.getElem?_eq_none z] at hx; cases hx
      rw [List.getElem?_eq_getElem hi] at hx
      have hx : (R[i]).2.2 = x := Option.some.inj hx
      have hri : R[i] ∈ R := List.getElem_mem hi
      obtain ⟨l, ps, el, hl, hp⟩ := cd.2 _ hri
      rw [← hx, el]
      have lp : ps.length = (c (R[i]).2.1).length := Paired.length hp
      have lR : R.length ≤ 300 := by
        have := rst.few
        rw [← hk, List.length_map] at this
        exact this
      refine ⟨rfl, _, rfl, l, ps, rfl, .inl (.of (sm _ _ hl)), _, _, rfl, rfl, _, e, ?_, sm_set sm hL, ?_⟩
      · rw [List.length_map, List.length_take, List.length_map]
        exact Nat.lt_of_le_of_lt (show min i R.length ≤ 300 by omega) (by decide)
      · rw [upd_same, List.take_add_one, List.map_append]
        have e2 : (R.map fun r => decide (0 < (c r.2.1).length))[i]? = some (decide (0 < (c (R[i]).2.1).length)) := by rw [List.getElem?_map, List.getElem?_eq_getElem hi]; rfl
        rw [e2]
        have e3 : decide ((ps.length : Int) > 0) = decide (0 < (c (R[i]).2.1).length) := by
          rw [Bool.eq_iff_iff, decide_eq_true_iff, decide_eq_true_iff]
          omega
        show some (HO.lst (_ ++ [V.bl (decide ((ps.length : Int) > 0))])) = _
        rw [e3]
        rfl
    · rw [show (R.map (·.2.2)).length = (R.map fun r => decide (0 < (c r.2.1).length)).length by simp, List.take_length] at e
      refine ⟨L, _, rfl, .of e, _, rfl, ?_⟩
      by_cases hany : (R.map fun r => decide (0 < (c r.2.1).length)).any id = true
      · refine bT hany ?_
        have some' : ∃ g ∈ E, c g ≠ [] := by
          rw [List.any_map, List.any_eq_true] at hany
          obtain ⟨r, hr, h⟩ := hany
          refine ⟨r.2.1, cuR r hr, fun z => ?_⟩
          simp [z] at h
        refine ⟨fun σ'' H'' => ∃ m', m' < K25.pot E ∧ ∃ ea ca D ue E ul chs R c n x5 x6, σ'' = [some (.ref a), some (.ref ea), some (.ref ca), some (.int (n : Nat)), some (.ref D), x5, x6] ∧ m' = K25.pot E ∧ ExtN H H'' ∧ Tabs (TA PT) H'' ∧ H'' ea = some (.tup ue) ∧ SgVs H'' ue E ∧ H'' ca = some (.lst ul) ∧ ChVs H'' ul chs ∧ CutsD P w H'' D R c ∧ keys R = E ∧ Rst S E c chs n, fun _ _ h => h, ?_⟩
        have lcs : ∀ g ∈ E, (c g).length ≤ 600 := fun g hg => by
          have := (rst.cuts g hg).len
          have := rst.few
          omega
        refine ⟨_, rfl, _, _, rfl, rfl, ?_⟩
        refine ⟨_, rfl, D, R, c, rfl, cd.ms sm, fun r hr => Nat.le_trans (lcs _ (cuR r hr)) (by decide), ?_, fun H6 ea' ue' E' s6 hea' hE' pw' mem' => ?_⟩
        · rw [hk]
          exact Nat.le_trans (cutUp_len rst.ok rst.cuts) rst.pot
        rw [hk] at mem'
        have rd := round_of rst.ok rst.cuts pw' mem'
        have sm6 := sm.trans s6
        have lE' : E'.length ≤ 300 := by
          have h1 := len_le_pot fun g hg => wt_pos (rd.ok g hg)
          have h2 := rd.le
          have h3 := rst.pot
          omega
        have lue : ue'.length ≤ 300 := by rw [Paired.length hE']; exact lE'
        refine ⟨_, rfl, _, _, rfl, .inr (.of hea'), _, _, rfl, rfl, _, rfl, itN (by omega) ?_⟩
        refine ⟨_, rfl, ca, rfl, ⟨_, .of (sm6 _ _ hca')⟩, fun L2 hL2 => ?_⟩
        refine lc_list (K := K) (a := ca) (xs := ul) (fun i H7 => ∃ vs', Same H6 H7 ∧ H7 L2 = some (.lst vs') ∧ ChVs H7 vs' ((chs.map (lengthen c)).take i)) ⟨[], sm_new hL2, upd_same, .nil⟩ (fun i H7 _ ⟨_, s7, _⟩ => .of (s7 _ _ (sm6 _ _ hca'))) (fun i x H7 hx ⟨vs', s7, e7, h7⟩ => ?_) (fun H7 ⟨vs', s7, e7, h7⟩ => ?_)
        · obtain ⟨ch, hci, ⟨b, pvs, rfl, hb, hpv⟩⟩ := paired_get hch hx
          obtain ⟨s0, hs0, chn⟩ := paired_get' rst.chain hci
          have sm7 := sm6.trans s7
          have cpl := rst.cps ch (List.mem_of_getElem? hci)
          have cpe := cp_lengthen rst.ok rst.cuts chn.nb
          have lch : (lengthen c ch).length ≤ 400 := by
            unfold cp at *
            omega
          have li : i < 40 := by
            have h1 : S[i]? = some s0 := hs0
            have := (List.getElem?_eq_some_iff.mp h1).1
            omega
          refine ⟨rfl, _, rfl, _, rfl, b, D, pvs, ch, R, c, rfl, sm7 _ _ hb, hpv.ms sm7, chn.two, cd.ms sm7, by rw [hk]; exact chn.nb, by omega, fun g hg => by rw [hk] at hg; exact Nat.le_trans (lcs g hg) (by decide), fun H8 t vs8 s8 ht hp8 => ?_⟩
          have lv : vs'.length ≤ i := by
            rw [Paired.length h7, List.length_take]
            exact Nat.min_le_left _ _
          have tp : Tps H8 (upd H8 L2 (.lst (vs' ++ [.ref t]))) := Tps.set (s8 _ _ e7) (fun xs z => by cases z)
          refine ⟨vs', s8 _ _ e7, Nat.lt_of_le_of_lt (show vs'.length ≤ 40 by omega) (by decide), vs' ++ [.ref t], fun bb o hh => ?_, upd_same, ?_⟩
          · rw [upd_ne (ne_of_none hh hL2)]
            exact s8 _ _ (s7 _ _ hh)
          · rw [List.take_add_one, List.getElem?_map, hci]
            exact paired_app ((h7.mono (Tps.of s8)).mono tp) (.cons ⟨t, vs8, rfl, tp _ _ ht, hp8.mono tp⟩ .nil)
        · have eul : ul.length = (chs.map (lengthen c)).length := by rw [List.length_map]; exact Paired.length hch
          rw [eul, List.take_length] at h7
          have ex7 : ExtN H H7 := ex.trans (ExtN.of (sm6.trans s7))
          refine ⟨_, rfl, ea', ue', E', rfl, s7 _ _ hea', hE'.ms s7, rd.ok, pw', lE', tb.ext (sm6.trans s7), fun H9 D' R' c' ex9 tb9 cd9 hk9 cu9 => ?_⟩
          have tp9 : Tps H7 H9 := tps_ext ex9
          obtain ⟨nx, lt⟩ := rst.next ok some' rd cu9
          exact ⟨_, lt, ea', L2, D', ue', E', vs', _, R', c', n + 1, _, _, rfl, rfl, ex7.trans ex9, tb9, ex9 _ _ (s7 _ _ hea') (fun q z => by cases z), (hE'.ms s7).mono tp9, ex9 _ _ e7 (fun q z => by cases z), h7.mono tp9, cd9, hk9, nx⟩
      · refine bF hany ?_
        refine ⟨_, rfl, _, rfl, ca, ul, rfl, .inl ⟨.of (sm _ _ hca'), fun tc htc => ⟨_, rfl, by show 3 ≤ sizeLine; decide, fun o ho => ?_⟩⟩⟩
        have t1 := sm_new (o := .tup ul) htc
        have t2 := sm_new (o := .tup [.ref ea, .ref tc, .int n]) ho
        have t := (sm.trans t1).trans t2
        exact q _ o ea tc n ue ul E chs (ex.trans (ExtN.of t)) (tb.ext t) upd_same (t _ _ hea) (hE.ms t) (t2 _ _ upd_same) (hch.mono (Tps.of t)) rst.ans
end
end K25

set_option Elab.async false
set_option linter.all false
set_option maxRecDepth 100000
set_option maxHeartbeats 4000000
/-! The law's own defs, one: stream, next, gcd, low, turn. Own text. -/
namespace K25
open PySem PySem.Spec PyProof.Rows L2 K25S LamX
/-- the stream at st -/
def Strm (H : Hp) (st l : Addr) : Prop := ∃ (ns : List Int) (cell : Int) (k : Nat), H st = some (.lst [.ref l, .int cell, .int k]) ∧ H l = some (.lst (ns.map V.int))
/-- all but the stream stays -/
def But (st : Addr) (H H' : Hp) : Prop := ∀ b o, b ≠ st → H b = some o → H' b = some o
theorem But.refl (st : Addr) (H : Hp) : But st H H := fun _ _ _ h => h
theorem But.trans {st : Addr} {H H1 H2 : Hp} (a : But st H H1) (b : But st H1 H2) : But st H H2 := fun c o n h => b c o n (a c o n h)
theorem But.of {st : Addr} {H H' : Hp} (s : Same H H') : But st H H' := fun b o _ h => s b o h
theorem Strm.ms {st l : Addr} {H H' : Hp} (x : Strm H st l) (s : Same H H') : Strm H' st l := let ⟨ns, c, k, a, b⟩ := x; ⟨ns, c, k, s _ _ a, s _ _ b⟩
theorem But.tps {st l : Addr} {H H' : Hp} (b : But st H H') (x : Strm H st l) : Tps H H' := fun c xs e => b c _ (fun z => by
  obtain ⟨ns, cl, k, h, _⟩ := x
  rw [z, h] at e
  cases e) e
section
variable {P : Program} {w : World} {K : PySem.W.Frag} {mg : Str → Option Value} {base : Heap} {f : Addr} {fd : FuncData}
theorem sc_law_stream : FnScope ["_law_script"] ["_law_script"] (defScope s_law_stream) := ⟨rfl, rfl, rfl, by decide +kernel, rfl, by decide +kernel, by decide +kernel⟩
def spStream (K : PySem.W.Frag) : Sp := fun vs H Q _ => ∃ (a : Addr) (ns : List Int), vs = [.ref a] ∧ SqL K H a (ns.map V.int) ∧ ∀ H' st l, Same H H' → H st = none → H l = none → Strm H' st l → Q (.ref st) H'
theorem ok_law_stream (T : Nm mg) (F : FnP K "_law_stream" s_law_stream f fd) : FnOk P w K mg base CX0 1 f fd ["_law_script"] (spStream K) := by
  refine F.ok sc_law_stream (fun vs H Q E h => ?_) (fun cdv A outer s H vs Q E hr h => ⟨_, PSs.nox (pss_one (ps_ret (pe_lst (pa_cons (pe_callTy call_list_of rfl T.list (by decide +kernel) (pa_cons (pv 0) pa_nil)) (pa_cons pe_int (pa_cons pe_int pa_nil)))))), ?_⟩)
  · obtain ⟨_, _, rfl, _⟩ := h
    rfl
  · obtain ⟨a, ns, rfl, ha, q⟩ := h
    refine ⟨_, rfl, a, _, rfl, .inl ha, fun l hl => ⟨by show 3 ≤ sizeLine; decide, fun st hst => ?_⟩⟩
    have s1 := sm_new (o := .lst (ns.map V.int)) hl
    have s2 := sm_new (o := .lst [.ref l, .int 0, .int 0]) hst
    exact q _ st l (s1.trans s2) (s1.free hst) hl ⟨ns, 0, 0, upd_same, s2 _ _ upd_same⟩
theorem sc_law_next : FnScope ["_law_stream_here", "_law_many", "_law_k", "_law_cell", "_law_digit"] ["_law_stream_here", "_law_many"] (defScope s_law_next) := ⟨rfl, rfl, rfl, by decide +kernel, rfl, by decide +kernel, by decide +kernel⟩
def spNext : Sp := fun vs H Q _ => ∃ (st l : Addr) (many : Int), vs = [.ref st, .int many] ∧ Strm H st l ∧ 0 < many ∧ many < 1073741824 ∧ ∀ (d : Int) H', 0 ≤ d → d < many → Strm H' st l → But st H H' → Q (.int d) H'
theorem cell_bd {c : Int} (h : 0 ≤ c) (k : c < 10 ^ 18) : -(2 ^ 64) < c ∧ c < 2 ^ 64 := by
  have e : (10 : Int) ^ 18 = 1000000000000000000 := by decide
  rw [e] at k
  omega
theorem ok_law_next (T : Nm mg) (F : FnP K "_law_next" s_law_next f fd) : FnOk P w K mg base CX0 1 f fd ["_law_stream_here", "_law_many"] spNext := by
  refine F.ok sc_law_next (fun vs H Q E h => ?_) (fun cdv A outer s H vs Q E hr h => ⟨_, PSs.nox (
    pss_cons (ps_if (pt_cmpR op_eq (pe_ix ix_list (pv 0) pe_int (fun _ _ => rfl)) pe_int (nomark _))
      (pss_cons (ps_set (i := 2) sc_law_next.nd rfl (.inl rfl) (pe_ix ix_list (pv 0) pe_int (fun _ _ => rfl)))
      (pss_cons (ps_set (i := 3) sc_law_next.nd rfl (.inl rfl) (pe_op op_add pe_int (pv 2)))
      (pss_cons (ps_if (pt_cmpR op_lt (pv 2) (pe_callB call_len_seq rfl T.len boot_len (pa_cons (pe_ix ix_list (pv 0) pe_int (fun _ _ => rfl)) pa_nil)) (nomark _))
        (pss_one (ps_set (i := 3) sc_law_next.nd rfl (.inl rfl) (pe_callB call_abs rfl T.abs (by decide +kernel) (pa_cons (pe_ix ix_list (pe_ix ix_list (pv 0) pe_int (fun _ _ => rfl)) (pv 2) (fun _ _ => rfl)) pa_nil)))) pss_nil)
      (pss_cons (ps_if (pt_cmpR op_lt (pv 3) (pe_op op_pow pe_int pe_int) (nomark _))
        (pss_cons (ps_set (i := 3) sc_law_next.nd rfl (.inl rfl) (pe_op op_mod (pe_callTy call_int1 rfl T.int (by decide +kernel) (pa_cons (pe_op op_add (pe_op op_add (pe_op op_mul (pv 3) pe_int) (pe_op op_mul (pv 2) pe_int)) pe_int) pa_nil)) pe_int))
        (pss_one (ps_set (i := 3) sc_law_next.nd rfl (.inl rfl) (pe_op op_add (pe_op op_mul (pe_op op_mod (pe_callTy call_int1 rfl T.int (by decide +kernel) (pa_cons (pe_op op_add (pe_op op_mul (pv 3) pe_int) pe_int) pa_nil)) pe_int) pe_int) (pv 3))))) pss_nil)
      (pss_cons (ps_asg (pv 3) (pg_sub (pv 0) pe_int set_list))
      (pss_one (ps_asg (pe_op op_add (pv 2) pe_int) (pg_sub (pv 0) pe_int set_list)))))))) pss_nil)
    (pss_cons (ps_set (i := 4) sc_law_next.nd rfl (.inl rfl) (pe_op op_mod (pe_callTy call_int1 rfl T.int (by decide +kernel) (pa_cons (pe_ix ix_list (pv 0) pe_int (fun _ _ => rfl)) pa_nil)) (pv 1)))
    (pss_cons (ps_asg (pe_op op_fdiv (pe_ix ix_list (pv 0) pe_int (fun _ _ => rfl)) (pv 1)) (pg_sub (pv 0) pe_int set_list))
    (pss_one (ps_ret (pv 4)))))), ?_⟩)
  · obtain ⟨_, _, _, rfl, _⟩ := h
    rfl
  · obtain ⟨st, l, many, rfl, ⟨ns, cell, k, hst, hl⟩, m0, m1, q⟩ := h
    have nl : l ≠ st := fun z => by
      rw [z, hst] at hl
      cases ns <;> simp at hl
    refine ⟨_, rfl, _, _, _, _, rfl, rfl, .of hst, atI_nat (j := 1) rfl, rfl, _, rfl, ?_⟩
    by_cases c0 : cell = 0
    · refine eqT c0 ⟨_, rfl, _, _, _, _, rfl, rfl, .of hst, atI_nat (j := 2) rfl, _, rfl, _, _, rfl, rfl, ?_⟩
      refine ⟨_, rfl, _, rfl, _, _, _, _, rfl, rfl, .of hst, atI_nat (j := 0) rfl, _, _, rfl, .inl (.of hl), _, _, rfl, rfl, _, rfl, ?_⟩
      by_cases kl : (k : Int) < ((ns.map V.int).length : Nat)
      · have hk : k < ns.length := by rw [List.length_map] at kl; omega
        have hx : (ns.map V.int)[k]? = some (.int ns[k]) := by rw [List.getElem?_map, List.getElem?_eq_getElem hk]; rfl
        refine itP kl ⟨_, rfl, _, _, _, _, rfl, rfl, .of hst, atI_nat (j := 0) rfl, _, rfl, _, _, _, _, rfl, rfl, .of hl, atI_nat hx, _, rfl, ?_⟩
        have cn : 0 ≤ (if ns[k] < 0 then -ns[k] else ns[k]) := by split <;> omega
        generalize (if ns[k] < 0 then -ns[k] else ns[k]) = ce at cn ⊢
        refine ⟨_, rfl, _, _, rfl, rfl, ⟨by decide, by decide, by decide⟩, _, _, rfl, rfl, _, rfl, ?_⟩
        by_cases c18 : ce < 10 ^ 18
        · refine itP c18 ⟨_, rfl, _, _, rfl, rfl, cm (cell_bd cn c18), _, rfl, _, _, rfl, rfl, .inr ⟨by decide, by decide⟩, _, _, rfl, rfl, _, _, rfl, rfl, .inl ⟨_, rfl, _, _, rfl, rfl, (show (0 : Int) < 2147483647 by decide), ?_⟩⟩
          refine ⟨_, rfl, _, _, rfl, rfl, .inr ⟨by decide, by decide⟩, _, _, rfl, rfl, .inl ⟨_, rfl, _, _, rfl, rfl, (show (0 : Int) < 2147483647 by decide), _, _, rfl, rfl, .inr ⟨by decide, by decide⟩, _, rfl, _, _, rfl, rfl, ?_⟩⟩
          refine ⟨_, rfl, _, rfl, st, _, _, 1, rfl, rfl, hst, rfl, ?_⟩
          refine ⟨_, rfl, _, _, rfl, rfl, _, rfl, st, _, _, 2, rfl, rfl, upd_same, rfl, ?_⟩
          rw [upd_upd]
          refine ⟨_, rfl, _, _, _, _, rfl, rfl, .of upd_same, atI_nat (j := 1) rfl, .inl ⟨_, rfl, _, rfl, _, _, rfl, rfl, m0, ?_⟩⟩
          refine ⟨_, rfl, _, _, _, _, rfl, rfl, .of upd_same, atI_nat (j := 1) rfl, _, rfl, _, _, rfl, rfl, ⟨m0, m1⟩, _, rfl, st, _, _, 1, rfl, rfl, upd_same, rfl, ?_⟩
          exact ⟨_, rfl, q _ _ (Int.emod_nonneg _ (by omega)) (Int.emod_lt_of_pos _ m0) ⟨ns, _, (k + 1), upd_same, by rw [upd_ne nl]; exact (by rw [upd_ne nl]; exact hl)⟩ (fun b o n h => by rw [upd_ne n, upd_ne n]; exact h)⟩
        · refine itN c18 ?_
          refine ⟨_, rfl, _, rfl, st, _, _, 1, rfl, rfl, hst, rfl, ?_⟩
          refine ⟨_, rfl, _, _, rfl, rfl, _, rfl, st, _, _, 2, rfl, rfl, upd_same, rfl, ?_⟩
          rw [upd_upd]
          refine ⟨_, rfl, _, _, _, _, rfl, rfl, .of upd_same, atI_nat (j := 1) rfl, .inl ⟨_, rfl, _, rfl, _, _, rfl, rfl, m0, ?_⟩⟩
          refine ⟨_, rfl, _, _, _, _, rfl, rfl, .of upd_same, atI_nat (j := 1) rfl, _, rfl, _, _, rfl, rfl, ⟨m0, m1⟩, _, rfl, st, _, _, 1, rfl, rfl, upd_same, rfl, ?_⟩
          exact ⟨_, rfl, q _ _ (Int.emod_nonneg _ (by omega)) (Int.emod_lt_of_pos _ m0) ⟨ns, _, (k + 1), upd_same, by rw [upd_ne nl]; exact (by rw [upd_ne nl]; exact hl)⟩ (fun b o n h => by rw [upd_ne n, upd_ne n]; exact h)⟩
      · refine itN kl ?_
        have cn : (0 : Int) ≤ 7 + k := by omega
        dsimp only
        generalize (7 + (k : Int)) = ce at cn ⊢
        refine ⟨_, rfl, _, _, rfl, rfl, ⟨by decide, by decide, by decide⟩, _, _, rfl, rfl, _, rfl, ?_⟩
        by_cases c18 : ce < 10 ^ 18
        · refine itP c18 ⟨_, rfl, _, _, rfl, rfl, cm (cell_bd cn c18), _, rfl, _, _, rfl, rfl, .inr ⟨by decide, by decide⟩, _, _, rfl, rfl, _, _, rfl, rfl, .inl ⟨_, rfl, _, _, rfl, rfl, (show (0 : Int) < 2147483647 by decide), ?_⟩⟩
          refine ⟨_, rfl, _, _, rfl, rfl, .inr ⟨by decide, by decide⟩, _, _, rfl, rfl, .inl ⟨_, rfl, _, _, rfl, rfl, (show (0 : Int) < 2147483647 by decide), _, _, rfl, rfl, .inr ⟨by decide, by decide⟩, _, rfl, _, _, rfl, rfl, ?_⟩⟩
          refine ⟨_, rfl, _, rfl, st, _, _, 1, rfl, rfl, hst, rfl, ?_⟩
          refine ⟨_, rfl, _, _, rfl, rfl, _, rfl, st, _, _, 2, rfl, rfl, upd_same, rfl, ?_⟩
          rw [upd_upd]
          refine ⟨_, rfl, _, _, _, _, rfl, rfl, .of upd_same, atI_nat (j := 1) rfl, .inl ⟨_, rfl, _, rfl, _, _, rfl, rfl, m0, ?_⟩⟩
          refine ⟨_, rfl, _, _, _, _, rfl, rfl, .of upd_same, atI_nat (j := 1) rfl, _, rfl, _, _, rfl, rfl, ⟨m0, m1⟩, _, rfl, st, _, _, 1, rfl, rfl, upd_same, rfl, ?_⟩
          exact ⟨_, rfl, q _ _ (Int.emod_nonneg _ (by omega)) (Int.emod_lt_of_pos _ m0) ⟨ns, _, (k + 1), upd_same, by rw [upd_ne nl]; exact (by rw [upd_ne nl]; exact hl)⟩ (fun b o n h => by rw [upd_ne n, upd_ne n]; exact h)⟩
        · refine itN c18 ?_
          refine ⟨_, rfl, _, rfl, st, _, _, 1, rfl, rfl, hst, rfl, ?_⟩
          refine ⟨_, rfl, _, _, rfl, rfl, _, rfl, st, _, _, 2, rfl, rfl, upd_same, rfl, ?_⟩
          rw [upd_upd]
          refine ⟨_, rfl, _, _, _, _, rfl, rfl, .of upd_same, atI_nat (j := 1) rfl, .inl ⟨_, rfl, _, rfl, _, _, rfl, rfl, m0, ?_⟩⟩
          refine ⟨_, rfl, _, _, _, _, rfl, rfl, .of upd_same, atI_nat (j := 1) rfl, _, rfl, _, _, rfl, rfl, ⟨m0, m1⟩, _, rfl, st, _, _, 1, rfl, rfl, upd_same, rfl, ?_⟩
          exact ⟨_, rfl, q _ _ (Int.emod_nonneg _ (by omega)) (Int.emod_lt_of_pos _ m0) ⟨ns, _, (k + 1), upd_same, by rw [upd_ne nl]; exact (by rw [upd_ne nl]; exact hl)⟩ (fun b o n h => by rw [upd_ne n, upd_ne n]; exact h)⟩
    · refine eqF c0 ?_
      refine ⟨_, rfl, _, _, _, _, rfl, rfl, .of hst, atI_nat (j := 1) rfl, .inl ⟨_, rfl, _, rfl, _, _, rfl, rfl, m0, ?_⟩⟩
      refine ⟨_, rfl, _, _, _, _, rfl, rfl, .of hst, atI_nat (j := 1) rfl, _, rfl, _, _, rfl, rfl, ⟨m0, m1⟩, _, rfl, st, _, _, 1, rfl, rfl, hst, rfl, ?_⟩
      exact ⟨_, rfl, q _ _ (Int.emod_nonneg _ (by omega)) (Int.emod_lt_of_pos _ m0) ⟨ns, _, k, upd_same, by rw [upd_ne nl]; exact hl⟩ (fun b o n h => by rw [upd_ne n]; exact h)⟩
end
end K25

set_option Elab.async false
set_option linter.all false
set_option maxRecDepth 100000
set_option maxHeartbeats 4000000
/-! The law's own defs, two: gcd, low, turn, pick, point. Own text. -/
namespace K25
open PySem PySem.Spec PyProof.Rows L2 K25S LamX
section
variable {P : Program} {w : World} {K : PySem.W.Frag} {mg : Str → Option Value} {base : Heap} {f : Addr} {fd : FuncData}
theorem sc_law_gcd : FnScope ["_law_a", "_law_b", "_law_k"] ["_law_a", "_law_b"] (defScope s_law_gcd) := ⟨rfl, rfl, rfl, by decide +kernel, rfl, by decide +kernel, by decide +kernel⟩
def spGcd : Sp := fun vs H Q _ => ∃ (a b : Int), vs = [.int a, .int b] ∧ b.natAbs ≤ 39999 ∧ Q (.int ((Nat.gcd a.natAbs b.natAbs : Nat) : Int)) H
theorem ite_abs (a : Int) : (if a < 0 then -a else a) = (a.natAbs : Int) := by split <;> omega
theorem ok_law_gcd (T : Nm mg) (F : FnP K "_law_gcd" s_law_gcd f fd) : FnOk P w K mg base CX0 1 f fd ["_law_a", "_law_b"] spGcd := by
  refine F.ok sc_law_gcd (fun vs H Q E h => ?_) (fun cdv A outer s H vs Q E hr h => ⟨_, PSs.nox (
    pss_cons (ps_set (i := 0) sc_law_gcd.nd rfl (.inl rfl) (pe_callB call_abs rfl T.abs (by decide +kernel) (pa_cons (pv 0) pa_nil)))
    (pss_cons (ps_set (i := 1) sc_law_gcd.nd rfl (.inl rfl) (pe_callB call_abs rfl T.abs (by decide +kernel) (pa_cons (pv 1) pa_nil)))
    (pss_cons (ps_for PassesOwn.never rfl (pi_range1 rfl T.range (pa_cons pe_int pa_nil)) (pg_name (i := 2) sc_law_gcd.nd rfl (.inl rfl))
      (pss_cons (ps_if (pt_cmpR op_eq (pv 1) pe_int (nomark _)) (pss_one ps_break) pss_nil)
      (pss_one (ps_par (i := 0) (j := 1) (by rfl) sc_law_gcd.nd rfl rfl (by decide) rfl rfl (pa_cons (pv 1) (pa_cons (pe_op op_mod (pe_callTy call_int1 rfl T.int (by decide +kernel) (pa_cons (pv 0) pa_nil)) (pv 1)) pa_nil)) (by rfl)))))
    (pss_one (ps_ret (pv 0)))))), ?_⟩)
  · obtain ⟨_, _, rfl, _⟩ := h
    rfl
  · obtain ⟨a, b, rfl, hb, q⟩ := h
    refine ⟨_, rfl, _, rfl, _, rfl, _, rfl, 40000, rfl, by decide, by decide, ?_⟩
    refine for_range (lo := 0) (n := (40000 : Int).toNat) (fun i σ' H' => H' = H ∧ ∃ (x y : Nat) (z : Option V), σ' = [some (.int x), some (.int y), z] ∧ Nat.gcd x y = Nat.gcd a.natAbs b.natAbs ∧ y + i ≤ b.natAbs) ⟨rfl, a.natAbs, b.natAbs, none, ?_, rfl, Nat.le_refl _⟩
      (fun i σ' H' hi ⟨eH, x, y, z, eσ, hg, hy⟩ => ?_) (fun σ' H' ⟨eH, x, y, z, eσ, hg, hy⟩ => ?_)
    · show [some (V.int (if a < 0 then -a else a)), some (V.int (if b < 0 then -b else b)), none] = _
      rw [ite_abs, ite_abs]
    · subst eH eσ
      refine ⟨_, rfl, rfl, _, rfl, ?_⟩
      by_cases h0 : ((y : Nat) : Int) = 0
      · refine eqT h0 ⟨_, rfl, ?_⟩
        have e : y = 0 := by omega
        rw [e, Nat.gcd_zero_right] at hg
        rw [hg]
        exact q
      · refine eqF h0 ⟨_, rfl, _, rfl, .inl ⟨_, rfl, _, rfl, _, _, rfl, rfl, show (0 : Int) < y by omega, _, _, rfl, ?_⟩⟩
        refine ⟨rfl, y, x % y, some (.int (0 + (i : Int))), ?_, ?_, ?_⟩
        · show [some (V.int y), some (V.int ((x : Int) % (y : Int))), some (V.int (0 + (i : Int)))] = _
          rw [← Int.natCast_emod]
        · rw [← hg, Nat.gcd_comm y, ← Nat.gcd_rec, Nat.gcd_comm]
        · have := Nat.mod_lt x (show 0 < y by omega)
          omega
    · have e4 : (40000 : Int).toNat = 40000 := rfl
      rw [e4] at hy
      omega
theorem sc_law_low : FnScope ["_law_n", "_law_d", "_law_shared"] ["_law_n", "_law_d"] (defScope s_law_low) := ⟨rfl, rfl, rfl, by decide +kernel, rfl, by decide +kernel, by decide +kernel⟩
def spLow : Sp := fun vs H Q _ => ∃ (n d : Int), vs = [.int n, .int d] ∧ d ≠ 0 ∧ d.natAbs ≤ 39999 ∧ ∀ p, H p = none → Q (.ref p) (upd H p (.tup [.int (lowest n d).1, .int (lowest n d).2]))
theorem ok_law_low (CG : Cal P w K mg base 1 "_law_gcd" ["_law_a", "_law_b"] spGcd) (F : FnP K "_law_low" s_law_low f fd) : FnOk P w K mg base CX0 2 f fd ["_law_n", "_law_d"] spLow := by
  refine F.ok sc_law_low (fun vs H Q E h => ?_) (fun cdv A outer s H vs Q E hr h => ⟨_, PSs.nox (pss_cons (ps_set (i := 2) sc_law_low.nd rfl (.inl rfl) (pe_cal CG hr (by decide) rfl (pa_cons (pv 0) (pa_cons (pv 1) pa_nil))))
    (pss_cons (ps_if (pt_cmpR op_lt (pv 1) pe_int (nomark _)) (pss_one (ps_set (i := 2) sc_law_low.nd rfl (.inl rfl) (pe_op op_sub pe_int (pv 2)))) pss_nil)
    (pss_one (ps_ret (pe_tup (pa_cons (pe_op op_fdivN (pv 0) (pv 2)) (pa_cons (pe_op op_fdivN (pv 1) (pv 2)) pa_nil))))))), ?_⟩)
  · obtain ⟨_, _, rfl, _⟩ := h
    rfl
  · obtain ⟨n, d, rfl, hd, hb, q⟩ := h
    refine ⟨_, rfl, _, rfl, n, d, rfl, hb, ?_⟩
    refine ⟨_, rfl, _, _, rfl, rfl, _, rfl, ?_⟩
    have g1 : Nat.gcd n.natAbs d.natAbs ≤ d.natAbs := Nat.gcd_le_right _ (by omega)
    have g0 : 0 < Nat.gcd n.natAbs d.natAbs := Nat.gcd_pos_of_pos_right _ (by omega)
    by_cases hn : d < 0
    · have e : lowest n d = (n.fdiv (0 - ((Nat.gcd n.natAbs d.natAbs : Nat) : Int)), d.fdiv (0 - ((Nat.gcd n.natAbs d.natAbs : Nat) : Int))) := by unfold lowest; rw [if_pos hn, Int.zero_sub]
      rw [e] at q
      have b : CDivN n (0 - ((Nat.gcd n.natAbs d.natAbs : Nat) : Int)) := ⟨by omega, by omega⟩
      refine itP hn ⟨_, rfl, _, _, rfl, rfl, ?_⟩
      exact ⟨_, rfl, _, rfl, _, _, rfl, rfl, b, _, rfl, _, rfl, _, _, rfl, rfl, b, by show 2 ≤ sizeLine; decide, q⟩
    · refine itN hn ?_
      have e : lowest n d = (n.fdiv ((Nat.gcd n.natAbs d.natAbs : Nat) : Int), d.fdiv ((Nat.gcd n.natAbs d.natAbs : Nat) : Int)) := by unfold lowest; rw [if_neg hn]
      rw [e] at q
      have b : CDivN n ((Nat.gcd n.natAbs d.natAbs : Nat) : Int) := ⟨by omega, by omega⟩
      exact ⟨_, rfl, _, rfl, _, _, rfl, rfl, b, _, rfl, _, rfl, _, _, rfl, rfl, b, by show 2 ≤ sizeLine; decide, q⟩
theorem sc_law_turn : FnScope ["_law_a", "_law_b", "_law_c"] ["_law_a", "_law_b", "_law_c"] (defScope s_law_turn) := ⟨rfl, rfl, rfl, by decide +kernel, rfl, by decide +kernel, by decide +kernel⟩
theorem ok_law_turn (F : FnP K "_law_turn" s_law_turn f fd) : FnOk P w K mg base CX0 1 f fd ["_law_a", "_law_b", "_law_c"] spTurned := by
  refine F.ok sc_law_turn (fun vs H Q E h => ?_) (fun cdv A outer s H vs Q E hr h => ⟨_, PSs.nox (pss_one (ps_ret (pe_op op_sub
      (pe_op op_mul (pe_op op_sub (pe_ix ix_tup (pv 1) pe_int (fun _ _ => rfl)) (pe_ix ix_tup (pv 0) pe_int (fun _ _ => rfl))) (pe_op op_sub (pe_ix ix_tup (pv 2) pe_int (fun _ _ => rfl)) (pe_ix ix_tup (pv 0) pe_int (fun _ _ => rfl))))
      (pe_op op_mul (pe_op op_sub (pe_ix ix_tup (pv 1) pe_int (fun _ _ => rfl)) (pe_ix ix_tup (pv 0) pe_int (fun _ _ => rfl))) (pe_op op_sub (pe_ix ix_tup (pv 2) pe_int (fun _ _ => rfl)) (pe_ix ix_tup (pv 0) pe_int (fun _ _ => rfl))))))), ?_⟩)
  · obtain ⟨_, _, _, _, _, _, rfl, _⟩ := h
    rfl
  · obtain ⟨va, vb, vc, a, b, c, rfl, ha, hb, hc, ba, bb, bc, q⟩ := h
    have d1 := bd_diff ba bb
    obtain ⟨_, rfl, ha⟩ := ha
    obtain ⟨_, rfl, hb⟩ := hb
    obtain ⟨_, rfl, hc⟩ := hc
    exact ⟨_, rfl, _, _, _, _, rfl, rfl, .of hb, atI_nat (j := 0) rfl, _, rfl, _, _, _, _, rfl, rfl, .of ha, atI_nat (j := 0) rfl, _, _, rfl, rfl, _, rfl, _, _, _, _, rfl, rfl, .of hc, atI_nat (j := 1) rfl, _, rfl, _, _, _, _, rfl, rfl, .of ha, atI_nat (j := 1) rfl, _, _, rfl, rfl, _, _, rfl, rfl, cm d1.1, _, rfl, _, _, _, _, rfl, rfl, .of hb, atI_nat (j := 1) rfl, _, rfl, _, _, _, _, rfl, rfl, .of ha, atI_nat (j := 1) rfl, _, _, rfl, rfl, _, rfl, _, _, _, _, rfl, rfl, .of hc, atI_nat (j := 0) rfl, _, rfl, _, _, _, _, rfl, rfl, .of ha, atI_nat (j := 0) rfl, _, _, rfl, rfl, _, _, rfl, rfl, cm d1.2, _, _, rfl, rfl, q⟩
theorem sc_law_pick : FnScope ["_law_stream_here", "_law_rows"] ["_law_stream_here", "_law_rows"] (defScope s_law_pick) := ⟨rfl, rfl, rfl, by decide +kernel, rfl, by decide +kernel, by decide +kernel⟩
def spPick : Sp := fun vs H Q _ => ∃ (st l r : Addr) (xs : List V), vs = [.ref st, .ref r] ∧ Strm H st l ∧ r ≠ st ∧ (H r = some (.lst xs) ∨ H r = some (.tup xs)) ∧ 0 < xs.length ∧ xs.length < 1073741824 ∧ ∀ x H', x ∈ xs → Strm H' st l → But st H H' → Q x H'
theorem ok_law_pick (T : Nm mg) (CN : Cal P w K mg base 1 "_law_next" ["_law_stream_here", "_law_many"] spNext) (F : FnP K "_law_pick" s_law_pick f fd) : FnOk P w K mg base CX0 2 f fd ["_law_stream_here", "_law_rows"] spPick := by
  refine F.ok sc_law_pick (fun vs H Q E h => ?_) (fun cdv A outer s H vs Q E hr h => ⟨_, PSs.nox (pss_one (ps_ret (pe_ix ix_seq (pv 1) (pe_cal CN hr (by decide) rfl (pa_cons (pv 0) (pa_cons (pe_callB call_len_seq rfl T.len boot_len (pa_cons (pv 1) pa_nil)) pa_nil))) (fun _ _ => rfl)))), ?_⟩)
  · obtain ⟨_, _, _, _, rfl, _⟩ := h
    rfl
  · obtain ⟨st, l, r, xs, rfl, hs, ne, hr0, l0, l1, q⟩ := h
    refine ⟨_, rfl, _, rfl, _, rfl, r, xs, rfl, hr0.elim (fun h => .inl (.of h)) (fun h => .inr (.of h)), st, l, _, rfl, hs, by omega, by omega, fun d H' d0 d1 s' b' => ?_⟩
    obtain ⟨j, hj⟩ : ∃ j : Nat, d = j := ⟨d.toNat, by omega⟩
    have lj : j < xs.length := by omega
    have hx : atI xs d = some xs[j] := by rw [hj]; exact atI_nat (List.getElem?_eq_getElem lj)
    have q' := q xs[j] H' (List.getElem_mem lj) s' b'
    rcases hr0 with h | h
    · exact .inl ⟨r, xs, d, _, rfl, rfl, .of (b' _ _ ne h), hx, q'⟩
    · exact .inr (.inl ⟨r, xs, d, _, rfl, rfl, .of (b' _ _ ne h), hx, q'⟩)
theorem sc_law_point : FnScope ["_law_stream_here", "_law_size", "_law_far"] ["_law_stream_here", "_law_size", "_law_far"] (defScope s_law_point) := ⟨rfl, rfl, rfl, by decide +kernel, rfl, by decide +kernel, by decide +kernel⟩
def spPoint : Sp := fun vs H Q _ => ∃ (st l : Addr) (size : Int) (vf : V) (far : Pt), vs = [.ref st, .int size, vf] ∧ Strm H st l ∧ 0 < size ∧ size ≤ 100 ∧ PtV H vf far ∧ ∀ (p : Pt) v H', (0 ≤ p.1 - far.1 + size / 2 ∧ p.1 - far.1 + size / 2 < size) → (0 ≤ p.2 - far.2 + size / 2 ∧ p.2 - far.2 + size / 2 < size) → PtV H' v p → Strm H' st l → But st H H' → Q v H'
theorem ok_law_point (CN : Cal P w K mg base 1 "_law_next" ["_law_stream_here", "_law_many"] spNext) (F : FnP K "_law_point" s_law_point f fd) : FnOk P w K mg base CX0 2 f fd ["_law_stream_here", "_law_size", "_law_far"] spPoint := by
  refine F.ok sc_law_point (fun vs H Q E h => ?_) (fun cdv A outer s H vs Q E hr h => ⟨_, PSs.nox (pss_one (ps_ret (pe_tup (pa_cons (pe_op op_add (pe_op op_sub (pe_cal CN hr (by decide) rfl (pa_cons (pv 0) (pa_cons (pv 1) pa_nil))) (pe_op op_fdiv (pv 1) pe_int)) (pe_ix ix_tup (pv 2) pe_int (fun _ _ => rfl)))
    (pa_cons (pe_op op_add (pe_op op_sub (pe_cal CN hr (by decide) rfl (pa_cons (pv 0) (pa_cons (pv 1) pa_nil))) (pe_op op_fdiv (pv 1) pe_int)) (pe_ix ix_tup (pv 2) pe_int (fun _ _ => rfl))) pa_nil))))), ?_⟩)
  · obtain ⟨_, _, _, _, _, rfl, _⟩ := h
    rfl
  · obtain ⟨st, l, size, vf, far, rfl, hs, m0, m1, ⟨a, rfl, ha⟩, q⟩ := h
    refine ⟨_, rfl, _, rfl, st, l, size, rfl, hs, m0, by omega, fun d1 H1 a1 b1 s1 t1 => ?_⟩
    have ha1 := t1.tps hs _ _ ha
    refine ⟨_, rfl, _, _, rfl, rfl, ⟨by decide, by decide⟩, _, _, rfl, rfl, _, rfl, _, _, _, _, rfl, rfl, .of ha1, atI_nat (j := 0) rfl, _, _, rfl, rfl, ?_⟩
    refine ⟨_, rfl, _, rfl, st, l, size, rfl, s1, m0, by omega, fun d2 H2 a2 b2 s2 t2 => ?_⟩
    have ha2 := t2.tps s1 _ _ ha1
    refine ⟨_, rfl, _, _, rfl, rfl, ⟨by decide, by decide⟩, _, _, rfl, rfl, _, rfl, _, _, _, _, rfl, rfl, .of ha2, atI_nat (j := 1) rfl, _, _, rfl, rfl, by show 2 ≤ sizeLine; decide, fun p hp => ?_⟩
    have s3 := sm_new (o := .tup [.int (d1 - size / 2 + far.1), .int (d2 - size / 2 + far.2)]) hp
    exact q (d1 - size / 2 + far.1, d2 - size / 2 + far.2) _ _ (by show 0 ≤ d1 - size / 2 + far.1 - far.1 + size / 2 ∧ d1 - size / 2 + far.1 - far.1 + size / 2 < size; omega) (by show 0 ≤ d2 - size / 2 + far.2 - far.2 + size / 2 ∧ d2 - size / 2 + far.2 - far.2 + size / 2 < size; omega) ⟨p, rfl, upd_same⟩ (s2.ms s3) ((t1.trans t2).trans (But.of s3))
end
end K25

set_option Elab.async false
set_option linter.all false
set_option maxRecDepth 100000
set_option maxHeartbeats 4000000
/-! The law's own defs, three: on, cross. Own text. -/
namespace K25
open PySem PySem.Spec PyProof.Rows L2 K25S LamX
def LOn (s : Sg) (p : Pt) : Prop := turn s.1 s.2 p = 0 ∧ min s.1.1 s.2.1 ≤ p.1 ∧ p.1 ≤ max s.1.1 s.2.1 ∧ min s.1.2 s.2.2 ≤ p.2 ∧ p.2 ≤ max s.1.2 s.2.2
instance (s : Sg) (p : Pt) : Decidable (LOn s p) := by unfold LOn; infer_instance
section
variable {P : Program} {w : World} {K : PySem.W.Frag} {mg : Str → Option Value} {base : Heap} {f : Addr} {fd : FuncData}
theorem sc_law_on : FnScope ["_law_p", "_law_segment", "_law_a", "_law_b"] ["_law_p", "_law_segment"] (defScope s_law_on) := ⟨rfl, rfl, rfl, by decide +kernel, rfl, by decide +kernel, by decide +kernel⟩
def spOn : Sp := fun vs H Q _ => ∃ (vp v : V) (p : Pt) (g : Sg), vs = [vp, v] ∧ PtV H vp p ∧ SgV H v g ∧ Bd p ∧ Bd g.1 ∧ Bd g.2 ∧ Q (.bl (decide (LOn g p))) H
theorem ok_law_on (T : Nm mg) (CT : Cal P w K mg base 1 "_law_turn" ["_law_a", "_law_b", "_law_c"] spTurned) (F : FnP K "_law_on" s_law_on f fd) : FnOk P w K mg base CX0 2 f fd ["_law_p", "_law_segment"] spOn := by
  refine F.ok sc_law_on (fun vs H Q E h => ?_) (fun cdv A outer s H vs Q E hr h => ⟨_, PSs.nox (
    pss_cons (ps_asg (pv 1) (pg_tup rfl (pgs_cons (pg_name (i := 2) sc_law_on.nd rfl (.inl rfl)) (pgs_cons (pg_name (i := 3) sc_law_on.nd rfl (.inl rfl)) pgs_nil))))
    (pss_cons (ps_if (pt_cmpR op_ne (pe_cal CT hr (by decide) rfl (pa_cons (pv 2) (pa_cons (pv 3) (pa_cons (pv 0) pa_nil)))) pe_int (nomark _)) (pss_one (ps_ret pe_bl)) pss_nil)
    (pss_one (ps_ret (pe_and (pe_chain op_le op_le (pe_callB (call_min2 rfl) rfl T.min (by decide +kernel) (pa_cons (pe_ix ix_tup (pv 2) pe_int (fun _ _ => rfl)) (pa_cons (pe_ix ix_tup (pv 3) pe_int (fun _ _ => rfl)) pa_nil))) (pe_ix ix_tup (pv 0) pe_int (fun _ _ => rfl))
        (pe_callB (call_max2 rfl) rfl T.max (by decide +kernel) (pa_cons (pe_ix ix_tup (pv 2) pe_int (fun _ _ => rfl)) (pa_cons (pe_ix ix_tup (pv 3) pe_int (fun _ _ => rfl)) pa_nil))))
      (pe_one (pe_chain op_le op_le (pe_callB (call_min2 rfl) rfl T.min (by decide +kernel) (pa_cons (pe_ix ix_tup (pv 2) pe_int (fun _ _ => rfl)) (pa_cons (pe_ix ix_tup (pv 3) pe_int (fun _ _ => rfl)) pa_nil))) (pe_ix ix_tup (pv 0) pe_int (fun _ _ => rfl))
        (pe_callB (call_max2 rfl) rfl T.max (by decide +kernel) (pa_cons (pe_ix ix_tup (pv 2) pe_int (fun _ _ => rfl)) (pa_cons (pe_ix ix_tup (pv 3) pe_int (fun _ _ => rfl)) pa_nil)))))))))), ?_⟩)
  · obtain ⟨_, _, _, _, rfl, _⟩ := h
    rfl
  · obtain ⟨_, _, p, g, rfl, hp, ⟨a, v1, v2, rfl, ha, h1, h2⟩, bp, b1, b2, q⟩ := h
    refine ⟨_, rfl, a, _, rfl, .of ha, rfl, _, _, rfl, _, _, rfl, rfl, ?_⟩
    refine ⟨_, rfl, _, rfl, _, rfl, v1, v2, _, g.1, g.2, p, rfl, h1, h2, hp, b1, b2, bp, rfl, _, rfl, ?_⟩
    obtain ⟨ap, rfl, hp⟩ := hp
    obtain ⟨a1, rfl, h1⟩ := h1
    obtain ⟨a2, rfl, h2⟩ := h2
    by_cases t0 : turn g.1 g.2 p = 0
    · refine neF t0 ?_
      refine ⟨_, rfl, _, _, _, _, rfl, rfl, .of h1, atI_nat (j := 0) rfl, _, rfl, _, _, _, _, rfl, rfl, .of h2, atI_nat (j := 0) rfl, _, _, rfl, _, rfl, _, _, _, _, rfl, rfl, .of hp, atI_nat (j := 0) rfl, _, _, rfl, rfl, _, rfl, ?_⟩
      have e1 := ite_min g.1.1 g.2.1
      have e2 := ite_max g.1.1 g.2.1
      have e3 := ite_min g.1.2 g.2.2
      have e4 := ite_max g.1.2 g.2.2
      by_cases c1 : (if g.2.1 < g.1.1 then g.2.1 else g.1.1) ≤ p.1
      · refine itP c1 ⟨_, rfl, _, _, _, _, rfl, rfl, .of h1, atI_nat (j := 0) rfl, _, rfl, _, _, _, _, rfl, rfl, .of h2, atI_nat (j := 0) rfl, _, _, rfl, _, _, rfl, rfl, _, rfl, ?_⟩
        by_cases c2 : p.1 ≤ (if g.2.1 > g.1.1 then g.2.1 else g.1.1)
        · refine itP c2 ⟨_, rfl, _, _, _, _, rfl, rfl, .of h1, atI_nat (j := 1) rfl, _, rfl, _, _, _, _, rfl, rfl, .of h2, atI_nat (j := 1) rfl, _, _, rfl, _, rfl, _, _, _, _, rfl, rfl, .of hp, atI_nat (j := 1) rfl, _, _, rfl, rfl, _, rfl, ?_⟩
          by_cases c3 : (if g.2.2 < g.1.2 then g.2.2 else g.1.2) ≤ p.2
          · refine itP c3 ⟨_, rfl, _, _, _, _, rfl, rfl, .of h1, atI_nat (j := 1) rfl, _, rfl, _, _, _, _, rfl, rfl, .of h2, atI_nat (j := 1) rfl, _, _, rfl, _, _, rfl, rfl, ?_⟩
            have e : decide (p.2 ≤ (if g.2.2 > g.1.2 then g.2.2 else g.1.2)) = decide (LOn g p) := by
              rw [e1] at c1; rw [e2] at c2; rw [e3] at c3; rw [e4]
              rw [Bool.eq_iff_iff, decide_eq_true_iff, decide_eq_true_iff]
              exact ⟨fun h => ⟨t0, c1, c2, c3, h⟩, fun h => h.2.2.2.2⟩
            rw [← e] at q
            exact q
          · refine itN c3 ?_
            rw [e3] at c3
            rw [decide_eq_false (fun h => c3 h.2.2.2.1)] at q
            exact q
        · refine itN c2 ?_
          rw [e2] at c2
          rw [decide_eq_false (fun h => c2 h.2.2.1)] at q
          exact q
      · refine itN c1 ⟨_, rfl, ?_⟩
        rw [e1] at c1
        rw [decide_eq_false (fun h => c1 h.2.1)] at q
        exact iteF q
    · refine neT t0 ?_
      rw [decide_eq_false (fun h => t0 h.1)] at q
      exact q
/-- the points of a segment stand near c -/
def Nr (c p : Pt) : Prop := (p.1 - c.1).natAbs ≤ 40 ∧ (p.2 - c.2).natAbs ≤ 40
theorem turn_nr {c a b p : Pt} (ha : Nr c a) (hb : Nr c b) (hp : Nr c p) : (turn a b p).natAbs ≤ 12800 := by
  unfold Nr at *
  have m1 := mul_bd (x := b.1 - a.1) (y := p.2 - a.2) (A := 80) (B := 80) (by omega) (by omega)
  have m2 := mul_bd (x := b.2 - a.2) (y := p.1 - a.1) (A := 80) (B := 80) (by omega) (by omega)
  unfold turn
  omega
theorem sc_law_cross : FnScope ["_law_first", "_law_second", "_law_a", "_law_b", "_law_c", "_law_d", "_law_one", "_law_two", "_law_three", "_law_four", "_law_below"] ["_law_first", "_law_second"] (defScope s_law_cross) := ⟨rfl, rfl, rfl, by decide +kernel, rfl, by decide +kernel, by decide +kernel⟩
/-- what it tells of s and t -/
def CrV (H : Hp) (v : V) (s t : Sg) : Prop :=
  (v = .non ∧ (turn s.1 s.2 t.1 * turn s.1 s.2 t.2 ≥ 0 ∨ turn t.1 t.2 s.1 * turn t.1 t.2 s.2 ≥ 0)) ∨
  (¬ (turn s.1 s.2 t.1 * turn s.1 s.2 t.2 ≥ 0 ∨ turn t.1 t.2 s.1 * turn t.1 t.2 s.2 ≥ 0) ∧ ∃ z u1 u2, v = .ref z ∧ H z = some (.tup [u1, u2]) ∧
    PtV H u1 (lowest (t.1.1 * (turn s.1 s.2 t.1 - turn s.1 s.2 t.2) + (t.2.1 - t.1.1) * turn s.1 s.2 t.1) (turn s.1 s.2 t.1 - turn s.1 s.2 t.2)) ∧
    PtV H u2 (lowest (t.1.2 * (turn s.1 s.2 t.1 - turn s.1 s.2 t.2) + (t.2.2 - t.1.2) * turn s.1 s.2 t.1) (turn s.1 s.2 t.1 - turn s.1 s.2 t.2)))
def spCross : Sp := fun vs H Q _ => ∃ (v1 v2 : V) (s t : Sg) (c : Pt), vs = [v1, v2] ∧ SgV H v1 s ∧ SgV H v2 t ∧ Ok s ∧ Ok t ∧ Nr c s.1 ∧ Nr c s.2 ∧ Nr c t.1 ∧ Nr c t.2 ∧ ∀ H' v, Same H H' → CrV H' v s t → Q v H'
theorem small_bd {z : Int} (h : z.natAbs ≤ 12800) : -(2 ^ 64) < z ∧ z < 2 ^ 64 := by omega
theorem sub_bd39 {p r : Int} (hp : p.natAbs ≤ 12800) (hr : r.natAbs ≤ 12800) : (p - r).natAbs ≤ 39999 := by omega
theorem orTg {i j : Int} {A B S : Prop} (h : i ≥ 0 ∨ j ≥ 0) (f : (if decide (j ≥ 0) = true then A else S) → B) (a : A) : if decide (i ≥ 0) = true then A else B := orT h f a
theorem mul_neg_ne {a b : Int} (h : ¬ a * b ≥ 0) : a - b ≠ 0 := fun z => by
  have e : a = b := by omega
  rw [e] at h
  have : 0 ≤ b * b := by
    rcases Int.le_total 0 b with k | k
    · exact Int.mul_nonneg k k
    · exact Int.mul_nonneg_of_nonpos_of_nonpos k k
  exact h this
theorem ok_law_cross (CT : Cal P w K mg base 1 "_law_turn" ["_law_a", "_law_b", "_law_c"] spTurned) (CL : Cal P w K mg base 2 "_law_low" ["_law_n", "_law_d"] spLow) (F : FnP K "_law_cross" s_law_cross f fd) : FnOk P w K mg base CX0 3 f fd ["_law_first", "_law_second"] spCross := by
  refine F.ok sc_law_cross (fun vs H Q E h => ?_) (fun cdv A outer s H vs Q E hr h => ⟨_, PSs.nox (
    pss_cons (ps_asg (pe_tup (pa_cons (pv 0) (pa_cons (pv 1) pa_nil))) (pg_tup rfl (pgs_cons (pg_tup rfl (pgs_cons (pg_name (i := 2) sc_law_cross.nd rfl (.inl rfl)) (pgs_cons (pg_name (i := 3) sc_law_cross.nd rfl (.inl rfl)) pgs_nil)))
      (pgs_cons (pg_tup rfl (pgs_cons (pg_name (i := 4) sc_law_cross.nd rfl (.inl rfl)) (pgs_cons (pg_name (i := 5) sc_law_cross.nd rfl (.inl rfl)) pgs_nil))) pgs_nil))))
    (pss_cons (ps_set (i := 6) sc_law_cross.nd rfl (.inl rfl) (pe_cal CT hr (by decide) rfl (pa_cons (pv 2) (pa_cons (pv 3) (pa_cons (pv 4) pa_nil)))))
    (pss_cons (ps_set (i := 7) sc_law_cross.nd rfl (.inl rfl) (pe_cal CT hr (by decide) rfl (pa_cons (pv 2) (pa_cons (pv 3) (pa_cons (pv 5) pa_nil)))))
    (pss_cons (ps_set (i := 8) sc_law_cross.nd rfl (.inl rfl) (pe_cal CT hr (by decide) rfl (pa_cons (pv 4) (pa_cons (pv 5) (pa_cons (pv 2) pa_nil)))))
    (pss_cons (ps_set (i := 9) sc_law_cross.nd rfl (.inl rfl) (pe_cal CT hr (by decide) rfl (pa_cons (pv 4) (pa_cons (pv 5) (pa_cons (pv 3) pa_nil)))))
    (pss_cons (ps_if (PW.pt (pw_or (pt_cmpR op_ge (pe_op op_mul (pv 6) (pv 7)) pe_int (nomark _)) (pw_or1 (pt_cmpR op_ge (pe_op op_mul (pv 8) (pv 9)) pe_int (nomark _))))) (pss_one (ps_ret pe_non)) pss_nil)
    (pss_cons (ps_set (i := 10) sc_law_cross.nd rfl (.inl rfl) (pe_op op_sub (pv 6) (pv 7)))
    (pss_one (ps_ret (pe_tup (pa_cons (pe_cal CL hr (by decide) rfl (pa_cons (pe_op op_add (pe_op op_mul (pe_ix ix_tup (pv 4) pe_int (fun _ _ => rfl)) (pv 10)) (pe_op op_mul (pe_op op_sub (pe_ix ix_tup (pv 5) pe_int (fun _ _ => rfl)) (pe_ix ix_tup (pv 4) pe_int (fun _ _ => rfl))) (pv 6))) (pa_cons (pv 10) pa_nil)))
      (pa_cons (pe_cal CL hr (by decide) rfl (pa_cons (pe_op op_add (pe_op op_mul (pe_ix ix_tup (pv 4) pe_int (fun _ _ => rfl)) (pv 10)) (pe_op op_mul (pe_op op_sub (pe_ix ix_tup (pv 5) pe_int (fun _ _ => rfl)) (pe_ix ix_tup (pv 4) pe_int (fun _ _ => rfl))) (pv 6))) (pa_cons (pv 10) pa_nil))) pa_nil)))))))))))), ?_⟩)
  · obtain ⟨_, _, _, _, _, rfl, _⟩ := h
    rfl
  · obtain ⟨_, _, s, t, c0, rfl, ⟨a, v1, v2, rfl, ha, h1, h2⟩, ⟨b, u1, u2, rfl, hb, k1, k2⟩, oks, okt, n1, n2, n3, n4, q⟩ := h
    refine ⟨_, rfl, _, rfl, by show 2 ≤ sizeLine; decide, fun tp htp => ?_⟩
    have s1 := sm_new (o := .tup [.ref a, .ref b]) htp
    refine ⟨tp, _, rfl, .of upd_same, rfl, _, _, rfl, a, _, rfl, .of (s1 _ _ ha), rfl, _, _, rfl, _, _, rfl, rfl, _, _, rfl, b, _, rfl, .of (s1 _ _ hb), rfl, _, _, rfl, _, _, rfl, rfl, rfl, ?_⟩
    have h1 := h1.ms s1
    have h2 := h2.ms s1
    have k1 := k1.ms s1
    have k2 := k2.ms s1
    generalize upd H tp (.tup [.ref a, .ref b]) = H1 at s1 h1 h2 k1 k2 ⊢
    refine ⟨_, rfl, _, rfl, _, rfl, v1, v2, u1, s.1, s.2, t.1, rfl, h1, h2, k1, oks.1.bd, oks.2.1.bd, okt.1.bd, ?_⟩
    refine ⟨_, rfl, _, rfl, _, rfl, v1, v2, u2, s.1, s.2, t.2, rfl, h1, h2, k2, oks.1.bd, oks.2.1.bd, okt.2.1.bd, ?_⟩
    refine ⟨_, rfl, _, rfl, _, rfl, u1, u2, v1, t.1, t.2, s.1, rfl, k1, k2, h1, okt.1.bd, okt.2.1.bd, oks.1.bd, ?_⟩
    refine ⟨_, rfl, _, rfl, _, rfl, u1, u2, v2, t.1, t.2, s.2, rfl, k1, k2, h2, okt.1.bd, okt.2.1.bd, oks.2.1.bd, ?_⟩
    have t1 := turn_nr n1 n2 n3
    have t2 := turn_nr n1 n2 n4
    have t3 := turn_nr n3 n4 n1
    have d1 := bd_diff okt.1.bd okt.2.1.bd
    have b1 := okt.1.bd
    unfold CrV at q
    generalize turn s.1 s.2 t.1 = one at q t1 ⊢
    generalize turn s.1 s.2 t.2 = two at q t2 ⊢
    generalize turn t.1 t.2 s.1 = three at q t3 ⊢
    generalize turn t.1 t.2 s.2 = four at q ⊢
    refine ⟨_, rfl, _, rfl, _, _, rfl, rfl, cm (small_bd t1), _, _, rfl, rfl, _, rfl, ?_⟩
    by_cases hc : one * two ≥ 0 ∨ three * four ≥ 0
    · refine orT hc (fun z => ⟨_, rfl, _, rfl, _, _, rfl, rfl, cm (small_bd t3), _, _, rfl, rfl, _, rfl, z⟩) ?_
      exact q H1 _ s1 (.inl ⟨rfl, hc⟩)
    · refine orF hc (fun z => ⟨_, rfl, _, rfl, _, _, rfl, rfl, cm (small_bd t3), _, _, rfl, rfl, _, rfl, z⟩) ?_
      have w0 : one - two ≠ 0 := mul_neg_ne fun z => hc (.inl z)
      have w1 : (one - two).natAbs ≤ 39999 := sub_bd39 t1 t2
      obtain ⟨b1a, rfl, kk1⟩ := k1
      obtain ⟨b2a, rfl, kk2⟩ := k2
      refine ⟨_, rfl, _, rfl, _, _, rfl, rfl, ?_⟩
      refine ⟨_, rfl, _, _, _, _, rfl, rfl, .of kk1, atI_nat (j := 0) rfl, _, rfl, _, _, rfl, rfl, .inl (bd1 b1), _, rfl, _, _, _, _, rfl, rfl, .of kk2, atI_nat (j := 0) rfl, _, rfl, _, _, _, _, rfl, rfl, .of kk1, atI_nat (j := 0) rfl, _, _, rfl, rfl, _, rfl, _, _, rfl, rfl, cm d1.1, _, _, rfl, rfl, _, rfl, _, _, rfl, w0, w1, fun x1 nx1 => ?_⟩
      have r1 := sm_new (o := .tup [.int (lowest (t.1.1 * (one - two) + (t.2.1 - t.1.1) * one) (one - two)).1, .int (lowest (t.1.1 * (one - two) + (t.2.1 - t.1.1) * one) (one - two)).2]) nx1
      refine ⟨_, rfl, _, _, _, _, rfl, rfl, .of (r1 _ _ kk1), atI_nat (j := 1) rfl, _, rfl, _, _, rfl, rfl, .inl (bd2 b1), _, rfl, _, _, _, _, rfl, rfl, .of (r1 _ _ kk2), atI_nat (j := 1) rfl, _, rfl, _, _, _, _, rfl, rfl, .of (r1 _ _ kk1), atI_nat (j := 1) rfl, _, _, rfl, rfl, _, rfl, _, _, rfl, rfl, cm d1.2, _, _, rfl, rfl, _, rfl, _, _, rfl, w0, w1, fun x2 nx2 => ?_⟩
      have r2 := sm_new (o := .tup [.int (lowest (t.1.2 * (one - two) + (t.2.2 - t.1.2) * one) (one - two)).1, .int (lowest (t.1.2 * (one - two) + (t.2.2 - t.1.2) * one) (one - two)).2]) nx2
      refine ⟨by show 2 ≤ sizeLine; decide, fun z hz => ?_⟩
      have r3 := sm_new (o := .tup [.ref x1, .ref x2]) hz
      exact q _ _ (((s1.trans r1).trans r2).trans r3) (.inr ⟨hc, z, _, _, rfl, upd_same, ⟨x1, rfl, r3 _ _ (r2 _ _ upd_same)⟩, ⟨x2, rfl, r3 _ _ upd_same⟩⟩)
end
end K25

set_option Elab.async false
set_option linter.all false
set_option maxRecDepth 100000
set_option maxHeartbeats 4000000
/-! The law's own defs, four: spans, all_whole. Own text. -/
namespace K25
open PySem PySem.Spec PyProof.Rows L2 K25S LamX
section
variable {P : Program} {w : World} {K : PySem.W.Frag} {mg : Str → Option Value} {base : Heap} {f : Addr} {fd : FuncData}
theorem sc_law_spans : FnScope ["_law_segments_here", "_law_point_here", "_law_scale", "_law_a", "_law_b", "_law_c", "_law_d"] ["_law_segments_here", "_law_point_here", "_law_scale"] (defScope s_law_spans) := ⟨rfl, rfl, rfl, by decide +kernel, rfl, by decide +kernel, by decide +kernel⟩
def lawSpan (D X Y : Int) (S : List Sg) : Bool := S.any fun s => decide (LawOn D X Y s)
def spSpans : Sp := fun vs H Q _ => ∃ (r : Addr) (us : List V) (S : List Sg) (vp : V) (D : Int) (p : Pt), vs = [.ref r, vp, .int D] ∧ H r = some (.tup us) ∧ SgVs H us S ∧ (∀ s ∈ S, Ok s) ∧ PtV H vp p ∧ Bd p ∧ 1 ≤ D ∧ D ≤ 6 ∧ ∀ H', Same H H' → Q (.bl (lawSpan D p.1 p.2 S)) H'
theorem scale_bd {p : Pt} {D : Int} (h : Far p) (h1 : 1 ≤ D) (h2 : D ≤ 6) : Bd (p.1 * D, p.2 * D) := by
  unfold Far at h
  have m1 := mul_bd (x := p.1) (y := D) (A := 1000) (B := 6) (by omega) (by omega)
  have m2 := mul_bd (x := p.2) (y := D) (A := 1000) (B := 6) (by omega) (by omega)
  unfold Bd
  simp only
  omega
theorem ok_law_spans (CO : Cal P w K mg base 2 "_law_on" ["_law_p", "_law_segment"] spOn) (F : FnP K "_law_spans" s_law_spans f fd) : FnOk P w K mg base CX0 3 f fd ["_law_segments_here", "_law_point_here", "_law_scale"] spSpans := by
  refine F.ok sc_law_spans (fun vs H Q E h => ?_) (fun cdv A outer s H vs Q E hr h => ⟨_, PSs.nox (
    pss_cons (ps_for PassesOwn.never rfl (pi_tup (pv 0)) (pg_tup rfl (pgs_cons (pg_tup rfl (pgs_cons (pg_name (i := 3) sc_law_spans.nd rfl (.inl rfl)) (pgs_cons (pg_name (i := 4) sc_law_spans.nd rfl (.inl rfl)) pgs_nil)))
        (pgs_cons (pg_tup rfl (pgs_cons (pg_name (i := 5) sc_law_spans.nd rfl (.inl rfl)) (pgs_cons (pg_name (i := 6) sc_law_spans.nd rfl (.inl rfl)) pgs_nil))) pgs_nil)))
      (pss_one (ps_if (pt_val (pe_cal CO hr (by decide) rfl (pa_cons (pv 1) (pa_cons (pe_tup (pa_cons (pe_tup (pa_cons (pe_op op_mul (pv 3) (pv 2)) (pa_cons (pe_op op_mul (pv 4) (pv 2)) pa_nil))) (pa_cons (pe_tup (pa_cons (pe_op op_mul (pv 5) (pv 2)) (pa_cons (pe_op op_mul (pv 6) (pv 2)) pa_nil))) pa_nil))) pa_nil))))
        (pss_one (ps_ret pe_bl)) pss_nil)))
    (pss_one (ps_ret pe_bl))), ?_⟩)
  · obtain ⟨_, _, _, _, _, _, rfl, _⟩ := h
    rfl
  · obtain ⟨r, us, S, vp, D, p, rfl, hr0, hv, ok, hp, bp, d1, d2, q⟩ := h
    refine ⟨_, rfl, r, rfl, ⟨_, .of hr0⟩, ?_⟩
    have lu : us.length = S.length := Paired.length hv
    refine for_tup (K := K) (a := r) (xs := us) (fun i σ' H' => Same H H' ∧ (∃ x3 x4 x5 x6, σ' = [some (.ref r), some vp, some (.int D), x3, x4, x5, x6]) ∧ ∀ s ∈ S.take i, ¬ LawOn D p.1 p.2 s) ⟨Same.refl H, ⟨_, _, _, _, rfl⟩, by simp⟩ (fun i σ' H' _ h => .of (h.1 _ _ hr0))
      (fun i x σ' H' hx ⟨sm, ⟨x3, x4, x5, x6, eσ⟩, hno⟩ => ?_) (fun σ' H' ⟨sm, ⟨x3, x4, x5, x6, eσ⟩, hno⟩ => ?_)
    · subst eσ
      obtain ⟨g, hg, hxg⟩ := paired_get hv hx
      obtain ⟨a, v1, v2, rfl, ha, ⟨a1, rfl, h1⟩, ⟨a2, rfl, h2⟩⟩ := hxg.ms sm
      have okg := ok g (List.mem_of_getElem? hg)
      have b1 := bd1 okg.1.bd
      have b2 := bd2 okg.1.bd
      have b3 := bd1 okg.2.1.bd
      have b4 := bd2 okg.2.1.bd
      refine ⟨a, _, rfl, .of ha, rfl, _, _, rfl, a1, _, rfl, .of h1, rfl, _, _, rfl, _, _, rfl, rfl, _, _, rfl, a2, _, rfl, .of h2, rfl, _, _, rfl, _, _, rfl, rfl, rfl, ?_⟩
      refine ⟨_, rfl, _, rfl, _, rfl, _, _, rfl, rfl, cm b1, _, rfl, _, rfl, _, _, rfl, rfl, cm b2, by show 2 ≤ sizeLine; decide, fun t1 n1 => ?_⟩
      have s1 := sm_new (o := .tup [.int (g.1.1 * D), .int (g.1.2 * D)]) n1
      refine ⟨_, rfl, _, rfl, _, _, rfl, rfl, cm b3, _, rfl, _, rfl, _, _, rfl, rfl, cm b4, by show 2 ≤ sizeLine; decide, fun t2 n2 => ?_⟩
      have s2 := sm_new (o := .tup [.int (g.2.1 * D), .int (g.2.2 * D)]) n2
      refine ⟨by show 2 ≤ sizeLine; decide, fun t3 n3 => ?_⟩
      have s3 := sm_new (o := .tup [.ref t1, .ref t2]) n3
      refine ⟨vp, _, p, ((g.1.1 * D, g.1.2 * D), (g.2.1 * D, g.2.2 * D)), rfl, hp.ms (((sm.trans s1).trans s2).trans s3), ⟨t3, _, _, rfl, upd_same, ⟨t1, rfl, s3 _ _ (s2 _ _ upd_same)⟩, ⟨t2, rfl, s3 _ _ upd_same⟩⟩, bp, scale_bd okg.1 d1 d2, scale_bd okg.2.1 d1 d2, _, rfl, ?_⟩
      have sm3 := ((sm.trans s1).trans s2).trans s3
      by_cases hc : LOn ((g.1.1 * D, g.1.2 * D), (g.2.1 * D, g.2.2 * D)) p
      · refine itP hc ?_
        have e : lawSpan D p.1 p.2 S = true := by
          unfold lawSpan
          rw [List.any_eq_true]
          exact ⟨g, List.mem_of_getElem? hg, decide_eq_true (show LawOn D p.1 p.2 g from hc)⟩
        rw [e] at q
        exact q _ sm3
      · refine itN hc ⟨sm3, ⟨_, _, _, _, rfl⟩, fun s hs => ?_⟩
        rw [List.take_add_one, hg] at hs
        rcases List.mem_append.mp hs with hs | hs
        · exact hno s hs
        · have : s = g := by simpa using hs
          rw [this]
          exact hc
    · rw [lu, List.take_length] at hno
      have e : lawSpan D p.1 p.2 S = false := by
        unfold lawSpan
        rw [List.any_eq_false]
        exact fun s hs => by simpa using hno s hs
      rw [e] at q
      exact q _ sm
theorem sc_law_all_whole : FnScope ["_law_segments_here", "_law_i", "_law_j", "_law_cross_here"] ["_law_segments_here"] (defScope s_law_all_whole) := ⟨rfl, rfl, rfl, by decide +kernel, rfl, by decide +kernel, by decide +kernel⟩
def spAllW : Sp := fun vs H Q _ => ∃ (r : Addr) (us : List V) (S : List Sg) (c : Pt), vs = [.ref r] ∧ H r = some (.tup us) ∧ SgVs H us S ∧ (∀ s ∈ S, Ok s ∧ Nr c s.1 ∧ Nr c s.2) ∧ S.length ≤ 40 ∧ ∀ H' b, Same H H' → (b = true → AllWh S) → Q (.bl b) H'
theorem ok_law_all_whole (T : Nm mg) (CC : Cal P w K mg base 3 "_law_cross" ["_law_first", "_law_second"] spCross) (F : FnP K "_law_all_whole" s_law_all_whole f fd) : FnOk P w K mg base CX0 4 f fd ["_law_segments_here"] spAllW := by
  refine F.ok sc_law_all_whole (fun vs H Q E h => ?_) (fun cdv A outer s H vs Q E hr h => ⟨_, PSs.nox (
    pss_cons (ps_for PassesOwn.never rfl (pi_range1 rfl T.range (pa_cons (pe_callB call_len_seq rfl T.len boot_len (pa_cons (pv 0) pa_nil)) pa_nil)) (pg_name (i := 1) sc_law_all_whole.nd rfl (.inl rfl))
      (pss_one (ps_for PassesOwn.never rfl (pi_range2 rfl T.range (pa_cons (pe_op op_add (pv 1) pe_int) (pa_cons (pe_callB call_len_seq rfl T.len boot_len (pa_cons (pv 0) pa_nil)) pa_nil))) (pg_name (i := 2) sc_law_all_whole.nd rfl (.inl rfl))
        (pss_cons (ps_set (i := 3) sc_law_all_whole.nd rfl (.inl rfl) (pe_cal CC hr (by decide) rfl (pa_cons (pe_ix ix_tup (pv 0) (pv 1) (fun _ _ => rfl)) (pa_cons (pe_ix ix_tup (pv 0) (pv 2) (fun _ _ => rfl)) pa_nil))))
        (pss_one (ps_if (PW.pt (pw_and (pt_cmpR op_notN (pv 3) pe_non (nomark _)) (pw_and1 (PW.pt (pw_or (pt_cmpR op_gt (pe_ix ix_tup (pe_ix ix_tup (pv 3) pe_int (fun _ _ => rfl)) pe_int (fun _ _ => rfl)) pe_int (nomark _))
            (pw_or1 (pt_cmpR op_gt (pe_ix ix_tup (pe_ix ix_tup (pv 3) pe_int (fun _ _ => rfl)) pe_int (fun _ _ => rfl)) pe_int (nomark _)))))))) (pss_one (ps_ret pe_bl)) pss_nil))))))
    (pss_one (ps_ret pe_bl))), ?_⟩)
  · obtain ⟨_, _, _, _, rfl, _⟩ := h
    rfl
  · obtain ⟨r, us, S, c, rfl, hr0, hv, ok, lS, q⟩ := h
    have lu : us.length = S.length := Paired.length hv
    refine ⟨_, rfl, r, us, rfl, .inr (.of hr0), _, rfl, by omega, by omega, ?_⟩
    refine for_range (lo := 0) (n := ((us.length : Int)).toNat) (fun i σ' H' => Same H H' ∧ (∃ x1 x2 x3, σ' = [some (.ref r), x1, x2, x3]) ∧ ∀ (a b : Nat) (s t : Sg), a < i → a < b → S[a]? = some s → S[b]? = some t → LawWhole s t)
      ⟨Same.refl H, ⟨_, _, _, rfl⟩, fun a b s t h => absurd h (Nat.not_lt_zero _)⟩ (fun i σ' H' hi ⟨sm, ⟨x1, x2, x3, eσ⟩, hw⟩ => ?_) (fun σ' H' ⟨sm, ⟨x1, x2, x3, eσ⟩, hw⟩ => ?_)
    · subst eσ
      have hi2 : i < S.length := by omega
      have hsi : S[i]? = some S[i] := List.getElem?_eq_getElem hi2
      obtain ⟨vi, hvi, pvi⟩ := paired_get' hv hsi
      refine ⟨_, rfl, _, _, rfl, rfl, _, rfl, r, us, rfl, .inr (.of (sm _ _ hr0)), _, _, rfl, ⟨by omega, by omega, by omega, by omega⟩, ?_⟩
      refine for_range (lo := 0 + (i : Int) + 1) (n := ((us.length : Int) - (0 + (i : Int) + 1)).toNat) (fun m σ' H2 => Same H H2 ∧ (∃ x2 x3, σ' = [some (.ref r), some (.int (0 + (i : Int))), x2, x3]) ∧ ∀ (b : Nat) (t : Sg), i < b → b < i + 1 + m → S[b]? = some t → LawWhole S[i] t)
        ⟨sm, ⟨_, _, rfl⟩, fun b t h1 h2 => by omega⟩ (fun m σ' H2 hm ⟨sm2, ⟨x2, x3, eσ⟩, hw2⟩ => ?_) (fun σ' H2 ⟨sm2, ⟨x2, x3, eσ⟩, hw2⟩ => ?_)
      · subst eσ
        have hj2 : i + 1 + m < S.length := by omega
        have hsj : S[i + 1 + m]? = some S[i + 1 + m] := List.getElem?_eq_getElem hj2
        obtain ⟨vj, hvj, pvj⟩ := paired_get' hv hsj
        obtain ⟨oki, ni1, ni2⟩ := ok _ (List.mem_of_getElem? hsi)
        obtain ⟨okj, nj1, nj2⟩ := ok _ (List.mem_of_getElem? hsj)
        have ei : (0 + (i : Int)) = ((i : Nat) : Int) := by omega
        have ej : (0 + (i : Int) + 1 + (m : Int)) = ((i + 1 + m : Nat) : Int) := by omega
        refine ⟨_, rfl, _, rfl, _, _, _, _, rfl, rfl, .of (sm2 _ _ hr0), by rw [ei]; exact atI_nat hvi, _, rfl, _, rfl, _, _, _, _, rfl, rfl, .of (sm2 _ _ hr0), by rw [ej]; exact atI_nat hvj, vi, vj, _, _, c, rfl, pvi.ms sm2, pvj.ms sm2, oki, okj, ni1, ni2, nj1, nj2, fun H3 v s3 cr => ?_⟩
        have sm3 := sm2.trans s3
        have step : LawWhole S[i] S[i + 1 + m] → Same H H3 ∧ (∃ x2 x3, [some (.ref r), some (.int (0 + (i : Int))), some (.int (0 + (i : Int) + 1 + (m : Int))), some v] = [some (.ref r), some (.int (0 + (i : Int))), x2, x3]) ∧ ∀ (b : Nat) (t : Sg), i < b → b < i + 1 + (m + 1) → S[b]? = some t → LawWhole S[i] t := fun hl => ⟨sm3, ⟨_, _, rfl⟩, fun b t h1 h2 h3 => by
          by_cases e : b = i + 1 + m
          · rw [e, hsj] at h3
            rw [← Option.some.inj h3]
            exact hl
          · exact hw2 b t h1 (by omega) h3⟩
        rcases cr with ⟨rfl, hc⟩ | ⟨hc, z, u1, u2, rfl, hz, ⟨a1, rfl, hu1⟩, ⟨a2, rfl, hu2⟩⟩
        · refine ⟨_, rfl, rfl, _, rfl, ?_⟩
          refine iteF (step ?_)
          unfold LawWhole
          rcases hc with z | z
          · exact .inl z
          · exact .inr (.inl z)
        · refine ⟨_, rfl, rfl, _, rfl, iteT ?_⟩
          refine ⟨_, rfl, _, _, _, _, rfl, rfl, .of hz, atI_nat (j := 0) rfl, _, _, _, _, rfl, rfl, .of hu1, atI_nat (j := 1) rfl, _, _, rfl, rfl, _, rfl, ?_⟩
          generalize hn1 : (lowest (S[i + 1 + m].1.1 * (turn S[i].1 S[i].2 S[i + 1 + m].1 - turn S[i].1 S[i].2 S[i + 1 + m].2) + (S[i + 1 + m].2.1 - S[i + 1 + m].1.1) * turn S[i].1 S[i].2 S[i + 1 + m].1) (turn S[i].1 S[i].2 S[i + 1 + m].1 - turn S[i].1 S[i].2 S[i + 1 + m].2)).2 = x1 at *
          generalize hn2 : (lowest (S[i + 1 + m].1.2 * (turn S[i].1 S[i].2 S[i + 1 + m].1 - turn S[i].1 S[i].2 S[i + 1 + m].2) + (S[i + 1 + m].2.2 - S[i + 1 + m].1.2) * turn S[i].1 S[i].2 S[i + 1 + m].1) (turn S[i].1 S[i].2 S[i + 1 + m].1 - turn S[i].1 S[i].2 S[i + 1 + m].2)).2 = x2 at *
          have hno : x1 > 1 ∨ x2 > 1 → ¬ AllWh S := fun hx hall => by
            have hl := hall i (i + 1 + m) _ _ (by omega) hsi hsj
            unfold LawWhole at hl
            simp only at hl
            rw [hn1, hn2] at hl
            rcases hl with z | z | ⟨z1, z2⟩
            · exact hc (.inl z)
            · exact hc (.inr z)
            · omega
          by_cases hx : x1 > 1 ∨ x2 > 1
          · refine orT hx (fun y => ⟨_, rfl, _, _, _, _, rfl, rfl, .of hz, atI_nat (j := 1) rfl, _, _, _, _, rfl, rfl, .of hu2, atI_nat (j := 1) rfl, _, _, rfl, rfl, _, rfl, y⟩) ?_
            exact q H3 false sm3 (fun y => by cases y)
          · refine orF hx (fun y => ⟨_, rfl, _, _, _, _, rfl, rfl, .of hz, atI_nat (j := 1) rfl, _, _, _, _, rfl, rfl, .of hu2, atI_nat (j := 1) rfl, _, _, rfl, rfl, _, rfl, y⟩) ?_
            refine step ?_
            unfold LawWhole
            simp only
            rw [hn1, hn2]
            exact .inr (.inr ⟨by omega, by omega⟩)
      · subst eσ
        refine ⟨sm2, ⟨_, _, _, rfl⟩, fun a b s t h1 h2 h3 h4 => ?_⟩
        by_cases e : a = i
        · rw [e, hsi] at h3
          rw [← Option.some.inj h3]
          have lb := (List.getElem?_eq_some_iff.mp h4).1
          exact hw2 b t (by omega) (by omega) h4
        · exact hw a b s t (by omega) h2 h3 h4
    · subst eσ
      refine q H' true sm fun _ a b s t h1 h2 h3 => ?_
      have la := (List.getElem?_eq_some_iff.mp h2).1
      exact hw a b s t (by omega) h1 h2 h3
end
end K25

set_option Elab.async false
set_option linter.all false
set_option maxRecDepth 100000
set_option maxHeartbeats 4000000
/-! The law's own defs, five: plain. Own text. -/
namespace K25
open PySem PySem.Spec PyProof.Rows L2 K25S LamX
/-- a segment as the law draws them, near c -/
def Gd (c : Pt) (s : Sg) : Prop := Ok s ∧ Nr c s.1 ∧ Nr c s.2 ∧ wt s ≤ 60
theorem minmax {p q : Pt} (ne : p ≠ q) : (pmin p q, pmax p q) = sg p q := by
  unfold pmin pmax sg
  rcases ne_lt ne with h | h
  · rw [if_neg h.asymm, if_pos h, if_neg h.asymm]
  · rw [if_pos h, if_neg h.asymm, if_pos h]
theorem PtV.mini {H : Hp} {x y : V} {p q : Pt} (h : PtV H x p) (k : PtV H y q) : PtV H (if decide (PLt q p) = true then y else x) (pmin p q) := by
  unfold pmin
  by_cases z : PLt q p
  · rw [if_pos (decide_eq_true z), if_pos z]; exact k
  · rw [if_neg (by simpa using z), if_neg z]; exact h
theorem PtV.maxi {H : Hp} {x y : V} {p q : Pt} (h : PtV H x p) (k : PtV H y q) : PtV H (if decide (PLt p q) = true then y else x) (pmax p q) := by
  unfold pmax
  by_cases z : PLt p q
  · rw [if_pos (decide_eq_true z), if_pos z]; exact k
  · rw [if_neg (by simpa using z), if_neg z]; exact h
theorem wt_sg (p q : Pt) : wt (sg p q) = 2 * l1 p q - 1 := by
  unfold wt
  rw [l1_sg]
theorem sg_two (p q : Pt) : ((sg p q).1 = p ∧ (sg p q).2 = q) ∨ ((sg p q).1 = q ∧ (sg p q).2 = p) := by
  unfold sg
  split
  · exact .inr ⟨rfl, rfl⟩
  · exact .inl ⟨rfl, rfl⟩
theorem gd_of {c p q : Pt} (hp : Far p) (hq : Far q) (ne : p ≠ q) (np : Nr c p) (nq : Nr c q) (hl : l1 p q ≤ 30) : Gd c (sg p q) := by
  refine ⟨sg_ok (E := []) (by simp) hp hq ne, ?_, ?_, by rw [wt_sg]; omega⟩
  · rcases sg_two p q with ⟨e, _⟩ | ⟨e, _⟩ <;> rw [e] <;> assumption
  · rcases sg_two p q with ⟨_, e⟩ | ⟨_, e⟩ <;> rw [e] <;> assumption
/-- the four steps -/
def Stp (dx dy z : Int) : Prop := (dx = z ∧ dy = 0) ∨ (dx = 0 ∧ dy = z) ∨ (dx = z ∧ dy = z) ∨ (dx = z ∧ dy = 0 - z)
theorem plain_gd {dx dy a b e : Int} (ha : 0 ≤ a) (ha2 : a < 7) (hb : 0 ≤ b) (hb2 : b < 7) (he : 0 ≤ e) (he2 : e < 5) (h : Stp dx dy (2 * (1 + e))) : (2 * a, 2 * b) ≠ (2 * a + dx, 2 * b + dy) ∧ Gd (0, 0) (sg (2 * a, 2 * b) (2 * a + dx, 2 * b + dy)) := by
  have ne : ((2 * a, 2 * b) : Pt) ≠ (2 * a + dx, 2 * b + dy) := fun z => by
    simp only [Prod.mk.injEq] at z
    unfold Stp at h
    omega
  unfold Stp at h
  refine ⟨ne, gd_of ?_ ?_ ne ?_ ?_ ?_⟩
  · unfold Far; simp only; omega
  · unfold Far; simp only; omega
  · unfold Nr; simp only; omega
  · unfold Nr; simp only; omega
  · unfold l1; simp only; omega
section
variable {P : Program} {w : World} {K : PySem.W.Frag} {mg : Str → Option Value} {base : Heap} {f : Addr} {fd : FuncData}
theorem sc_law_plain : FnScope ["_law_stream_here", "_law_found", "_law_k", "_law_x", "_law_y", "_law_step", "_law_dx", "_law_dy"] ["_law_stream_here"] (defScope s_law_plain) := ⟨rfl, rfl, rfl, by decide +kernel, rfl, by decide +kernel, by decide +kernel⟩
def spPlain : Sp := fun vs H Q _ => ∃ (st ls : Addr), vs = [.ref st] ∧ Strm H st ls ∧ ∀ H' r us S, But st H H' → Strm H' st ls → H' r = some (.tup us) → SgVs H' us S → S.length ≤ 5 → (∀ s ∈ S, Gd (0, 0) s) → Q (.ref r) H'
theorem ok_law_plain (T : Nm mg) (CN : Cal P w K mg base 1 "_law_next" ["_law_stream_here", "_law_many"] spNext) (CP : Cal P w K mg base 2 "_law_pick" ["_law_stream_here", "_law_rows"] spPick) (F : FnP K "_law_plain" s_law_plain f fd) : FnOk P w K mg base CX0 3 f fd ["_law_stream_here"] spPlain := by
  refine F.ok sc_law_plain (fun vs H Q E h => ?_) (fun cdv A outer s H vs Q E hr h => ⟨_, PSs.nox (
    pss_cons (ps_set (i := 1) sc_law_plain.nd rfl (.inl rfl) (pe_lst pa_nil))
    (pss_cons (ps_for PassesOwn.never rfl (pi_range1 rfl T.range (pa_cons (pe_op op_add pe_int (pe_cal CN hr (by decide) rfl (pa_cons (pv 0) (pa_cons pe_int pa_nil)))) pa_nil)) (pg_name (i := 2) sc_law_plain.nd rfl (.inl rfl))
      (pss_cons (ps_set (i := 3) sc_law_plain.nd rfl (.inl rfl) (pe_op op_mul pe_int (pe_cal CN hr (by decide) rfl (pa_cons (pv 0) (pa_cons pe_int pa_nil)))))
      (pss_cons (ps_set (i := 4) sc_law_plain.nd rfl (.inl rfl) (pe_op op_mul pe_int (pe_cal CN hr (by decide) rfl (pa_cons (pv 0) (pa_cons pe_int pa_nil)))))
      (pss_cons (ps_set (i := 5) sc_law_plain.nd rfl (.inl rfl) (pe_op op_mul pe_int (pe_op op_add pe_int (pe_cal CN hr (by decide) rfl (pa_cons (pv 0) (pa_cons pe_int pa_nil))))))
      (pss_cons (ps_asg (pe_cal CP hr (by decide) rfl (pa_cons (pv 0) (pa_cons (pe_lst (pa_cons (pe_tup (pa_cons (pv 5) (pa_cons pe_int pa_nil))) (pa_cons (pe_tup (pa_cons pe_int (pa_cons (pv 5) pa_nil))) (pa_cons (pe_tup (pa_cons (pv 5) (pa_cons (pv 5) pa_nil))) (pa_cons (pe_tup (pa_cons (pv 5) (pa_cons (pe_op op_sub pe_int (pv 5)) pa_nil))) pa_nil))))) pa_nil)))
          (pg_tup rfl (pgs_cons (pg_name (i := 6) sc_law_plain.nd rfl (.inl rfl)) (pgs_cons (pg_name (i := 7) sc_law_plain.nd rfl (.inl rfl)) pgs_nil))))
      (pss_one (ps_expr (pe_bm PySem.F.plainAttrs_list PySem.F.slot_list_append PySem.F.type_list_append mt_append (pv 1) (pa_cons (pe_tup
        (pa_cons (pe_callB (cr_minP rfl hr.units) rfl T.min (by decide +kernel) (pa_cons (pe_tup (pa_cons (pv 3) (pa_cons (pv 4) pa_nil))) (pa_cons (pe_tup (pa_cons (pe_op op_add (pv 3) (pv 6)) (pa_cons (pe_op op_add (pv 4) (pv 7)) pa_nil))) pa_nil)))
        (pa_cons (pe_callB (cr_maxP rfl hr.units) rfl T.max (by decide +kernel) (pa_cons (pe_tup (pa_cons (pv 3) (pa_cons (pv 4) pa_nil))) (pa_cons (pe_tup (pa_cons (pe_op op_add (pv 3) (pv 6)) (pa_cons (pe_op op_add (pv 4) (pv 7)) pa_nil))) pa_nil))) pa_nil))) pa_nil)))))))))
    (pss_one (ps_ret (pe_callTy call_tuple_of rfl T.tuple (by decide +kernel) (pa_cons (pv 1) pa_nil)))))), ?_⟩)
  · obtain ⟨_, _, rfl, _⟩ := h
    rfl
  · obtain ⟨st, ls, rfl, hs, q⟩ := h
    refine ⟨Nat.zero_le _, fun fl hfl => ?_⟩
    have s0 := sm_new (o := .lst []) hfl
    have nfs : fl ≠ st := fun z => by
      obtain ⟨_, _, _, h, _⟩ := hs
      rw [z, h] at hfl
      cases hfl
    have nls : ls ≠ fl := ne_of_none hs.choose_spec.choose_spec.choose_spec.2 hfl
    refine ⟨_, rfl, st, ls, 5, rfl, hs.ms s0, by decide, by decide, fun d H1 d0 d1 hs1 b1 => ?_⟩
    refine ⟨_, _, rfl, rfl, _, rfl, by omega, by omega, ?_⟩
    have el : H1 fl = some (.lst []) := b1 _ _ nfs upd_same
    have bb : But st H H1 := (But.of s0).trans b1
    refine for_range (lo := 0) (n := (1 + d).toNat) (fun i σ' H' => ∃ x2 x3 x4 x5 x6 x7 vs S, σ' = [some (.ref st), some (.ref fl), x2, x3, x4, x5, x6, x7] ∧ But st H H' ∧ Strm H' st ls ∧ H' fl = some (.lst vs) ∧ SgVs H' vs S ∧ S.length = i ∧ ∀ s ∈ S, Gd (0, 0) s)
      ⟨none, none, none, none, none, none, [], [], rfl, bb, hs1, el, .nil, rfl, by simp⟩ (fun i σ' H' hi ⟨x2, x3, x4, x5, x6, x7, vs, S, eσ, bH, hs', hl, hv, hS, hg⟩ => ?_) (fun σ' H' ⟨x2, x3, x4, x5, x6, x7, vs, S, eσ, bH, hs', hl, hv, hS, hg⟩ => ?_)
    · subst eσ
      clear el bb b1 hs1
      refine ⟨_, rfl, st, ls, 7, rfl, hs', by decide, by decide, fun a H2 a0 a1 hs2 b2 => ⟨_, _, rfl, rfl, .inl ⟨by decide, by decide⟩, ?_⟩⟩
      refine ⟨_, rfl, st, ls, 7, rfl, hs2, by decide, by decide, fun b H3 b0 b1 hs3 b3 => ⟨_, _, rfl, rfl, .inl ⟨by decide, by decide⟩, ?_⟩⟩
      refine ⟨_, rfl, st, ls, 5, rfl, hs3, by decide, by decide, fun e H4 e0 e1 hs4 b4 => ⟨_, _, rfl, rfl, _, _, rfl, rfl, .inl ⟨by decide, by decide⟩, ?_⟩⟩
      have b24 : But st H' H4 := (b2.trans b3).trans b4
      have tp4 : Tps H' H4 := b24.tps hs'
      have hl4 := b24 _ _ nfs hl
      have hv4 := hv.mono tp4
      have bH4 := bH.trans b24
      clear b2 b3 b4 hs2 hs3 hs'
      refine ⟨_, rfl, _, rfl, by show 2 ≤ sizeLine; decide, fun t1 n1 => ⟨_, rfl, by show 2 ≤ sizeLine; decide, fun t2 n2 => ⟨_, rfl, _, rfl, by show 2 ≤ sizeLine; decide, fun t3 n3 => ⟨_, rfl, _, rfl, _, _, rfl, rfl, by show 2 ≤ sizeLine; decide, fun t4 n4 => ⟨by show 4 ≤ sizeLine; decide, fun L nL => ?_⟩⟩⟩⟩⟩
      have r1 := sm_new (o := .tup [.int (2 * (1 + e)), .int 0]) n1
      have r2 := sm_new (o := .tup [.int 0, .int (2 * (1 + e))]) n2
      have r3 := sm_new (o := .tup [.int (2 * (1 + e)), .int (2 * (1 + e))]) n3
      have r4 := sm_new (o := .tup [.int (2 * (1 + e)), .int (0 - 2 * (1 + e))]) n4
      have r5 := sm_new (o := .lst [.ref t1, .ref t2, .ref t3, .ref t4]) nL
      have rr := (((r1.trans r2).trans r3).trans r4).trans r5
      have nL2 : L ≠ st := fun z => by
        obtain ⟨_, _, _, h, _⟩ := hs4
        have h := r4 _ _ (r3 _ _ (r2 _ _ (r1 _ _ h)))
        rw [z] at nL
        rw [h] at nL
        cases nL
      have f1 := r5 _ _ (r4 _ _ (r3 _ _ (r2 _ _ (show upd H4 t1 (.tup [.int (2 * (1 + e)), .int 0]) t1 = some _ from upd_same))))
      have f2 := r5 _ _ (r4 _ _ (r3 _ _ (show upd (upd H4 t1 (.tup [.int (2 * (1 + e)), .int 0])) t2 (.tup [.int 0, .int (2 * (1 + e))]) t2 = some _ from upd_same)))
      have f3 := r5 _ _ (r4 _ _ (show upd (upd (upd H4 t1 (.tup [.int (2 * (1 + e)), .int 0])) t2 (.tup [.int 0, .int (2 * (1 + e))])) t3 (.tup [.int (2 * (1 + e)), .int (2 * (1 + e))]) t3 = some _ from upd_same))
      have f4 := r5 _ _ (show upd (upd (upd (upd H4 t1 (.tup [.int (2 * (1 + e)), .int 0])) t2 (.tup [.int 0, .int (2 * (1 + e))])) t3 (.tup [.int (2 * (1 + e)), .int (2 * (1 + e))])) t4 (.tup [.int (2 * (1 + e)), .int (0 - 2 * (1 + e))]) t4 = some _ from upd_same)
      refine ⟨st, ls, L, [.ref t1, .ref t2, .ref t3, .ref t4], rfl, hs4.ms rr, nL2, .inl upd_same, by show 0 < 4; decide, by show 4 < 1073741824; decide, fun x H5 mem hs5 b5 => ?_⟩
      have tp5 := b5.tps (hs4.ms rr)
      have ⟨tj, dx, dy, ex, htj, hd⟩ : ∃ tj dx dy, x = .ref tj ∧ H5 tj = some (.tup [.int dx, .int dy]) ∧ Stp dx dy (2 * (1 + e)) := by
        simp only [List.mem_cons, List.not_mem_nil, or_false] at mem
        rcases mem with rfl | rfl | rfl | rfl
        · exact ⟨t1, _, _, rfl, tp5 _ _ f1, .inl ⟨rfl, rfl⟩⟩
        · exact ⟨t2, _, _, rfl, tp5 _ _ f2, .inr (.inl ⟨rfl, rfl⟩)⟩
        · exact ⟨t3, _, _, rfl, tp5 _ _ f3, .inr (.inr (.inl ⟨rfl, rfl⟩))⟩
        · exact ⟨t4, _, _, rfl, tp5 _ _ f4, .inr (.inr (.inr ⟨rfl, rfl⟩))⟩
      subst ex
      have hl5 := b5 _ _ nfs (rr _ _ hl4)
      have hv5 := (hv4.ms rr).mono tp5
      have bH5 := (bH4.trans (But.of rr)).trans b5
      clear f1 f2 f3 f4 hl4 hv4 bH4 r1 r2 r3 r4 r5 tp4 b24 mem
      refine ⟨tj, _, rfl, .of htj, rfl, _, _, rfl, _, _, rfl, rfl, ?_⟩
      obtain ⟨ne, gd⟩ := plain_gd a0 a1 b0 b1 e0 e1 hd
      refine ⟨_, rfl, .inl ⟨rfl, _, .of hl5⟩, ?_⟩
      refine ⟨_, rfl, _, rfl, by show 2 ≤ sizeLine; decide, fun y1 m1 => ?_⟩
      have u1 := sm_new (o := .tup [.int (2 * a), .int (2 * b)]) m1
      refine ⟨_, rfl, _, rfl, _, _, rfl, rfl, _, rfl, _, rfl, _, _, rfl, rfl, by show 2 ≤ sizeLine; decide, fun y2 m2 => ?_⟩
      have u2 := sm_new (o := .tup [.int (2 * a + dx), .int (2 * b + dy)]) m2
      have p1 : PtV _ (.ref y1) (2 * a, 2 * b) := ⟨y1, rfl, u2 _ _ upd_same⟩
      have p2 : PtV (upd (upd H5 y1 (.tup [.int (2 * a), .int (2 * b)])) y2 (.tup [.int (2 * a + dx), .int (2 * b + dy)])) (.ref y2) (2 * a + dx, 2 * b + dy) := ⟨y2, rfl, upd_same⟩
      refine ⟨_, _, _, _, rfl, p1, p2, ?_⟩
      refine ⟨_, rfl, _, rfl, by show 2 ≤ sizeLine; decide, fun y3 m3 => ?_⟩
      have u3 := sm_new (o := .tup [.int (2 * a), .int (2 * b)]) m3
      refine ⟨_, rfl, _, rfl, _, _, rfl, rfl, _, rfl, _, rfl, _, _, rfl, rfl, by show 2 ≤ sizeLine; decide, fun y4 m4 => ?_⟩
      have u4 := sm_new (o := .tup [.int (2 * a + dx), .int (2 * b + dy)]) m4
      have q1 : PtV _ (.ref y3) (2 * a, 2 * b) := ⟨y3, rfl, u4 _ _ upd_same⟩
      have q2 : PtV (upd (upd (upd (upd H5 y1 (.tup [.int (2 * a), .int (2 * b)])) y2 (.tup [.int (2 * a + dx), .int (2 * b + dy)])) y3 (.tup [.int (2 * a), .int (2 * b)])) y4 (.tup [.int (2 * a + dx), .int (2 * b + dy)])) (.ref y4) (2 * a + dx, 2 * b + dy) := ⟨y4, rfl, upd_same⟩
      refine ⟨_, _, _, _, rfl, q1, q2, ?_⟩
      have hmin := ((p1.mini p2).ms u3).ms u4
      have hmax := q1.maxi q2
      refine ⟨by show 2 ≤ sizeLine; decide, fun y5 m5 => ?_⟩
      generalize (if decide (PLt (2 * a + dx, 2 * b + dy) (2 * a, 2 * b)) = true then V.ref y2 else V.ref y1) = w1 at hmin m5 ⊢
      generalize (if decide (PLt (2 * a, 2 * b) (2 * a + dx, 2 * b + dy)) = true then V.ref y4 else V.ref y3) = w2 at hmax m5 ⊢
      have u5 := sm_new (o := .tup [w1, w2]) m5
      have uu := (((u1.trans u2).trans u3).trans u4).trans u5
      have hseg : SgV _ (.ref y5) (sg (2 * a, 2 * b) (2 * a + dx, 2 * b + dy)) := ⟨y5, w1, w2, rfl, upd_same, by rw [← minmax ne]; exact hmin.ms u5, by rw [← minmax ne]; exact hmax.ms u5⟩
      have hl6 := uu _ _ hl5
      have lv : vs.length ≤ 5 := by
        rw [Paired.length hv, hS]
        omega
      refine ⟨fl, _, _, rfl, rfl, hl6, Nat.lt_of_le_of_lt lv (by decide), ?_⟩
      have tp6 := Tps.set (o := .lst (vs ++ [.ref y5])) hl6 (fun xs z => by cases z)
      refine ⟨_, _, _, _, _, _, _, S ++ [sg (2 * a, 2 * b) (2 * a + dx, 2 * b + dy)], rfl, fun b' o nb h => ?_, ?_, upd_same, paired_app ((hv5.ms uu).mono tp6) (.cons (hseg.mono tp6) .nil), by rw [List.length_append, hS]; rfl, fun s hs => ?_⟩
      · rw [upd_ne (ne_of_none h hfl)]
        exact uu _ _ (bH5 _ _ nb h)
      · obtain ⟨ns, cc, kk, g1, g2⟩ := hs5.ms uu
        exact ⟨ns, cc, kk, by rw [upd_ne nfs.symm]; exact g1, by rw [upd_ne nls]; exact g2⟩
      · rcases List.mem_append.mp hs with hs | hs
        · exact hg s hs
        · rw [List.mem_singleton.mp hs]; exact gd
    · subst eσ
      refine ⟨_, rfl, fl, vs, rfl, .inl ⟨.of hl, fun r hr' => ?_⟩⟩
      have s9 := sm_new (o := .tup vs) hr'
      have h5 : (1 + d).toNat ≤ 5 := by omega
      exact q _ r vs S (bH.trans (But.of s9)) (hs'.ms s9) upd_same (hv.ms s9) (by omega) hg
end
end K25

set_option Elab.async false
set_option linter.all false
set_option maxRecDepth 100000
set_option maxHeartbeats 4000000
/-! The law's own defs, six: segments. Own text. -/
namespace K25
open PySem PySem.Spec PyProof.Rows L2 K25S LamX
/-- within the window of the size m around c -/
def WN (c : Pt) (m : Int) (p : Pt) : Prop := (0 ≤ p.1 - c.1 + m / 2 ∧ p.1 - c.1 + m / 2 < m) ∧ (0 ≤ p.2 - c.2 + m / 2 ∧ p.2 - c.2 + m / 2 < m)
/-- the five windows -/
def Ctr (c : Pt) : Prop := c = (0, 0) ∨ c = (3, 0 - 2) ∨ c = (0 - 970, 965) ∨ c = (500, 0 - 977)
theorem WN.far {c p : Pt} {m : Int} (hc : Ctr c) (h0 : 3 ≤ m) (h1 : m ≤ 12) (h : WN c m p) : Far p := by
  unfold WN at h
  unfold Far
  rcases hc with rfl | rfl | rfl | rfl <;> simp only at h <;> omega
theorem WN.nr {c p : Pt} {m : Int} (h0 : 3 ≤ m) (h1 : m ≤ 12) (h : WN c m p) : Nr c p := by
  unfold WN at h
  unfold Nr
  omega
theorem wn_l1 {c p q : Pt} {m : Int} (h1 : m ≤ 12) (hp : WN c m p) (hq : WN c m q) : l1 p q ≤ 30 := by
  unfold WN at *
  unfold l1
  omega
def Gw (c : Pt) (m : Int) (s : Sg) : Prop := Gd c s ∧ WN c m s.1 ∧ WN c m s.2
theorem gw_of {c p q : Pt} {m : Int} (hc : Ctr c) (h0 : 3 ≤ m) (h1 : m ≤ 12) (hp : WN c m p) (hq : WN c m q) (ne : p ≠ q) : Gw c m (sg p q) := by
  refine ⟨gd_of (hp.far hc h0 h1) (hq.far hc h0 h1) ne (hp.nr h0 h1) (hq.nr h0 h1) (wn_l1 h1 hp hq), ?_, ?_⟩
  · rcases sg_two p q with ⟨e, _⟩ | ⟨e, _⟩ <;> rw [e] <;> assumption
  · rcases sg_two p q with ⟨_, e⟩ | ⟨_, e⟩ <;> rw [e] <;> assumption
section
variable {P : Program} {w : World} {K : PySem.W.Frag} {mg : Str → Option Value} {base : Heap} {f : Addr} {fd : FuncData}
theorem sc_law_segments : FnScope ["_law_stream_here", "_law_many", "_law_size", "_law_far", "_law_found", "_law_k", "_law_p", "_law_q"] ["_law_stream_here", "_law_many", "_law_size"] (defScope s_law_segments) := ⟨rfl, rfl, rfl, by decide +kernel, rfl, by decide +kernel, by decide +kernel⟩
def spSegs : Sp := fun vs H Q _ => ∃ (st ls : Addr) (many size : Int), vs = [.ref st, .int many, .int size] ∧ Strm H st ls ∧ 0 ≤ many ∧ many ≤ 5 ∧ 3 ≤ size ∧ size ≤ 12 ∧ ∀ H' r us S c, But st H H' → Strm H' st ls → H' r = some (.tup us) → SgVs H' us S → S.length ≤ 5 → (∀ s ∈ S, Gd c s) → Q (.ref r) H'
theorem pick_five {H H5 : Hp} {t1 t2 t3 t4 t5 : Addr} {x : V} (f1 : H5 t1 = some (.tup [.int 0, .int 0])) (f2 : H5 t2 = some (.tup [.int 0, .int 0])) (f3 : H5 t3 = some (.tup [.int 3, .int (0 - 2)])) (f4 : H5 t4 = some (.tup [.int (0 - 970), .int 965])) (f5 : H5 t5 = some (.tup [.int 500, .int (0 - 977)]))
    (mem : x ∈ [V.ref t1, .ref t2, .ref t3, .ref t4, .ref t5]) : ∃ c, PtV H5 x c ∧ Ctr c := by
  simp only [List.mem_cons, List.not_mem_nil, or_false] at mem
  rcases mem with rfl | rfl | rfl | rfl | rfl
  · exact ⟨(0, 0), ⟨t1, rfl, f1⟩, .inl rfl⟩
  · exact ⟨(0, 0), ⟨t2, rfl, f2⟩, .inl rfl⟩
  · exact ⟨(3, 0 - 2), ⟨t3, rfl, f3⟩, .inr (.inl rfl)⟩
  · exact ⟨(0 - 970, 965), ⟨t4, rfl, f4⟩, .inr (.inr (.inl rfl))⟩
  · exact ⟨(500, 0 - 977), ⟨t5, rfl, f5⟩, .inr (.inr (.inr rfl))⟩
theorem ok_law_segments (T : Nm mg) (CN : Cal P w K mg base 1 "_law_next" ["_law_stream_here", "_law_many"] spNext) (CP : Cal P w K mg base 2 "_law_pick" ["_law_stream_here", "_law_rows"] spPick) (CPt : Cal P w K mg base 2 "_law_point" ["_law_stream_here", "_law_size", "_law_far"] spPoint) (F : FnP K "_law_segments" s_law_segments f fd) :
    FnOk P w K mg base CX0 3 f fd ["_law_stream_here", "_law_many", "_law_size"] spSegs := by
  refine F.ok sc_law_segments (fun vs H Q E h => ?_) (fun cdv A outer s H vs Q E hr h => ⟨_, PSs.nox (
    pss_cons (ps_set (i := 3) sc_law_segments.nd rfl (.inl rfl) (pe_cal CP hr (by decide) rfl (pa_cons (pv 0) (pa_cons (pe_lst (pa_cons (pe_tup (pa_cons pe_int (pa_cons pe_int pa_nil))) (pa_cons (pe_tup (pa_cons pe_int (pa_cons pe_int pa_nil))) (pa_cons (pe_tup (pa_cons pe_int (pa_cons (pe_op op_sub pe_int pe_int) pa_nil)))
      (pa_cons (pe_tup (pa_cons (pe_op op_sub pe_int pe_int) (pa_cons pe_int pa_nil))) (pa_cons (pe_tup (pa_cons pe_int (pa_cons (pe_op op_sub pe_int pe_int) pa_nil))) pa_nil)))))) pa_nil))))
    (pss_cons (ps_set (i := 4) sc_law_segments.nd rfl (.inl rfl) (pe_lst pa_nil))
    (pss_cons (ps_for PassesOwn.never rfl (pi_range1 rfl T.range (pa_cons (pv 1) pa_nil)) (pg_name (i := 5) sc_law_segments.nd rfl (.inl rfl))
      (pss_cons (ps_set (i := 6) sc_law_segments.nd rfl (.inl rfl) (pe_cal CPt hr (by decide) rfl (pa_cons (pv 0) (pa_cons (pv 2) (pa_cons (pv 3) pa_nil)))))
      (pss_cons (ps_set (i := 7) sc_law_segments.nd rfl (.inl rfl) (pe_cal CPt hr (by decide) rfl (pa_cons (pv 0) (pa_cons (pv 2) (pa_cons (pv 3) pa_nil)))))
      (pss_cons (ps_if (PW.pt (pw_and (pt_truth (pv 4) (by intro _; rfl)) (pw_and1 (pt_cmpR op_eq (pe_cal CN hr (by decide) rfl (pa_cons (pv 0) (pa_cons pe_int pa_nil))) pe_int (nomark _)))))
        (pss_one (ps_set (i := 6) sc_law_segments.nd rfl (.inl rfl) (pe_cal CP hr (by decide) rfl (pa_cons (pv 0) (pa_cons (pe_cal CP hr (by decide) rfl (pa_cons (pv 0) (pa_cons (pv 4) pa_nil))) pa_nil))))) pss_nil)
      (pss_one (ps_if (pt_cmpR (op_neP hr.units) (pv 6) (pv 7) (nomark _)) (pss_one (ps_expr (pe_bm PySem.F.plainAttrs_list PySem.F.slot_list_append PySem.F.type_list_append mt_append (pv 4) (pa_cons (pe_tup
        (pa_cons (pe_callB (cr_minP rfl hr.units) rfl T.min (by decide +kernel) (pa_cons (pv 6) (pa_cons (pv 7) pa_nil)))
        (pa_cons (pe_callB (cr_maxP rfl hr.units) rfl T.max (by decide +kernel) (pa_cons (pv 6) (pa_cons (pv 7) pa_nil))) pa_nil))) pa_nil)))) pss_nil))))))
    (pss_one (ps_ret (pe_callTy call_tuple_of rfl T.tuple (by decide +kernel) (pa_cons (pv 4) pa_nil))))))), ?_⟩)
  · obtain ⟨_, _, _, _, rfl, _⟩ := h
    rfl
  · obtain ⟨st, ls, many, size, rfl, hs, m0, m1, z0, z1, q⟩ := h
    refine ⟨_, rfl, by show 2 ≤ sizeLine; decide, fun t1 n1 => ⟨by show 2 ≤ sizeLine; decide, fun t2 n2 => ⟨_, _, rfl, rfl, by show 2 ≤ sizeLine; decide, fun t3 n3 => ⟨_, _, rfl, rfl, by show 2 ≤ sizeLine; decide, fun t4 n4 => ⟨_, _, rfl, rfl, by show 2 ≤ sizeLine; decide, fun t5 n5 => ⟨by show 5 ≤ sizeLine; decide, fun L nL => ?_⟩⟩⟩⟩⟩⟩
    have r1 := sm_new (o := .tup [.int 0, .int 0]) n1
    have r2 := sm_new (o := .tup [.int 0, .int 0]) n2
    have r3 := sm_new (o := .tup [.int 3, .int (0 - 2)]) n3
    have r4 := sm_new (o := .tup [.int (0 - 970), .int 965]) n4
    have r5 := sm_new (o := .tup [.int 500, .int (0 - 977)]) n5
    have r6 := sm_new (o := .lst [.ref t1, .ref t2, .ref t3, .ref t4, .ref t5]) nL
    have f1 := (((r2.trans r3).trans r4).trans r5).trans r6 _ _ (upd_same (H := H) (a := t1) (o := .tup [.int 0, .int 0]))
    have f2 := ((r3.trans r4).trans r5).trans r6 _ _ (upd_same (H := upd H t1 (.tup [.int 0, .int 0])) (a := t2) (o := .tup [.int 0, .int 0]))
    have f3 := (r4.trans r5).trans r6 _ _ (upd_same (H := upd (upd H t1 (.tup [.int 0, .int 0])) t2 (.tup [.int 0, .int 0])) (a := t3) (o := .tup [.int 3, .int (0 - 2)]))
    have f4 := r5.trans r6 _ _ (upd_same (H := upd (upd (upd H t1 (.tup [.int 0, .int 0])) t2 (.tup [.int 0, .int 0])) t3 (.tup [.int 3, .int (0 - 2)])) (a := t4) (o := .tup [.int (0 - 970), .int 965]))
    have f5 := r6 _ _ (upd_same (H := upd (upd (upd (upd H t1 (.tup [.int 0, .int 0])) t2 (.tup [.int 0, .int 0])) t3 (.tup [.int 3, .int (0 - 2)])) t4 (.tup [.int (0 - 970), .int 965])) (a := t5) (o := .tup [.int 500, .int (0 - 977)]))
    have rr := ((((r1.trans r2).trans r3).trans r4).trans r5).trans r6
    have nL2 : L ≠ st := fun z => by
      obtain ⟨_, _, _, h, _⟩ := hs
      have h := ((((r1.trans r2).trans r3).trans r4).trans r5) _ _ h
      rw [z] at nL
      rw [h] at nL
      cases nL
    refine ⟨st, ls, L, [.ref t1, .ref t2, .ref t3, .ref t4, .ref t5], rfl, hs.ms rr, nL2, .inl upd_same, by show 0 < 5; decide, by show 5 < 1073741824; decide, fun vf H1 mem hs1 b1 => ?_⟩
    have tp1 := b1.tps (hs.ms rr)
    obtain ⟨c, hvf, hc⟩ := pick_five (H := H) (tp1 _ _ f1) (tp1 _ _ f2) (tp1 _ _ f3) (tp1 _ _ f4) (tp1 _ _ f5) mem
    have bH1 : But st H H1 := (But.of rr).trans b1
    clear f1 f2 f3 f4 f5 r1 r2 r3 r4 r5 r6 mem b1 tp1 rr nL2 nL n1 n2 n3 n4 n5
    refine ⟨Nat.zero_le _, fun fl hfl => ?_⟩
    have s0 := sm_new (o := .lst []) hfl
    have nfs : fl ≠ st := fun z => by
      obtain ⟨_, _, _, h, _⟩ := hs1
      rw [z, h] at hfl
      cases hfl
    have nls : ls ≠ fl := ne_of_none hs1.choose_spec.choose_spec.choose_spec.2 hfl
    have hfl0 : ∀ b o, b ≠ st → H b = some o → b ≠ fl := fun b o nb h z => by
      have h1 := bH1 _ _ nb h
      rw [z, hfl] at h1
      cases h1
    refine ⟨_, rfl, _, rfl, by omega, by omega, ?_⟩
    refine for_range (lo := 0) (n := many.toNat) (fun i σ' H' => ∃ x5 x6 x7 vs S, σ' = [some (.ref st), some (.int many), some (.int size), some vf, some (.ref fl), x5, x6, x7] ∧ But st H H' ∧ Strm H' st ls ∧ PtV H' vf c ∧ H' fl = some (.lst vs) ∧ SgVs H' vs S ∧ S.length ≤ i ∧ ∀ s ∈ S, Gw c size s)
      ⟨none, none, none, [], [], rfl, bH1.trans (But.of s0), hs1.ms s0, hvf.ms s0, upd_same, .nil, Nat.le_refl _, by simp⟩ (fun i σ' H' hi ⟨x5, x6, x7, vs, S, eσ, bH, hs', hvf', hl, hv, hS, hg⟩ => ?_) (fun σ' H' ⟨x5, x6, x7, vs, S, eσ, bH, hs', hvf', hl, hv, hS, hg⟩ => ?_)
    · subst eσ
      refine ⟨_, rfl, _, rfl, _, rfl, st, ls, size, vf, c, rfl, hs', by omega, by omega, hvf', fun p vp H2 w1 w2 hp hs2 b2 => ?_⟩
      refine ⟨_, rfl, _, rfl, _, rfl, st, ls, size, vf, c, rfl, hs2, by omega, by omega, hvf'.mono (b2.tps hs'), fun q' vq H3 w3 w4 hq hs3 b3 => ?_⟩
      have b23 := b2.trans b3
      have hp3 := hp.mono (b3.tps hs2)
      have tp3 := b23.tps hs'
      have hl3 := b23 _ _ nfs hl
      have hv3 := hv.mono tp3
      have lv : vs.length ≤ 5 := by
        rw [Paired.length hv]
        omega
      have last : ∀ (D : L2.Ends) (H4 : Hp) (vp : V) (p : Pt) (x5 : Option V), (∀ σ' H', (∃ x5 x6 x7 vs S, σ' = [some (.ref st), some (.int many), some (.int size), some vf, some (.ref fl), x5, x6, x7] ∧ But st H H' ∧ Strm H' st ls ∧ PtV H' vf c ∧ H' fl = some (.lst vs) ∧ SgVs H' vs S ∧ S.length ≤ i + 1 ∧ ∀ s ∈ S, Gw c size s) → D.nx σ' H') →
          But st H3 H4 → Strm H4 st ls → PtV H4 vp p → WN c size p → tIfS (tTest (tOp (rPP fun p q => !decide (p = q)) (tVar 6) (tVar 7))) (tDrop (tBM K "list" rAppend (tVar 4) (tCons (tTup (tCons (tCB (rTwoP fun p q => decide (PLt q p)) (tCons (tVar 6) (tCons (tVar 7) tNil))) (tCons (tCB (rTwoP fun p q => decide (PLt p q)) (tCons (tVar 6) (tCons (tVar 7) tNil))) tNil))) tNil))) tNext D
            [some (.ref st), some (.int many), some (.int size), some vf, some (.ref fl), x5, some vp, some vq] H4 := fun D H4 vp p x5 hD b4 hs4 hp4 wp => by
        have tp4 := b4.tps hs3
        have hq4 := hq.mono tp4
        have b234 := b23.trans b4
        have hl4 := b4 _ _ nfs hl3
        refine ⟨_, rfl, _, rfl, p, q', hp4, hq4, _, rfl, ?_⟩
        by_cases e : p = q'
        · refine bF (by simp [e]) ?_
          exact hD _ _ ⟨_, _, _, vs, S, rfl, bH.trans b234, hs4, (hvf'.mono tp3).mono tp4, hl4, hv3.mono tp4, by omega, hg⟩
        · refine bT (by simp [e]) ?_
          refine ⟨_, rfl, .inl ⟨rfl, _, .of hl4⟩, ?_⟩
          refine ⟨_, rfl, _, rfl, vp, vq, p, q', rfl, hp4, hq4, _, rfl, _, rfl, vp, vq, p, q', rfl, hp4, hq4, by show 2 ≤ sizeLine; decide, fun y5 m5 => ?_⟩
          have hmin := hp4.mini hq4
          have hmax := hp4.maxi hq4
          generalize (if decide (PLt q' p) = true then vq else vp) = w5 at hmin m5 ⊢
          generalize (if decide (PLt p q') = true then vq else vp) = w6 at hmax m5 ⊢
          have u5 := sm_new (o := .tup [w5, w6]) m5
          have hseg : SgV _ (.ref y5) (sg p q') := ⟨y5, w5, w6, rfl, upd_same, by rw [← minmax e]; exact hmin.ms u5, by rw [← minmax e]; exact hmax.ms u5⟩
          have hl6 := u5 _ _ hl4
          refine ⟨fl, _, _, rfl, rfl, hl6, Nat.lt_of_le_of_lt lv (by decide), ?_⟩
          have tp6 := Tps.set (o := .lst (vs ++ [.ref y5])) hl6 (fun xs z => by cases z)
          refine hD _ _ ⟨_, _, _, _, S ++ [sg p q'], rfl, fun b' o nb h => ?_, ?_, (((hvf'.mono tp3).mono tp4).ms u5).mono tp6, upd_same, paired_app (((hv3.mono tp4).ms u5).mono tp6) (.cons (hseg.mono tp6) .nil), ?_, fun s hs => ?_⟩
          · rw [upd_ne (hfl0 b' o nb h)]
            exact u5 _ _ ((bH.trans b234) _ _ nb h)
          · obtain ⟨ns, cc, kk, g1, g2⟩ := hs4.ms u5
            exact ⟨ns, cc, kk, by rw [upd_ne nfs.symm]; exact g1, by rw [upd_ne nls]; exact g2⟩
          · rw [List.length_append, List.length_singleton]
            omega
          · rcases List.mem_append.mp hs with hs | hs
            · exact hg s hs
            · rw [List.mem_singleton.mp hs]
              exact gw_of hc z0 z1 wp ⟨w3, w4⟩ e
      refine ⟨_, rfl, _, .inl ⟨_, .of hl3, rfl⟩, ?_⟩
      by_cases he : (!vs.isEmpty) = true
      · refine bT he ⟨_, rfl, st, ls, 5, rfl, hs3, by decide, by decide, fun d H4 d0 d1 hs4 b4 => ?_⟩
        have tp4 := b4.tps hs3
        refine ⟨rfl, _, rfl, ?_⟩
        by_cases hd0 : d = 0
        · have hl4 := b4 _ _ nfs hl3
          have nv : 0 < vs.length := by
            cases vs with
            | nil => simp at he
            | cons _ _ => simp
          refine eqT hd0 ⟨_, rfl, _, rfl, _, rfl, st, ls, fl, vs, rfl, hs4, nfs, .inl hl4, nv, by omega, fun sx H5 mem5 hs5 b5 => ?_⟩
          have tp5 := b5.tps hs4
          obtain ⟨j, hj⟩ := List.mem_iff_getElem?.mp mem5
          obtain ⟨g, hgj, hsx⟩ := paired_get ((hv3.mono tp4).mono tp5) hj
          obtain ⟨ax, v1, v2, rfl, hax, hv1, hv2⟩ := hsx
          have nax : ax ≠ st := fun z => by
            obtain ⟨_, _, _, h, _⟩ := hs5
            rw [z, h] at hax
            cases hax
          have gw := hg g (List.mem_of_getElem? hgj)
          refine ⟨st, ls, ax, [v1, v2], rfl, hs5, nax, .inr hax, by show 0 < 2; decide, by show 2 < 1073741824; decide, fun px H6 mem6 hs6 b6 => ?_⟩
          have tp6 := b6.tps hs5
          have ⟨pp, hpp, wpp⟩ : ∃ pp, PtV H6 px pp ∧ WN c size pp := by
            simp only [List.mem_cons, List.not_mem_nil, or_false] at mem6
            rcases mem6 with rfl | rfl
            · exact ⟨_, hv1.mono tp6, gw.2.1⟩
            · exact ⟨_, hv2.mono tp6, gw.2.2⟩
          exact last _ H6 px pp _ (fun _ _ h => h) ((b4.trans b5).trans b6) hs6 hpp wpp
        · exact eqF hd0 (last _ H4 vp p _ (fun _ _ h => h) b4 hs4 (hp3.mono tp4) ⟨w1, w2⟩)
      · exact bF he (last _ H3 vp p _ (fun _ _ h => h) (But.refl _ _) hs3 hp3 ⟨w1, w2⟩)
    · subst eσ
      refine ⟨_, rfl, fl, vs, rfl, .inl ⟨.of hl, fun r hr' => ?_⟩⟩
      have s9 := sm_new (o := .tup vs) hr'
      exact q _ r vs S c (bH.trans (But.of s9)) (hs'.ms s9) upd_same (hv.ms s9) (by omega) fun s hs => (hg s hs).1
end
end K25

set_option Elab.async false
set_option linter.all false
set_option maxRecDepth 100000
set_option maxHeartbeats 4000000
/-! The law, walked. Own text. -/
namespace K25
open PySem PySem.Spec PyProof.Rows L2 K25S LamX RZ
theorem Tabs.but {T : List (Addr × Str)} {H H' : Hp} {st ls : Addr} (t : Tabs T H) (s : Strm H st ls) (b : But st H H') : Tabs T H' := fun p hp => by
  obtain ⟨ns, cl, k, h, _⟩ := s
  obtain ⟨ps, h1, h2, h3⟩ := t p hp
  refine ⟨ps, b _ _ (fun z => ?_) h1, h2, fun pos cv hc => ?_⟩
  · rw [z, h] at h1
    cases h1
  · obtain ⟨c, e1, e2⟩ := h3 pos cv hc
    refine ⟨c, e1, b _ _ (fun z => ?_) e2⟩
    rw [z, h] at e2
    unfold CodeO at e2
    cases e2
theorem Strm.ext {H H' : Hp} {st ls : Addr} (s : Strm H st ls) (e : ExtN H H') : Strm H' st ls := let ⟨ns, c, k, a, b⟩ := s; ⟨ns, c, k, e _ _ a (fun q z => by cases z), e _ _ b (fun q z => by cases z)⟩
theorem pot_gd {c : Pt} : ∀ {S : List Sg}, (∀ s ∈ S, Gd c s) → pot S ≤ 60 * S.length
  | [], _ => Nat.zero_le _
  | s :: S, h => by
    rw [pot_cons, List.length_cons]
    have h1 := (h s (by simp)).2.2.2
    have h2 := pot_gd (S := S) fun t ht => h t (List.mem_cons_of_mem _ ht)
    omega
theorem span_eq {S E : List Sg} (okS : ∀ s ∈ S, Ok s) (okE : ∀ s ∈ E, Ok s) (cv : Cov S E) {D X Y : Int} (hD : 0 < D) : lawSpan D X Y S = lawSpan D X Y E := by
  unfold lawSpan
  rw [Bool.eq_iff_iff, List.any_eq_true, List.any_eq_true]
  have h := cv D X Y hD
  constructor
  · rintro ⟨s, hs, h1⟩
    obtain ⟨e, he, h2⟩ := h.mp ⟨s, hs, (lawOn_iff (okS s hs) hD).mp (of_decide_eq_true h1)⟩
    exact ⟨e, he, decide_eq_true ((lawOn_iff (okE e he) hD).mpr h2)⟩
  · rintro ⟨s, hs, h1⟩
    obtain ⟨e, he, h2⟩ := h.mpr ⟨s, hs, (lawOn_iff (okE s hs) hD).mp (of_decide_eq_true h1)⟩
    exact ⟨e, he, decide_eq_true ((lawOn_iff (okS e he) hD).mpr h2)⟩
section
variable {P : Program} {w : World} {K : PySem.W.Frag} {mg : Str → Option Value} {base : Heap} {f : Addr} {fd : FuncData}
abbrev lawN : List Str := ["_law_script", "_law_stream_here", "_law_segments_here", "_law_edges", "_law_chains", "_law_rounds", "_law_turn_here", "_law_scale", "_law_point_here", "_law_a", "_law_b", "_law_c", "_law_d", "_law_t", "_law_ends", "_law_segment", "_law_chain", "_law_x", "_law_y", "_law_edge"]
theorem sc_law : FnScope lawN ["_law_script"] (defScope s_law) := ⟨rfl, rfl, rfl, by decide +kernel, rfl, by decide +kernel, by decide +kernel⟩
def spLaw (K : PySem.W.Frag) (PT : Addr) : Sp := fun vs H Q _ => ∃ (a : Addr) (ns : List Int), vs = [.ref a] ∧ SqL K H a (ns.map V.int) ∧ Tabs (TA PT) H ∧ ∀ H', Q (.bl true) H'
theorem op_inPtsK {X : Cx} (e : X.K = K) (hu : X.A.units + 64 < cLine) : OpR X (compareOp .In) (rInPts K) := by
  subst e
  exact op_inPts hu
theorem gn {i : Nat} {x : V} {σ : L2.St} {H : Hp} {Q : L2.St → Hp → Prop} (h : Q (σ.set i (some x)) H) : gName i x σ H Q := h
theorem seq_use {A B : TS} {D : L2.Ends} {σ : L2.St} {H : Hp} (Ψ : L2.St → Hp → Prop) (tail : ∀ σ' H', Ψ σ' H' → B D σ' H') (main : ∀ R : L2.St → Hp → Prop, (∀ σ' H', Ψ σ' H' → R σ' H') → A { D with nx := R } σ H) : tSeq A B D σ H := main _ tail
theorem ok_law (T : Nm mg) {PT : Addr} (CSt : Cal P w K mg base 1 "_law_stream" ["_law_script"] (spStream K)) (CN : Cal P w K mg base 1 "_law_next" ["_law_stream_here", "_law_many"] spNext) (CP : Cal P w K mg base 2 "_law_pick" ["_law_stream_here", "_law_rows"] spPick)
    (CPl : Cal P w K mg base 3 "_law_plain" ["_law_stream_here"] spPlain) (CSg : Cal P w K mg base 3 "_law_segments" ["_law_stream_here", "_law_many", "_law_size"] spSegs) (CCl : Cal P w K mg base 9 "cleaned" ["segments"] (spCleaned P w PT))
    (CAl : Cal P w K mg base 4 "_law_all_whole" ["_law_segments_here"] spAllW) (CSp : Cal P w K mg base 3 "_law_spans" ["_law_segments_here", "_law_point_here", "_law_scale"] spSpans) (F : FnP K "law" s_law f fd) : FnOk P w K mg base CX0 10 f fd ["_law_script"] (spLaw K PT) := by
  refine F.ok sc_law (fun vs H Q E h => ?_) (fun cdv A outer s H vs Q E hr h => ⟨_, PSs.nox (
    pss_cons (ps_set (i := 1) sc_law.nd rfl (.inl rfl) (pe_cal CSt hr (by decide) rfl (pa_cons (pv 0) pa_nil)))
    (pss_cons (ps_set (i := 2) sc_law.nd rfl (.inl rfl) (pe_cal CPl hr (by decide) rfl (pa_cons (pv 1) pa_nil)))
    (pss_cons (ps_if (pt_cmpR op_eq (pe_cal CN hr (by decide) rfl (pa_cons (pv 1) (pa_cons pe_int pa_nil))) pe_int (nomark _))
      (pss_one (ps_set (i := 2) sc_law.nd rfl (.inl rfl) (pe_cal CSg hr (by decide) rfl (pa_cons (pv 1) (pa_cons (pe_op op_add pe_int (pe_cal CN hr (by decide) rfl (pa_cons (pv 1) (pa_cons pe_int pa_nil)))) (pa_cons (pe_op op_add pe_int (pe_cal CN hr (by decide) rfl (pa_cons (pv 1) (pa_cons pe_int pa_nil)))) pa_nil)))))) pss_nil)
    (pss_cons (ps_asg (pe_cal CCl hr (by decide) rfl (pa_cons (pv 2) pa_nil)) (pg_tup rfl (pgs_cons (pg_name (i := 3) sc_law.nd rfl (.inl rfl)) (pgs_cons (pg_name (i := 4) sc_law.nd rfl (.inl rfl)) (pgs_cons (pg_name (i := 5) sc_law.nd rfl (.inl rfl)) pgs_nil)))))
    (pss_cons (ps_if (pt_val (pe_cal CAl hr (by decide) rfl (pa_cons (pv 2) pa_nil)))
      (pss_cons (ps_if (pt_cmpR op_gt (pv 5) pe_int (nomark _)) (pss_one (ps_ret pe_bl)) pss_nil)
      (pss_one (ps_for PassesOwn.never rfl (pi_range1 rfl T.range (pa_cons pe_int pa_nil)) (pg_name (i := 6) sc_law.nd rfl (.inl rfl))
        (pss_cons (ps_set (i := 7) sc_law.nd rfl (.inl rfl) (pe_cal CP hr (by decide) rfl (pa_cons (pv 1) (pa_cons (pe_lst (pa_cons pe_int (pa_cons pe_int (pa_cons pe_int (pa_cons pe_int pa_nil))))) pa_nil))))
        (pss_cons (ps_set (i := 8) sc_law.nd rfl (.inl rfl) (pe_tup (pa_cons (pe_op op_sub (pe_cal CN hr (by decide) rfl (pa_cons (pv 1) (pa_cons (pe_op op_add (pe_op op_mul pe_int (pv 7)) pe_int) pa_nil))) (pe_op op_mul pe_int (pv 7)))
          (pa_cons (pe_op op_sub (pe_cal CN hr (by decide) rfl (pa_cons (pv 1) (pa_cons (pe_op op_add (pe_op op_mul pe_int (pv 7)) pe_int) pa_nil))) (pe_op op_mul pe_int (pv 7))) pa_nil))))
        (pss_cons (ps_if (PW.pt (pw_and (pt_cmpR op_gt (pv 6) pe_int (nomark _)) (pw_and1 (pt_truth (pv 2) (by intro _; rfl)))))
          (pss_cons (ps_asg (pe_cal CP hr (by decide) rfl (pa_cons (pv 1) (pa_cons (pv 2) pa_nil))) (pg_tup rfl (pgs_cons (pg_tup rfl (pgs_cons (pg_name (i := 9) sc_law.nd rfl (.inl rfl)) (pgs_cons (pg_name (i := 10) sc_law.nd rfl (.inl rfl)) pgs_nil)))
            (pgs_cons (pg_tup rfl (pgs_cons (pg_name (i := 11) sc_law.nd rfl (.inl rfl)) (pgs_cons (pg_name (i := 12) sc_law.nd rfl (.inl rfl)) pgs_nil))) pgs_nil))))
          (pss_cons (ps_set (i := 13) sc_law.nd rfl (.inl rfl) (pe_cal CN hr (by decide) rfl (pa_cons (pv 1) (pa_cons pe_int pa_nil))))
          (pss_cons (ps_set (i := 7) sc_law.nd rfl (.inl rfl) pe_int)
          (pss_one (ps_set (i := 8) sc_law.nd rfl (.inl rfl) (pe_tup (pa_cons (pe_op op_add (pe_op op_mul pe_int (pv 9)) (pe_op op_mul (pv 13) (pe_op op_sub (pv 11) (pv 9)))) (pa_cons (pe_op op_add (pe_op op_mul pe_int (pv 10)) (pe_op op_mul (pv 13) (pe_op op_sub (pv 12) (pv 10)))) pa_nil)))))))) pss_nil)
        (pss_one (ps_if (pt_cmpR op_ne (pe_cal CSp hr (by decide) rfl (pa_cons (pv 2) (pa_cons (pv 8) (pa_cons (pv 7) pa_nil)))) (pe_cal CSp hr (by decide) rfl (pa_cons (pv 3) (pa_cons (pv 8) (pa_cons (pv 7) pa_nil)))) (nomark _)) (pss_one (ps_ret pe_bl)) pss_nil))))))))
      pss_nil)
    (pss_cons (ps_set (i := 14) sc_law.nd rfl (.inr rfl) (pe_op op_cat
      (pe_lc (own := [("_law_edge", 19)]) (g := gName 19) (tt := tYes) rfl sc_law.nd (pi_tup (pv 3)) (blkOk_by (N := lawN) (sc := defScope s_law) (by decide +kernel)) (fun _ _ _ _ _ => pg_name (i := 19) sc_law.nd rfl (Or.inl rfl)) (fun _ _ _ _ _ => pts_nil) (fun _ _ _ _ _ => pe_ix (ixK (K := K) rfl) (pv 19) pe_int (fun _ _ => rfl)))
      (pe_lc (own := [("_law_edge", 19)]) (g := gName 19) (tt := tYes) rfl sc_law.nd (pi_tup (pv 3)) (blkOk_by (N := lawN) (sc := defScope s_law) (by decide +kernel)) (fun _ _ _ _ _ => pg_name (i := 19) sc_law.nd rfl (Or.inl rfl)) (fun _ _ _ _ _ => pts_nil) (fun _ _ _ _ _ => pe_ix (ixK (K := K) rfl) (pv 19) pe_int (fun _ _ => rfl)))))
    (pss_cons (ps_if (pt_not (pt_val (pe_callB (cr_all rfl) rfl T.all (by decide +kernel) (pa_cons (pe_lc (own := [("_law_segment", 15)]) (g := gName 15) (tt := tYes) rfl sc_law.nd (pi_tup (pv 2)) (blkOk_by (N := lawN) (sc := defScope s_law) (by decide +kernel))
        (fun _ _ _ _ _ => pg_name (i := 15) sc_law.nd rfl (Or.inl rfl)) (fun _ _ _ _ _ => pts_nil) (fun _ _ _ _ _ => pe_and (pe_cmpR (op_inPtsK (K := K) rfl hr.units) (pe_ix (ixK (K := K) rfl) (pv 15) pe_int (fun _ _ => rfl)) (pv 14) rfl) (pe_one (pe_cmpR (op_inPtsK (K := K) rfl hr.units) (pe_ix (ixK (K := K) rfl) (pv 15) pe_int (fun _ _ => rfl)) (pv 14) rfl)))) pa_nil)))) (pss_one (ps_ret pe_bl)) pss_nil)
    (pss_cons (ps_for PassesOwn.never rfl (pi_zipA rfl T.zip (pa_cons (pv 2) (pa_cons (pv 4) pa_nil))) (pg_tup rfl (pgs_cons (pg_name (i := 15) sc_law.nd rfl (.inl rfl)) (pgs_cons (pg_name (i := 16) sc_law.nd rfl (.inl rfl)) pgs_nil)))
      (pss_one (ps_for PassesOwn.never rfl (pi_tup (pv 16)) (pg_tup rfl (pgs_cons (pg_name (i := 17) sc_law.nd rfl (.inl rfl)) (pgs_cons (pg_name (i := 18) sc_law.nd rfl (.inl rfl)) pgs_nil)))
        (pss_one (ps_if (PW.pt (pw_or (pt_not (pt_chain op_le op_le (pe_ix ix_tup (pe_ix ix_tup (pv 15) pe_int (fun _ _ => rfl)) pe_int (fun _ _ => rfl)) (pv 17) (pe_ix ix_tup (pe_ix ix_tup (pv 15) pe_int (fun _ _ => rfl)) pe_int (fun _ _ => rfl))))
          (pw_or1 (pt_not (pt_chain op_le op_le (pe_callB (call_min2 rfl) rfl T.min (by decide +kernel) (pa_cons (pe_ix ix_tup (pe_ix ix_tup (pv 15) pe_int (fun _ _ => rfl)) pe_int (fun _ _ => rfl)) (pa_cons (pe_ix ix_tup (pe_ix ix_tup (pv 15) pe_int (fun _ _ => rfl)) pe_int (fun _ _ => rfl)) pa_nil))) (pv 18)
            (pe_callB (call_max2 rfl) rfl T.max (by decide +kernel) (pa_cons (pe_ix ix_tup (pe_ix ix_tup (pv 15) pe_int (fun _ _ => rfl)) pe_int (fun _ _ => rfl)) (pa_cons (pe_ix ix_tup (pe_ix ix_tup (pv 15) pe_int (fun _ _ => rfl)) pe_int (fun _ _ => rfl)) pa_nil)))))))) (pss_one (ps_ret pe_bl)) pss_nil)))))
    (pss_one (ps_ret pe_bl)))))))))), ?_⟩)
  · obtain ⟨_, _, rfl, _⟩ := h
    rfl
  · obtain ⟨a, ns, rfl, ha, hT, q⟩ := h
    refine ⟨_, rfl, a, ns, rfl, ha, fun H1 st ls s1 hst0 hls0 hs1 => ?_⟩
    refine ⟨_, rfl, st, ls, rfl, hs1, fun H2 r us S b2 hs2 hr0 hv hl5 hg => ?_⟩
    refine gn ?_
    dsimp only
    refine seq_use (fun σ' H' => ∃ r us S c, σ' = [some (.ref a), some (.ref st), some (.ref r), none, none, none, none, none, none, none, none, none, none, none, none, none, none, none, none, none] ∧ But st H1 H' ∧ Strm H' st ls ∧ H' r = some (.tup us) ∧ SgVs H' us S ∧ S.length ≤ 5 ∧ ∀ s ∈ S, Gd c s) (fun σ' H4 hΨ => ?_) (fun R hR => ?_)
    · clear hg hl5 hv hr0 hs2 b2 S us r H2
      obtain ⟨r, us, S, c, rfl, b4, hs4, hr4, hv4, l5, hg⟩ := hΨ
      have okS : ∀ s ∈ S, Ok s := fun s hs => (hg s hs).1
      have tp4 := b4.tps hs1
      refine ⟨_, rfl, r, us, S, rfl, hr4, hv4, okS, by omega, Nat.le_trans (pot_gd hg) (by omega), Tabs.but (hT.ext s1) hs1 b4, fun Hc o ea ca n ue uc E chs ex tb ho hea hE hca hch ans => ⟨o, _, rfl, .of ho, rfl, _, _, rfl, _, _, rfl, _, _, rfl, rfl, ?_⟩⟩
      have hsc := hs4.ext ex
      have hrc := ex r _ hr4 (fun q z => by cases z)
      have hvc := hv4.mono (tps_ext ex)
      have nrs : r ≠ st := fun z => by
        obtain ⟨_, _, _, h, _⟩ := hsc
        rw [z, h] at hrc
        cases hrc
      have lu : us.length = S.length := Paired.length hvc
      clear ex tb ho hs4 hr4 hv4 tp4 b4 hs1 s1 hst0 hls0 hT
      dsimp only
      refine seq_use (fun σ' H' => ∃ x6 x7 x8 x9 x10 x11 x12 x13, σ' = [some (.ref a), some (.ref st), some (.ref r), some (.ref ea), some (.ref ca), some (.int n), x6, x7, x8, x9, x10, x11, x12, x13, none, none, none, none, none, none] ∧ But st Hc H') (fun σ' H6 hΨ => ?_) (fun R hR => ?_)
      · obtain ⟨x6, x7, x8, x9, x10, x11, x12, x13, rfl, b6⟩ := hΨ
        have tp := b6.tps hsc
        have hea6 := tp _ _ hea
        have hE6 := hE.mono tp
        have hca6 := tp _ _ hca
        have hch6 := hch.mono tp
        have hr6 := tp _ _ hrc
        have hv6 := hvc.mono tp
        clear b6 tp hea hE hca hch hrc hvc hsc
        have lE : ue.length = E.length := Paired.length hE6
        have few := ans.few
        -- the ends of the edges
        refine ⟨_, rfl, ea, rfl, ⟨_, .of hea6⟩, fun L1 nL1 => ?_⟩
        refine lc_tup (K := K) (a := ea) (xs := ue) (fun i H' => ∃ ws, Same H6 H' ∧ H' L1 = some (.lst ws) ∧ PtVs H' ws ((E.map (·.1)).take i)) ⟨[], sm_new nL1, upd_same, .nil⟩ (fun i H' _ ⟨_, s', _⟩ => .of (s' _ _ hea6)) (fun i x H' hx ⟨ws, s', e', hw⟩ => ?_) (fun H7 ⟨ws1, s7, e7, hw7⟩ => ?_)
        · obtain ⟨g, hg', hxg⟩ := paired_get hE6 hx
          obtain ⟨ax, v1, v2, rfl, hax, h1, h2⟩ := hxg.ms s'
          have li : i < 300 := Nat.lt_of_lt_of_le (List.getElem?_eq_some_iff.mp hg').1 few
          have lw : ws.length ≤ i := by
            rw [Paired.length hw, List.length_take]
            exact Nat.min_le_left _ _
          have tpn := Tps.set (o := .lst (ws ++ [v1])) e' (fun xs z => by cases z)
          refine ⟨rfl, _, rfl, _, _, _, _, rfl, rfl, .of hax, atI_nat (j := 0) rfl, _, e', Nat.lt_of_le_of_lt (show ws.length ≤ 300 by omega) (by decide), ws ++ [v1], fun bb o hh => ?_, upd_same, ?_⟩
          · rw [upd_ne (ne_of_none hh nL1)]
            exact s' _ _ hh
          · rw [List.take_add_one, List.getElem?_map, hg']
            exact paired_app (hw.mono tpn) (.cons (h1.mono tpn) .nil)
        rw [lE, show E.length = (E.map (·.1)).length by simp, List.take_length] at hw7
        refine ⟨_, rfl, ea, rfl, ⟨_, .of (s7 _ _ hea6)⟩, fun L2 nL2 => ?_⟩
        refine lc_tup (K := K) (a := ea) (xs := ue) (fun i H' => ∃ ws, Same H7 H' ∧ H' L2 = some (.lst ws) ∧ PtVs H' ws ((E.map (·.2)).take i)) ⟨[], sm_new nL2, upd_same, .nil⟩ (fun i H' _ ⟨_, s', _⟩ => .of (s' _ _ (s7 _ _ hea6))) (fun i x H' hx ⟨ws, s', e', hw⟩ => ?_) (fun H8 ⟨ws2, s8, e8, hw8⟩ => ?_)
        · obtain ⟨g, hg', hxg⟩ := paired_get hE6 hx
          obtain ⟨ax, v1, v2, rfl, hax, h1, h2⟩ := (hxg.ms s7).ms s'
          have li : i < 300 := Nat.lt_of_lt_of_le (List.getElem?_eq_some_iff.mp hg').1 few
          have lw : ws.length ≤ i := by
            rw [Paired.length hw, List.length_take]
            exact Nat.min_le_left _ _
          have tpn := Tps.set (o := .lst (ws ++ [v2])) e' (fun xs z => by cases z)
          refine ⟨rfl, _, rfl, _, _, _, _, rfl, rfl, .of hax, atI_nat (j := 1) rfl, _, e', Nat.lt_of_le_of_lt (show ws.length ≤ 300 by omega) (by decide), ws ++ [v2], fun bb o hh => ?_, upd_same, ?_⟩
          · rw [upd_ne (ne_of_none hh nL2)]
            exact s' _ _ hh
          · rw [List.take_add_one, List.getElem?_map, hg']
            exact paired_app (hw.mono tpn) (.cons (h2.mono tpn) .nil)
        rw [lE, show E.length = (E.map (·.2)).length by simp, List.take_length] at hw8
        have lw1 : ws1.length ≤ 300 := by rw [Paired.length hw7, List.length_map]; exact few
        have lw2 : ws2.length ≤ 300 := by rw [Paired.length hw8, List.length_map]; exact few
        refine ⟨L1, L2, _, _, rfl, rfl, s8 _ _ e7, e8, Nat.le_trans (show ws1.length + ws2.length ≤ 600 by omega) (by decide), fun L3 nL3 => ?_⟩
        have s9 := sm_new (o := .lst (ws1 ++ ws2)) nL3
        have hends : PtVs (upd H8 L3 (.lst (ws1 ++ ws2))) (ws1 ++ ws2) (E.map (·.1) ++ E.map (·.2)) := paired_app ((hw7.ms s8).ms s9) (hw8.ms s9)
        have eL3 : (upd H8 L3 (.lst (ws1 ++ ws2))) L3 = some (.lst (ws1 ++ ws2)) := upd_same
        have s69 := (s7.trans s8).trans s9
        generalize upd H8 L3 (.lst (ws1 ++ ws2)) = H9 at s69 hends eL3 ⊢
        clear s9 nL3 e8 hw8 s8 e7 hw7 s7 lw1 lw2
        have inEnds : ∀ p : Pt, (∃ e ∈ E, p = e.1 ∨ p = e.2) → p ∈ E.map (·.1) ++ E.map (·.2) := fun p ⟨e, he, h⟩ => by
          rw [List.mem_append]
          exact h.imp (fun z => List.mem_map.mpr ⟨e, he, z.symm⟩) fun z => List.mem_map.mpr ⟨e, he, z.symm⟩
        have chn : ∀ (i : Nat) (s : Sg), S[i]? = some s → ∃ ch, chs[i]? = some ch ∧ Chain E s ch := fun i s hs => paired_get ans.chain hs
        -- both ends of each segment
        refine ⟨_, rfl, r, rfl, ⟨_, .of (s69 _ _ hr6)⟩, fun D nD => ?_⟩
        refine lc_tup (K := K) (a := r) (xs := us) (fun i H' => Same H9 H' ∧ H' D = some (.lst (List.replicate i (.bl true)))) ⟨sm_new nD, upd_same⟩ (fun i H' _ h => .of (h.1 _ _ (s69 _ _ hr6))) (fun i x H' hx ⟨s', e'⟩ => ?_) (fun H10 ⟨s10, e10⟩ => ?_)
        · obtain ⟨g, hgi, hxg⟩ := paired_get hv6 hx
          obtain ⟨ch, hci, hch'⟩ := chn i g hgi
          obtain ⟨end1, end2⟩ := hch'.ends
          obtain ⟨ax, v1, v2, rfl, hax, h1, h2⟩ := (hxg.ms s69).ms s'
          have li : i < 5 := Nat.lt_of_lt_of_le (List.getElem?_eq_some_iff.mp hgi).1 l5
          refine ⟨rfl, _, rfl, _, _, _, _, rfl, rfl, .of hax, atI_nat (j := 0) rfl, _, rfl, g.1, L3, _, _, rfl, h1, .of (s' _ _ eL3), hends.ms s', _, rfl, itP (inEnds _ end1) ?_⟩
          refine ⟨_, rfl, _, _, _, _, rfl, rfl, .of hax, atI_nat (j := 1) rfl, _, rfl, g.2, L3, _, _, rfl, h2, .of (s' _ _ eL3), hends.ms s', ?_⟩
          have ed : decide (g.2 ∈ E.map (·.1) ++ E.map (·.2)) = true := decide_eq_true (inEnds _ end2)
          refine ⟨_, e', by rw [List.length_replicate]; exact Nat.lt_of_lt_of_le li (by decide), fun bb o hh => ?_, ?_⟩
          · rw [upd_ne (ne_of_none hh nD)]
            exact s' _ _ hh
          · rw [upd_same]
            show some (HO.lst (List.replicate i (V.bl true) ++ [V.bl (decide (g.2 ∈ E.map (·.1) ++ E.map (·.2)))])) = _
            rw [ed, List.replicate_succ']
        have e1 : (List.replicate us.length true).all id = true := by simp
        refine ⟨D, List.replicate us.length true, rfl, .inl (.inl (by rw [e10, List.map_replicate])), _, rfl, ?_⟩
        rw [e1]
        refine iteF ?_
        have s6 := s69.trans s10
        clear inEnds eL3 hends e10 s10 nD e1
        -- the chains in their boxes
        refine ⟨_, rfl, _, rfl, r, ca, us, uc, rfl, .inr ⟨.of (s6 _ _ hr6), .of (s6 _ _ hca6), ?_⟩⟩
        have luc : uc.length ≤ us.length := by
          have h1 := Paired.length hch6
          have h2 := Paired.length ans.chain
          omega
        refine for_zipT (K := K) (a := r) (b := ca) (xs := us) (ys := uc) (fun i σ' H' => (∃ y0 y1 y2 y3 y4 y5 y6 y7 y8 y9 y10 y11 y12 y13 y14, σ' = [y0, y1, y2, y3, y4, y5, y6, y7, y8, y9, y10, y11, y12, y13, y14] ++ [(σ'[15]?).getD none, (σ'[16]?).getD none, (σ'[17]?).getD none, (σ'[18]?).getD none, (σ'[19]?).getD none]) ∧ Same H6 H') luc
          ⟨⟨_, _, _, _, _, _, _, _, _, _, _, _, _, _, _, rfl⟩, s6⟩ (fun i σ' H' ⟨_, s'⟩ => ⟨s' _ _ hr6, s' _ _ hca6⟩) (fun i x y Tp σ' H' hx hy ⟨⟨y0, y1, y2, y3, y4, y5, y6, y7, y8, y9, y10, y11, y12, y13, y14, eσ⟩, s'⟩ hTp => ?_) (fun σ' H' ⟨_, s'⟩ => q H')
        generalize (σ'[15]?).getD none = z15 at eσ
        generalize (σ'[16]?).getD none = z16 at eσ
        generalize (σ'[17]?).getD none = z17 at eσ
        generalize (σ'[18]?).getD none = z18 at eσ
        generalize (σ'[19]?).getD none = z19 at eσ
        subst eσ
        obtain ⟨g, hgi, hxg⟩ := paired_get hv6 hx
        obtain ⟨ch, hci, hyc⟩ := paired_get hch6 hy
        obtain ⟨ch', hci', hchain⟩ := chn i g hgi
        have ech : ch' = ch := by
          rw [hci] at hci'
          exact (Option.some.inj hci').symm
        subst ech
        obtain ⟨cb, cvs, rfl, hcb, hcp⟩ := hyc.mono (Tps.of s')
        have sT := sm_new (o := .tup [x, .ref cb]) hTp
        have hg9 := (hxg.ms s').ms sT
        have hcb9 := sT _ _ hcb
        have hcp9 := hcp.ms sT
        have s'' := s'.trans sT
        refine ⟨Tp, _, rfl, .of upd_same, rfl, _, _, rfl, _, _, rfl, rfl, ?_⟩
        generalize upd H' Tp (.tup [x, .ref cb]) = Hd at hg9 hcb9 hcp9 s'' ⊢
        refine ⟨_, rfl, cb, rfl, ⟨_, .of hcb9⟩, ?_⟩
        obtain ⟨ax, v1, v2, rfl, hax, ⟨a1, rfl, h1⟩, ⟨a2, rfl, h2⟩⟩ := hg9
        refine for_tup (K := K) (a := cb) (xs := cvs) (fun j σ' H' => H' = Hd ∧ ∃ w17 w18, σ' = [y0, y1, y2, y3, y4, y5, y6, y7, y8, y9, y10, y11, y12, y13, y14, some (.ref ax), some (.ref cb), w17, w18, z19]) ⟨rfl, _, _, rfl⟩ (fun j σ' H' _ h => by rw [h.1]; exact .of hcb9) (fun j xp σ' H' hxp ⟨eH, w17, w18, eσ⟩ => ?_) (fun σ' H' ⟨eH, w17, w18, eσ⟩ => ?_)
        · subst eH eσ
          obtain ⟨p, hpj, hpp⟩ := paired_get hcp9 hxp
          obtain ⟨ap, rfl, hap⟩ := hpp
          obtain ⟨b1, b2, b3, b4⟩ := hchain.box p (List.mem_of_getElem? hpj)
          refine ⟨ap, _, rfl, .of hap, rfl, _, _, rfl, _, _, rfl, rfl, ?_⟩
          refine ⟨_, rfl, _, _, _, _, rfl, rfl, .of hax, atI_nat (j := 0) rfl, _, _, _, _, rfl, rfl, .of h1, atI_nat (j := 0) rfl, _, rfl, _, _, rfl, rfl, _, rfl, itP b1 ?_⟩
          refine ⟨_, rfl, _, _, _, _, rfl, rfl, .of hax, atI_nat (j := 1) rfl, _, _, _, _, rfl, rfl, .of h2, atI_nat (j := 0) rfl, _, _, rfl, rfl, _, rfl, ?_⟩
          have c1 : decide (p.1 ≤ g.2.1) = true := decide_eq_true b2
          refine bF (by simp [b2]) ?_
          refine ⟨_, rfl, _, _, _, _, rfl, rfl, .of hax, atI_nat (j := 0) rfl, _, _, _, _, rfl, rfl, .of h1, atI_nat (j := 1) rfl, _, rfl, _, _, _, _, rfl, rfl, .of hax, atI_nat (j := 1) rfl, _, _, _, _, rfl, rfl, .of h2, atI_nat (j := 1) rfl, _, _, rfl, _, rfl, _, _, rfl, rfl, _, rfl, itP (by rw [ite_min]; exact b3) ?_⟩
          refine ⟨_, rfl, _, _, _, _, rfl, rfl, .of hax, atI_nat (j := 0) rfl, _, _, _, _, rfl, rfl, .of h1, atI_nat (j := 1) rfl, _, rfl, _, _, _, _, rfl, rfl, .of hax, atI_nat (j := 1) rfl, _, _, _, _, rfl, rfl, .of h2, atI_nat (j := 1) rfl, _, _, rfl, _, _, rfl, rfl, _, rfl, ?_⟩
          refine bF (by rw [ite_max]; simp [b4]) ⟨rfl, _, _, rfl⟩
        · subst eH eσ
          exact ⟨⟨_, _, _, _, _, _, _, _, _, _, _, _, _, _, _, rfl⟩, s''⟩
      · refine ⟨_, rfl, r, us, S, c, rfl, hrc, hvc, fun s hs => ⟨(hg s hs).1, (hg s hs).2.1, (hg s hs).2.2.1⟩, by omega, fun H5 b s5 hb => ⟨_, rfl, ?_⟩⟩
        cases b with
        | false => exact iteF (hR _ _ ⟨_, _, _, _, _, _, _, _, rfl, But.of s5⟩)
        | true =>
          refine iteT ?_
          obtain ⟨hn, cov⟩ := ans.whole (hb rfl)
          refine ⟨_, rfl, _, _, rfl, rfl, _, rfl, itN (by omega) ?_⟩
          refine ⟨12, rfl, by decide, by decide, ?_⟩
          refine for_range (lo := 0) (n := (12 : Int).toNat) (fun i σ' H' => ∃ x6 x7 x8 x9 x10 x11 x12 x13, σ' = [some (.ref a), some (.ref st), some (.ref r), some (.ref ea), some (.ref ca), some (.int n), x6, x7, x8, x9, x10, x11, x12, x13, none, none, none, none, none, none] ∧ But st Hc H' ∧ Strm H' st ls)
            ⟨_, _, _, _, _, _, _, _, rfl, But.of s5, hsc.ms s5⟩ (fun i σ' H' hi ⟨x6, x7, x8, x9, x10, x11, x12, x13, eσ, bH, hs'⟩ => ?_) (fun σ' H' ⟨x6, x7, x8, x9, x10, x11, x12, x13, eσ, bH, hs'⟩ => hR _ _ ⟨x6, x7, x8, x9, x10, x11, x12, x13, eσ, bH⟩)
          subst eσ
          refine ⟨_, rfl, by show 4 ≤ sizeLine; decide, fun L nL => ?_⟩
          have r1 := sm_new (o := .lst [.int 1, .int 2, .int 3, .int 6]) nL
          have nL2 : L ≠ st := fun z => by
            obtain ⟨_, _, _, h, _⟩ := hs'
            rw [z, h] at nL
            cases nL
          refine ⟨st, ls, L, [.int 1, .int 2, .int 3, .int 6], rfl, hs'.ms r1, nL2, .inl upd_same, by show 0 < 4; decide, by show 4 < 1073741824; decide, fun x H7 mem hs7 b7 => ?_⟩
          have bH7 := (bH.trans (But.of r1)).trans b7
          have ⟨D, ex, D1, D6⟩ : ∃ D : Int, x = .int D ∧ 1 ≤ D ∧ D ≤ 6 := by
            simp only [List.mem_cons, List.not_mem_nil, or_false] at mem
            rcases mem with rfl | rfl | rfl | rfl
            · exact ⟨1, rfl, by decide, by decide⟩
            · exact ⟨2, rfl, by decide, by decide⟩
            · exact ⟨3, rfl, by decide, by decide⟩
            · exact ⟨6, rfl, by decide, by decide⟩
          subst ex
          clear r1 nL2 mem b7 nL
          refine ⟨_, rfl, _, rfl, _, _, rfl, rfl, .inl ⟨by decide, by decide⟩, _, _, rfl, rfl, st, ls, _, rfl, hs7, by omega, by omega, fun d1 H8 d10 d11 hs8 b8 => ?_⟩
          refine ⟨_, rfl, _, _, rfl, rfl, .inl ⟨by decide, by decide⟩, _, _, rfl, rfl, ?_⟩
          refine ⟨_, rfl, _, rfl, _, _, rfl, rfl, .inl ⟨by decide, by decide⟩, _, _, rfl, rfl, st, ls, _, rfl, hs8, by omega, by omega, fun d2 H9 d20 d21 hs9 b9 => ?_⟩
          refine ⟨_, rfl, _, _, rfl, rfl, .inl ⟨by decide, by decide⟩, _, _, rfl, rfl, by show 2 ≤ sizeLine; decide, fun pt npt => ?_⟩
          have r2 := sm_new (o := .tup [.int (d1 - 2 * D), .int (d2 - 2 * D)]) npt
          have bH9 := ((bH7.trans b8).trans b9).trans (But.of r2)
          have hs10 := hs9.ms r2
          have hpt : PtV (upd H9 pt (.tup [.int (d1 - 2 * D), .int (d2 - 2 * D)])) (.ref pt) (d1 - 2 * D, d2 - 2 * D) := ⟨pt, rfl, upd_same⟩
          have bdp : Bd (d1 - 2 * D, d2 - 2 * D) := by unfold Bd; simp only; omega
          generalize upd H9 pt (.tup [.int (d1 - 2 * D), .int (d2 - 2 * D)]) = H10 at bH9 hs10 hpt ⊢
          clear bH7 b8 b9 r2 hs9 hs8 hs7 bH hs' hb npt
          refine gn ?_
          dsimp only
          refine seq_use (fun σ' H' => ∃ (D : Int) (p : Pt) (vp : V) (x9 x10 x11 x12 x13 : Option V), σ' = [some (.ref a), some (.ref st), some (.ref r), some (.ref ea), some (.ref ca), some (.int n), some (.int (0 + (i : Int))), some (.int D), some vp, x9, x10, x11, x12, x13, none, none, none, none, none, none] ∧ PtV H' vp p ∧ Bd p ∧ 1 ≤ D ∧ D ≤ 6 ∧ But st Hc H' ∧ Strm H' st ls) (fun σ' H' hΨ => ?_) (fun R' hR' => ?_)
          · obtain ⟨D, p, vp, x9, x10, x11, x12, x13, rfl, hp, bp, D1, D6, bH, hs'⟩ := hΨ
            have tp := bH.tps hsc
            refine ⟨_, rfl, _, rfl, _, rfl, r, us, S, vp, D, p, rfl, tp _ _ hrc, hvc.mono tp, okS, hp, bp, D1, D6, fun H11 s11 => ?_⟩
            refine ⟨_, rfl, _, rfl, _, rfl, ea, ue, E, vp, D, p, rfl, s11 _ _ (tp _ _ hea), (hE.mono tp).ms s11, ans.ok, hp.ms s11, bp, D1, D6, fun H12 s12 => ⟨rfl, _, rfl, ?_⟩⟩
            have e := span_eq (X := p.1) (Y := p.2) okS ans.ok cov (show 0 < D by omega)
            refine bF (by rw [e]; simp) ⟨_, _, _, _, _, _, _, _, rfl, (bH.trans (But.of s11)).trans (But.of s12), (hs'.ms s11).ms s12⟩
          · have tp := bH9.tps hsc
            refine ⟨_, rfl, _, _, rfl, rfl, _, rfl, ?_⟩
            by_cases h5 : (0 + (i : Int)) > 5
            · refine itP h5 ⟨_, rfl, _, .inr (.inl ⟨us, .of (tp _ _ hrc), rfl⟩), ?_⟩
              by_cases he : (!us.isEmpty) = true
              · have nv : 0 < us.length := by
                  cases us with
                  | nil => simp at he
                  | cons _ _ => simp
                refine bT he ⟨_, rfl, _, rfl, st, ls, r, us, rfl, hs10, nrs, .inr (tp _ _ hrc), nv, by omega, fun sx H13 mem hs13 b13 => ?_⟩
                have tp13 := b13.tps hs10
                obtain ⟨j, hj⟩ := List.mem_iff_getElem?.mp mem
                obtain ⟨g, hgj, hsx⟩ := paired_get ((hvc.mono tp).mono tp13) hj
                obtain ⟨ax, v1, v2, rfl, hax, ⟨a1, rfl, h1⟩, ⟨a2, rfl, h2⟩⟩ := hsx
                have okg := okS g (List.mem_of_getElem? hgj)
                refine ⟨ax, _, rfl, .of hax, rfl, _, _, rfl, a1, _, rfl, .of h1, rfl, _, _, rfl, _, _, rfl, rfl, _, _, rfl, a2, _, rfl, .of h2, rfl, _, _, rfl, _, _, rfl, rfl, rfl, ?_⟩
                refine ⟨_, rfl, st, ls, 7, rfl, hs13, by decide, by decide, fun t H14 t0 t1 hs14 b14 => ?_⟩
                have ct : ∀ z : Int, CMul t z := fun z => .inl ⟨by omega, by omega⟩
                refine ⟨_, rfl, _, _, rfl, rfl, .inl ⟨by decide, by decide⟩, _, rfl, _, rfl, _, rfl, _, _, rfl, rfl, _, _, rfl, rfl, ct _, _, _, rfl, rfl, ?_⟩
                refine ⟨_, rfl, _, _, rfl, rfl, .inl ⟨by decide, by decide⟩, _, rfl, _, rfl, _, rfl, _, _, rfl, rfl, _, _, rfl, rfl, ct _, _, _, rfl, rfl, by show 2 ≤ sizeLine; decide, fun p2 np2 => ?_⟩
                have r3 := sm_new (o := .tup [.int (6 * g.1.1 + t * (g.2.1 - g.1.1)), .int (6 * g.1.2 + t * (g.2.2 - g.1.2))]) np2
                have b2 : Bd (6 * g.1.1 + t * (g.2.1 - g.1.1), 6 * g.1.2 + t * (g.2.2 - g.1.2)) := by
                  obtain ⟨k1, k2, _⟩ := okg
                  unfold Far at k1 k2
                  have m1 := mul_bd (x := t) (y := g.2.1 - g.1.1) (A := 7) (B := 2000) (by omega) (by omega)
                  have m2 := mul_bd (x := t) (y := g.2.2 - g.1.2) (A := 7) (B := 2000) (by omega) (by omega)
                  unfold Bd
                  simp only
                  omega
                exact hR' _ _ ⟨6, _, _, _, _, _, _, _, rfl, ⟨p2, rfl, upd_same⟩, b2, by decide, by decide, ((bH9.trans b13).trans b14).trans (But.of r3), hs14.ms r3⟩
              · exact bF he (hR' _ _ ⟨D, _, _, _, _, _, _, _, rfl, hpt, bdp, D1, D6, bH9, hs10⟩)
            · exact itN h5 (iteF (hR' _ _ ⟨D, _, _, _, _, _, _, _, rfl, hpt, bdp, D1, D6, bH9, hs10⟩))
    · refine ⟨_, rfl, st, ls, 3, rfl, hs2, by decide, by decide, fun d H3 d0 d1 hs3 b3 => ⟨rfl, _, rfl, ?_⟩⟩
      by_cases hd0 : d = 0
      · refine eqT hd0 ⟨_, rfl, _, rfl, st, ls, 5, rfl, hs3, by decide, by decide, fun m H4 m0 m1 hs4 b4 => ⟨_, _, rfl, rfl, ?_⟩⟩
        refine ⟨_, rfl, st, ls, 10, rfl, hs4, by decide, by decide, fun z H5 z0 z1 hs5 b5 => ⟨_, _, rfl, rfl, ?_⟩⟩
        refine ⟨st, ls, _, _, rfl, hs5, by omega, by omega, by omega, by omega, fun H6 r6 us6 S6 c6 b6 hs6 hr6 hv6 l6 g6 => ?_⟩
        exact hR _ _ ⟨r6, us6, S6, c6, rfl, (((b2.trans b3).trans b4).trans b5).trans b6, hs6, hr6, hv6, l6, g6⟩
      · have tp := b3.tps hs2
        exact eqF hd0 (hR _ _ ⟨r, us, S, _, rfl, b2.trans b3, hs3, tp _ _ hr0, hv.mono tp, hl5, hg⟩)
end
end K25

set_option Elab.async false
set_option linter.all false
set_option maxRecDepth 100000
set_option maxHeartbeats 0
/-! The end. Own text. -/
namespace K25
open PySem PySem.Spec PyProof.Rows L2 LamX
theorem nm_of {w : World} {K : PySem.W.Frag} {h : Heap} {mg : Str → Option Value} (X : K.In h) (G : h.Ns mainGlobals mg) (c : He.SaysX fas fns [] tf exG w h K) : Nm mg where
  isi := He.free_ok X G (c.t.d.fact 39 (f := .free "isinstance") rfl)
  int := He.free_ok X G (c.t.d.fact 40 (f := .free "int") rfl)
  bool := He.free_ok X G (c.t.d.fact 41 (f := .free "bool") rfl)
  tuple := He.free_ok X G (c.t.d.fact 42 (f := .free "tuple") rfl)
  len := He.free_ok X G (c.t.d.fact 43 (f := .free "len") rfl)
  all := He.free_ok X G (c.t.d.fact 44 (f := .free "all") rfl)
  any := He.free_ok X G (c.t.d.fact 45 (f := .free "any") rfl)
  abs := He.free_ok X G (c.t.d.fact 46 (f := .free "abs") rfl)
  min := He.free_ok X G (c.t.d.fact 47 (f := .free "min") rfl)
  max := He.free_ok X G (c.t.d.fact 48 (f := .free "max") rfl)
  set := He.free_ok X G (c.t.d.fact 49 (f := .free "set") rfl)
  sorted := He.free_ok X G (c.t.d.fact 50 (f := .free "sorted") rfl)
  list := He.free_ok X G (c.t.d.fact 51 (f := .free "list") rfl)
  range := He.free_ok X G (c.t.d.fact 52 (f := .free "range") rfl)
  enumerate := He.free_ok X G (c.t.d.fact 53 (f := .free "enumerate") rfl)
  zip := He.free_ok X G (c.t.d.fact 54 (f := .free "zip") rfl)
  gcd := by
    have z : exG K = true := c.more
    unfold exG at z
    cases e : PySem.W.nsIn K mainGlobals "gcd" with
    | none => rw [e] at z; cases z
    | some u => cases u with
      | none => rw [e] at z; cases z
      | some v =>
        rw [e] at z
        cases v with
        | builtin id =>
          have z : decide (id = "math.gcd") = true := z
          rw [of_decide_eq_true z] at e
          exact PySem.W.mg_of X G e
        | _ => cases z
  farthest := He.int_ok X G (c.t.d.fact 36 (f := .int "FARTHEST" 1000) rfl)
  segs := He.int_ok X G (c.t.d.fact 37 (f := .int "MOST_SEGMENTS" 40) rfl)
  edges := He.int_ok X G (c.t.d.fact 38 (f := .int "MOST_EDGES" 400) rfl)
theorem law_facts {P : Program} {w : World} {K : PySem.W.Frag} {h : Heap} {mg : Str → Option Value} {fa : Addr} (X : K.In h) (G : h.Ns mainGlobals mg) (hfa : mg ("law" : Str) = some (.ref fa)) (c : He.SaysX fas fns [] tf exG w h K) :
    ∃ fd : FuncData, (∀ (s : Shared) (v : Value), BindsTo s fd ⟨[v], []⟩ [("_law_script", v)]) ∧ ∀ base : Heap, K.In base → base.Ns mainGlobals mg → TabB base mg (He.cT K ("along", none)).1 (He.cT K ("along", none)).2 → FnOk P w K mg base CX0 10 fa fd ["_law_script"] (spLaw K (He.cT K ("along", none)).2) := by
  have T := nm_of X G c
  have D := c.t.d
  obtain ⟨fd_is_whole, F_is_whole⟩ := D.def_ 0 (d := d_is_whole) rfl
  have m_is_whole := He.glo_ok X G (D.fact 0 (f := .glo "is_whole") rfl)
  obtain ⟨fd_lowest, F_lowest⟩ := D.def_ 1 (d := d_lowest) rfl
  have m_lowest := He.glo_ok X G (D.fact 1 (f := .glo "lowest") rfl)
  obtain ⟨fd_is_point, F_is_point⟩ := D.def_ 2 (d := d_is_point) rfl
  have m_is_point := He.glo_ok X G (D.fact 2 (f := .glo "is_point") rfl)
  obtain ⟨fd_is_segment, F_is_segment⟩ := D.def_ 3 (d := d_is_segment) rfl
  have m_is_segment := He.glo_ok X G (D.fact 3 (f := .glo "is_segment") rfl)
  obtain ⟨fd_check_segment, F_check_segment⟩ := D.def_ 4 (d := d_check_segment) rfl
  have m_check_segment := He.glo_ok X G (D.fact 4 (f := .glo "check_segment") rfl)
  obtain ⟨fd_turned, F_turned⟩ := D.def_ 5 (d := d_turned) rfl
  have m_turned := He.glo_ok X G (D.fact 5 (f := .glo "turned") rfl)
  obtain ⟨fd_on_one_line, F_on_one_line⟩ := D.def_ 6 (d := d_on_one_line) rfl
  have m_on_one_line := He.glo_ok X G (D.fact 6 (f := .glo "on_one_line") rfl)
  obtain ⟨fd_are_beside, F_are_beside⟩ := D.def_ 7 (d := d_are_beside) rfl
  have m_are_beside := He.glo_ok X G (D.fact 7 (f := .glo "are_beside") rfl)
  obtain ⟨fd_meet, F_meet⟩ := D.def_ 8 (d := d_meet) rfl
  have m_meet := He.glo_ok X G (D.fact 8 (f := .glo "meet") rfl)
  obtain ⟨fd_meeting, F_meeting⟩ := D.def_ 9 (d := d_meeting) rfl
  have m_meeting := He.glo_ok X G (D.fact 9 (f := .glo "meeting") rfl)
  obtain ⟨fd_check_segments, F_check_segments⟩ := D.def_ 10 (d := d_check_segments) rfl
  have m_check_segments := He.glo_ok X G (D.fact 10 (f := .glo "check_segments") rfl)
  obtain ⟨fd_unlike, F_unlike⟩ := D.def_ 11 (d := d_unlike) rfl
  have m_unlike := He.glo_ok X G (D.fact 11 (f := .glo "unlike") rfl)
  obtain ⟨fd_is_apart, F_is_apart⟩ := D.def_ 12 (d := d_is_apart) rfl
  have m_is_apart := He.glo_ok X G (D.fact 12 (f := .glo "is_apart") rfl)
  obtain ⟨fd_met, F_met⟩ := D.def_ 13 (d := d_met) rfl
  have m_met := He.glo_ok X G (D.fact 13 (f := .glo "met") rfl)
  obtain ⟨fd_nearest, F_nearest⟩ := D.def_ 14 (d := d_nearest) rfl
  have m_nearest := He.glo_ok X G (D.fact 14 (f := .glo "nearest") rfl)
  obtain ⟨fd_points_met, F_points_met⟩ := D.def_ 15 (d := d_points_met) rfl
  have m_points_met := He.glo_ok X G (D.fact 15 (f := .glo "points_met") rfl)
  obtain ⟨fd_along, F_along⟩ := D.def_ 16 (d := d_along) rfl
  have m_along := He.glo_ok X G (D.fact 16 (f := .glo "along") rfl)
  obtain ⟨fd_cuts_of, F_cuts_of⟩ := D.def_ 17 (d := d_cuts_of) rfl
  have m_cuts_of := He.glo_ok X G (D.fact 17 (f := .glo "cuts_of") rfl)
  obtain ⟨fd_pieces, F_pieces⟩ := D.def_ 18 (d := d_pieces) rfl
  have m_pieces := He.glo_ok X G (D.fact 18 (f := .glo "pieces") rfl)
  obtain ⟨fd_cut_up, F_cut_up⟩ := D.def_ 19 (d := d_cut_up) rfl
  have m_cut_up := He.glo_ok X G (D.fact 19 (f := .glo "cut_up") rfl)
  obtain ⟨fd_lengthened, F_lengthened⟩ := D.def_ 20 (d := d_lengthened) rfl
  have m_lengthened := He.glo_ok X G (D.fact 20 (f := .glo "lengthened") rfl)
  obtain ⟨fd_cleaned, F_cleaned⟩ := D.def_ 21 (d := d_cleaned) rfl
  have m_cleaned := He.glo_ok X G (D.fact 21 (f := .glo "cleaned") rfl)
  obtain ⟨fd__law_stream, F__law_stream⟩ := D.def_ 22 (d := d_law_stream) rfl
  have m__law_stream := He.glo_ok X G (D.fact 22 (f := .glo "_law_stream") rfl)
  obtain ⟨fd__law_next, F__law_next⟩ := D.def_ 23 (d := d_law_next) rfl
  have m__law_next := He.glo_ok X G (D.fact 23 (f := .glo "_law_next") rfl)
  obtain ⟨fd__law_gcd, F__law_gcd⟩ := D.def_ 24 (d := d_law_gcd) rfl
  have m__law_gcd := He.glo_ok X G (D.fact 24 (f := .glo "_law_gcd") rfl)
  obtain ⟨fd__law_low, F__law_low⟩ := D.def_ 25 (d := d_law_low) rfl
  have m__law_low := He.glo_ok X G (D.fact 25 (f := .glo "_law_low") rfl)
  obtain ⟨fd__law_pick, F__law_pick⟩ := D.def_ 26 (d := d_law_pick) rfl
  have m__law_pick := He.glo_ok X G (D.fact 26 (f := .glo "_law_pick") rfl)
  obtain ⟨fd__law_point, F__law_point⟩ := D.def_ 27 (d := d_law_point) rfl
  have m__law_point := He.glo_ok X G (D.fact 27 (f := .glo "_law_point") rfl)
  obtain ⟨fd__law_segments, F__law_segments⟩ := D.def_ 28 (d := d_law_segments) rfl
  have m__law_segments := He.glo_ok X G (D.fact 28 (f := .glo "_law_segments") rfl)
  obtain ⟨fd__law_turn, F__law_turn⟩ := D.def_ 29 (d := d_law_turn) rfl
  have m__law_turn := He.glo_ok X G (D.fact 29 (f := .glo "_law_turn") rfl)
  obtain ⟨fd__law_on, F__law_on⟩ := D.def_ 30 (d := d_law_on) rfl
  have m__law_on := He.glo_ok X G (D.fact 30 (f := .glo "_law_on") rfl)
  obtain ⟨fd__law_cross, F__law_cross⟩ := D.def_ 31 (d := d_law_cross) rfl
  have m__law_cross := He.glo_ok X G (D.fact 31 (f := .glo "_law_cross") rfl)
  obtain ⟨fd__law_plain, F__law_plain⟩ := D.def_ 32 (d := d_law_plain) rfl
  have m__law_plain := He.glo_ok X G (D.fact 32 (f := .glo "_law_plain") rfl)
  obtain ⟨fd__law_spans, F__law_spans⟩ := D.def_ 33 (d := d_law_spans) rfl
  have m__law_spans := He.glo_ok X G (D.fact 33 (f := .glo "_law_spans") rfl)
  obtain ⟨fd__law_all_whole, F__law_all_whole⟩ := D.def_ 34 (d := d_law_all_whole) rfl
  have m__law_all_whole := He.glo_ok X G (D.fact 34 (f := .glo "_law_all_whole") rfl)
  obtain ⟨fd_law, F_law⟩ := D.def_ 35 (d := d_law) rfl
  have m_law := He.glo_ok X G (D.fact 35 (f := .glo "law") rfl)
  have e := hfa.symm.trans m_law
  cases e
  have b := FunD.bindsA (ps := ["_law_script"]) F_law fun _ _ _ _ _ _ us hl => match us, hl with | [_], _ => rfl
  refine ⟨fd_law, fun s v => b s [v] rfl, fun base _ _ TB => ?_⟩
  obtain ⟨ca, hca⟩ : ∃ c, fd_along.code = .ref c := by
    obtain ⟨oc, od, dV, kV, doc, pm, an, cdv, ct, osl, rfl, lk, hcd, _, _⟩ := F_along.ex
    exact He.codeIn_ref hcd
  have hcode : fd_along.code = .ref (He.cT K ("along", none)).1 := by
    obtain ⟨oc, od, dV, kV, doc, pm, an, cdv, ct, osl, efd, lk, hcd, _, _⟩ := F_along.ex
    have z : He.codeOf K ("along", none) = ca := He.codeOf_eq lk hca
    rw [hca]
    show Value.ref ca = Value.ref (He.codeOf K ("along", none))
    rw [z]
  have c_is_whole := cal_of F_is_whole m_is_whole (ok_is_whole (P := P) (w := w) (base := base) T  F_is_whole) fun _ _ _ _ _ _ us hl => match us, hl with | [_], _ => rfl
  have c_turned := cal_of F_turned m_turned (ok_turned (P := P) (w := w) (base := base)  F_turned) fun _ _ _ _ _ _ us hl => match us, hl with | [_, _, _], _ => rfl
  have c_lowest := cal_of F_lowest m_lowest (ok_lowest (P := P) (w := w) (base := base) T  F_lowest) fun _ _ _ _ _ _ us hl => match us, hl with | [_, _], _ => rfl
  have c_are_beside := cal_of F_are_beside m_are_beside (ok_are_beside (P := P) (w := w) (base := base)  F_are_beside) fun _ _ _ _ _ _ us hl => match us, hl with | [_, _], _ => rfl
  have c_nearest := cal_of F_nearest m_nearest (ok_nearest (P := P) (w := w) (base := base)  F_nearest) fun _ _ _ _ _ _ us hl => match us, hl with | [_], _ => rfl
  have c_is_point := cal_of F_is_point m_is_point (ok_is_point (P := P) (w := w) (base := base) T c_is_whole F_is_point) fun _ _ _ _ _ _ us hl => match us, hl with | [_], _ => rfl
  have c_is_segment := cal_of F_is_segment m_is_segment (ok_is_segment (P := P) (w := w) (base := base) T c_is_point F_is_segment) fun _ _ _ _ _ _ us hl => match us, hl with | [_], _ => rfl
  have c_check_segment := cal_of F_check_segment m_check_segment (ok_check_segment (P := P) (w := w) (base := base) c_is_segment F_check_segment) fun _ _ _ _ _ _ us hl => match us, hl with | [_, _], _ => rfl
  have c_on_one_line := cal_of F_on_one_line m_on_one_line (ok_on_one_line (P := P) (w := w) (base := base) T  F_on_one_line) fun _ _ _ _ _ _ us hl => match us, hl with | [_, _], _ => rfl
  have c_meet := cal_of F_meet m_meet (ok_meet (P := P) (w := w) (base := base) c_turned c_on_one_line c_are_beside c_lowest F_meet) fun _ _ _ _ _ _ us hl => match us, hl with | [_, _], _ => rfl
  have c_meeting := cal_of F_meeting m_meeting (ok_meeting (P := P) (w := w) (base := base) c_check_segment c_meet F_meeting) fun _ _ _ _ _ _ us hl => match us, hl with | [_, _], _ => rfl
  have c_check_segments := cal_of F_check_segments m_check_segments (ok_check_segments (P := P) (w := w) (base := base) T c_is_segment F_check_segments) fun _ _ _ _ _ _ us hl => match us, hl with | [_], _ => rfl
  have c_unlike := cal_of F_unlike m_unlike (ok_unlike (P := P) (w := w) (base := base) T  F_unlike) fun _ _ _ _ _ _ us hl => match us, hl with | [_], _ => rfl
  have c_is_apart := cal_of F_is_apart m_is_apart (ok_is_apart (P := P) (w := w) (base := base) T  F_is_apart) fun _ _ _ _ _ _ us hl => match us, hl with | [_, _], _ => rfl
  have c_met := cal_of F_met m_met (ok_met (P := P) (w := w) (base := base) c_is_apart c_meeting F_met) fun _ _ _ _ _ _ us hl => match us, hl with | [_, _], _ => rfl
  have c_points_met := cal_of F_points_met m_points_met (ok_points_met (P := P) (w := w) (base := base) T c_met c_nearest F_points_met) fun _ _ _ _ _ _ us hl => match us, hl with | [_, _], _ => rfl
  have c_along := cal_of F_along m_along (ok_along (P := P) (w := w) (base := base) T F_along hcode TB) fun _ _ _ _ _ _ us hl => match us, hl with | [_, _], _ => rfl
  have c_cuts_of := cal_of F_cuts_of m_cuts_of (ok_cuts_of (P := P) (w := w) (base := base) T c_points_met c_along F_cuts_of) fun _ _ _ _ _ _ us hl => match us, hl with | [_], _ => rfl
  have c_pieces := cal_of F_pieces m_pieces (ok_pieces (P := P) (w := w) (base := base) T  F_pieces) fun _ _ _ _ _ _ us hl => match us, hl with | [_], _ => rfl
  have c_cut_up := cal_of F_cut_up m_cut_up (ok_cut_up (P := P) (w := w) (base := base) T c_pieces c_unlike F_cut_up) fun _ _ _ _ _ _ us hl => match us, hl with | [_], _ => rfl
  have c_lengthened := cal_of F_lengthened m_lengthened (ok_lengthened (P := P) (w := w) (base := base) T  F_lengthened) fun _ _ _ _ _ _ us hl => match us, hl with | [_, _], _ => rfl
  have c_cleaned := cal_of F_cleaned m_cleaned (ok_cleaned (P := P) (w := w) (base := base) T c_check_segments c_unlike c_cuts_of c_cut_up c_lengthened F_cleaned) fun _ _ _ _ _ _ us hl => match us, hl with | [_], _ => rfl
  have c__law_stream := cal_of F__law_stream m__law_stream (ok_law_stream (P := P) (w := w) (base := base) T  F__law_stream) fun _ _ _ _ _ _ us hl => match us, hl with | [_], _ => rfl
  have c__law_next := cal_of F__law_next m__law_next (ok_law_next (P := P) (w := w) (base := base) T  F__law_next) fun _ _ _ _ _ _ us hl => match us, hl with | [_, _], _ => rfl
  have c__law_gcd := cal_of F__law_gcd m__law_gcd (ok_law_gcd (P := P) (w := w) (base := base) T  F__law_gcd) fun _ _ _ _ _ _ us hl => match us, hl with | [_, _], _ => rfl
  have c__law_low := cal_of F__law_low m__law_low (ok_law_low (P := P) (w := w) (base := base) c__law_gcd F__law_low) fun _ _ _ _ _ _ us hl => match us, hl with | [_, _], _ => rfl
  have c__law_pick := cal_of F__law_pick m__law_pick (ok_law_pick (P := P) (w := w) (base := base) T c__law_next F__law_pick) fun _ _ _ _ _ _ us hl => match us, hl with | [_, _], _ => rfl
  have c__law_point := cal_of F__law_point m__law_point (ok_law_point (P := P) (w := w) (base := base) c__law_next F__law_point) fun _ _ _ _ _ _ us hl => match us, hl with | [_, _, _], _ => rfl
  have c__law_segments := cal_of F__law_segments m__law_segments (ok_law_segments (P := P) (w := w) (base := base) T c__law_next c__law_pick c__law_point F__law_segments) fun _ _ _ _ _ _ us hl => match us, hl with | [_, _, _], _ => rfl
  have c__law_turn := cal_of F__law_turn m__law_turn (ok_law_turn (P := P) (w := w) (base := base)  F__law_turn) fun _ _ _ _ _ _ us hl => match us, hl with | [_, _, _], _ => rfl
  have c__law_on := cal_of F__law_on m__law_on (ok_law_on (P := P) (w := w) (base := base) T c__law_turn F__law_on) fun _ _ _ _ _ _ us hl => match us, hl with | [_, _], _ => rfl
  have c__law_cross := cal_of F__law_cross m__law_cross (ok_law_cross (P := P) (w := w) (base := base) c__law_turn c__law_low F__law_cross) fun _ _ _ _ _ _ us hl => match us, hl with | [_, _], _ => rfl
  have c__law_plain := cal_of F__law_plain m__law_plain (ok_law_plain (P := P) (w := w) (base := base) T c__law_next c__law_pick F__law_plain) fun _ _ _ _ _ _ us hl => match us, hl with | [_], _ => rfl
  have c__law_spans := cal_of F__law_spans m__law_spans (ok_law_spans (P := P) (w := w) (base := base) c__law_on F__law_spans) fun _ _ _ _ _ _ us hl => match us, hl with | [_, _, _], _ => rfl
  have c__law_all_whole := cal_of F__law_all_whole m__law_all_whole (ok_law_all_whole (P := P) (w := w) (base := base) T c__law_cross F__law_all_whole) fun _ _ _ _ _ _ us hl => match us, hl with | [_], _ => rfl
  exact ok_law T c__law_stream c__law_next c__law_pick c__law_plain c__law_segments c_cleaned c__law_all_whole c__law_spans F_law
end K25
open PySem PySem.W PySem.Calls PyProof.Rows
theorem PySem.Challenge.cw_trueatlas_k25_whole_cuts_at_whole_points_holds : PySem.Challenge.rw_trueatlas_k25_whole_cuts_at_whole_points.Holds := by
  w_on; o_law
  refine HandSHeadRun.head_imp (r := OpenLaw.row PySem.Challenge.rw_trueatlas_k25_whole_cuts_at_whole_points) (q := view (OpenLaw.row PySem.Challenge.rw_trueatlas_k25_whole_cuts_at_whole_points).prog [0, 48]) (H := K25.hk) (ob := K25.ob) (M := 30000) (loose := K25.loose) (d := HandSHeadRun.topDef (OpenLaw.row PySem.Challenge.rw_trueatlas_k25_whole_cuts_at_whole_points).prog 48) (kwd := []) K25.ob_eq
    K25.run (by kernel_rfl) (by kernel_rfl) (by kernel_rfl) (by rfl) (by first | assumption | decide +kernel) (by decide +kernel) ⟨rfl, rfl, rfl, rfl, rfl, by decide +kernel⟩ ?hw ?hc
  case hw => w_witness2
  case hc =>
    refine LamX.walk_ofTsE (l := PySem.Challenge.rw_trueatlas_k25_whole_cuts_at_whole_points) (n := 63) (k := 10) (x := "_law_script") (CX := fun _ => L2.CX0) rfl (by decide) (by kernel_rfl) ⟨rfl, by decide, by decide⟩ ?F (fun _ _ _ _ _ z => z)
    intro w mg fa h Y G hmg0
    obtain ⟨K, KX, c⟩ := Y
    have hmg : mg ("law" : PySem.Str) = some (.ref fa) := by
      have e : (HandSHeadRun.topDef (OpenLaw.row PySem.Challenge.rw_trueatlas_k25_whole_cuts_at_whole_points).prog 48).name = ("law" : PySem.Str) := by kernel_rfl
      rw [← e]
      exact hmg0
    obtain ⟨fd, hb, hF⟩ := K25.law_facts (P := (PySem.Challenge.rw_trueatlas_k25_whole_cuts_at_whole_points).prog) (w := w) KX G hmg c
    refine ⟨K, KX, fd, [He.cT K ("along", none)], K25.spLaw K (He.cT K ("along", none)).2, fun p hp => ?_, fun p hp => ?_, fun p hp => ?_, hb, fun H a ns _ _ hT hS => ⟨a, ns, rfl, hS, fun p hp => ?_, fun _ => rfl⟩, fun base kb nb TB => hF base kb nb (TB _ (List.mem_singleton.mpr rfl))⟩
    · rw [List.mem_singleton.mp hp]
      exact c.empty _ (List.mem_singleton.mpr rfl)
    · rw [List.mem_singleton.mp hp]
      exact c.out _ (List.mem_singleton.mpr rfl)
    · rw [List.mem_singleton.mp hp]
      exact PySem.W.codeHd_of_K KX (c.hd _ (List.mem_singleton.mpr rfl))
    · have ep := List.mem_singleton.mp hp
      rw [ep]
      exact LamX.TabS.nil (hT _ (List.mem_singleton.mpr rfl))


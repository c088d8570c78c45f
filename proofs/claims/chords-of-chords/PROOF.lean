import PyProof.Rows.All
import Wide.All
import OpenK.AllK
import Wide.FinOn
import KE.KStateDown
import HandS.Base
import HandS.Call
import HandS.List
import HandS.Comp
import HandS.Ends
import HandS.Iter
import HandS.Zip
import HandS.Wide
import HandS.TupAny
import HandS.TupLe
import HandS.IsInst
import HandS.TryOnly
import HandS.Exc
import HandS.ExcOwn
import HandS.Words
import HandS.WordsList
import HandS.WordsExc
import HandS.Defaults
import HandS.Style
import HandS.Evl
import HandS.HeadHook1
import HandS.HeadHook2
import PySem.Challenge.RW_roundsides_k89_whole_chords_of_chords
import HandS.More
import HandS.Head0
import HandS.Head1
import HandS.Head2
import HandS.HeadEnd
set_option Elab.async false
set_option linter.all false
namespace Rs
structure Cub where
  g : Rat
  h : Rat
  k : Rat
deriving DecidableEq
abbrev Pt := Option (Rat × Rat)
def Cub.f (c : Cub) (t : Rat) : Rat := 1 + c.g * t + c.h * t * t + c.k * t * t * t
def Cub.f' (c : Cub) (t : Rat) : Rat := c.g + 2 * c.h * t + 3 * c.k * t * t
def Cub.disc (c : Cub) : Rat := c.g * c.g * c.h * c.h - 4 * c.h * c.h * c.h - 4 * c.k * c.g * c.g * c.g - 27 * c.k * c.k + 18 * c.g * c.h * c.k
/-- a cubic of a pair -/
structure Cub.Ok (c : Cub) : Prop where
  k0 : c.k ≠ 0
  d0 : c.disc ≠ 0
def OnC (c : Cub) : Pt → Prop
  | none => True
  | some p => p.2 * p.2 = c.f p.1
def neg : Pt → Pt
  | none => none
  | some p => some (p.1, -p.2)
def slope (c : Cub) (p q : Rat × Rat) : Rat :=
  if p ≠ q then (q.2 - p.2) / (q.1 - p.1) else (c.g + p.1 * (2 * c.h + 3 * (p.1 * c.k))) / (2 * p.2)
def third (c : Cub) (p q : Rat × Rat) (s : Rat) : Rat × Rat :=
  let t := (s * s - c.h) / c.k - p.1 - q.1
  (t, -(p.2 + s * (t - p.1)))
def add (c : Cub) : Pt → Pt → Pt
  | none, q => q
  | some p, none => some p
  | some p, some q => if p = (q.1, -q.2) then none else some (third c p q (slope c p q))

/-- a line of slope l through two spots, or one that touches -/
structure Lin (c : Cub) (p q : Rat × Rat) (l : Rat) : Prop where
  a : l * (p.1 - q.1) = p.2 - q.2
  b : l * (p.2 + q.2) = c.k * (p.1 * p.1 + p.1 * q.1 + q.1 * q.1) + c.h * (p.1 + q.1) + c.g
def NonOpp (p q : Rat × Rat) : Prop := ¬ (p.1 = q.1 ∧ p.2 = - q.2)
theorem nonopp {p q : Rat × Rat} (h : p ≠ (q.1, -q.2)) : NonOpp p q := fun z => h (Prod.ext z.1 z.2)

theorem mulc {a x y : Rat} (h : a ≠ 0) (e : a * x = a * y) : x = y := by
  have : a⁻¹ * (a * x) = a⁻¹ * (a * y) := by rw [e]
  grind
theorem divc {a b : Rat} (h : b ≠ 0) : a / b * b = a := by grind
theorem slope_lin {c : Cub} {p q : Rat × Rat} (hp : p.2 * p.2 = c.f p.1) (hq : q.2 * q.2 = c.f q.1) (n : NonOpp p q) : Lin c p q (slope c p q) := by
  obtain ⟨x, y⟩ := p
  obtain ⟨z, u⟩ := q
  unfold slope
  simp only [Cub.f, NonOpp] at *
  by_cases e : x = z
  · subst e
    have e2 : y = u := by grind
    subst e2
    have y0 : y ≠ 0 := by grind
    simp only [ne_eq, not_true, if_false]
    constructor <;> simp only <;> grind
  · have e' : ((x, y) : Rat × Rat) ≠ (z, u) := fun w => e (congrArg Prod.fst w)
    rw [if_pos e']
    have d0 : z - x ≠ 0 := fun w => e (by grind)
    have d : (u - y) / (z - x) * (z - x) = u - y := divc d0
    generalize (u - y) / (z - x) = l at *
    constructor
    · simp only
      grind
    · refine mulc d0 ?_
      simp only
      have : (z - x) * (l * (y + u)) = (u - y) * (y + u) := by rw [← d]; grind
      rw [this]
      grind
theorem lin_unique {c : Cub} {p q : Rat × Rat} {l m : Rat} (n : NonOpp p q) (h1 : Lin c p q l) (h2 : Lin c p q m) : l = m := by
  obtain ⟨a1, b1⟩ := h1
  obtain ⟨a2, b2⟩ := h2
  by_cases e : p.1 = q.1
  · have : p.2 + q.2 ≠ 0 := fun w => n ⟨e, by grind⟩
    grind
  · grind
theorem Lin.symm {c : Cub} {p q : Rat × Rat} {l : Rat} (h : Lin c p q l) : Lin c q p l := by
  obtain ⟨a1, b1⟩ := h
  constructor <;> grind
/-- the three spots of a line: the sums of their places -/
structure Three (c : Cub) (p q r : Rat × Rat) (l : Rat) : Prop where
  s1 : c.k * (p.1 + q.1 + r.1) = l * l - c.h
  s2 : c.k * (p.1 * q.1 + p.1 * r.1 + q.1 * r.1) = c.g - 2 * l * (p.2 - l * p.1)
  s3 : c.k * (p.1 * q.1 * r.1) = (p.2 - l * p.1) * (p.2 - l * p.1) - 1
  y2 : q.2 = p.2 + l * (q.1 - p.1)
  y3 : - r.2 = p.2 + l * (r.1 - p.1)
theorem three {c : Cub} {p q : Rat × Rat} {l : Rat} (k0 : c.k ≠ 0) (hp : p.2 * p.2 = c.f p.1) (h : Lin c p q l) : Three c p q (third c p q l) l := by
  obtain ⟨x, y⟩ := p
  obtain ⟨z, u⟩ := q
  obtain ⟨a1, b1⟩ := h
  obtain ⟨g, h, k⟩ := c
  simp only [Cub.f, third] at *
  have e : k * (x + z + ((l * l - h) / k - x - z)) = l * l - h := by grind
  generalize (l * l - h) / k - x - z = r at *
  constructor <;> simp only <;> grind
theorem Three.on {c : Cub} {p q r : Rat × Rat} {l : Rat} (t : Three c p q r l) (hp : p.2 * p.2 = c.f p.1) : r.2 * r.2 = c.f r.1 := by
  obtain ⟨x, y⟩ := p
  obtain ⟨z, u⟩ := q
  obtain ⟨r, v⟩ := r
  obtain ⟨s1, s2, s3, y2, y3⟩ := t
  obtain ⟨g, h, k⟩ := c
  simp only [Cub.f] at *
  grind
theorem add_on {c : Cub} (ok : c.Ok) {p q : Pt} (hp : OnC c p) (hq : OnC c q) : OnC c (add c p q) := by
  cases p with
  | none => exact hq
  | some p =>
    cases q with
    | none => exact hp
    | some q =>
      show OnC c (if p = (q.1, -q.2) then none else some (third c p q (slope c p q)))
      split
      · trivial
      · rename_i n
        exact (three ok.k0 hp (slope_lin hp hq (nonopp n))).on hp
theorem neg_on {c : Cub} {p : Pt} (hp : OnC c p) : OnC c (neg p) := by
  cases p with
  | none => trivial
  | some p =>
    simp only [OnC, neg] at *
    grind
theorem smooth {c : Cub} (ok : c.Ok) {x : Rat} (h1 : c.f x = 0) (h2 : c.f' x = 0) : False := by
  have := ok.d0
  have k0 := ok.k0
  obtain ⟨g, h, k⟩ := c
  simp only [Cub.f, Cub.f', Cub.disc] at *
  grind
end Rs


namespace Rs
theorem add_eq {c : Cub} (k0 : c.k ≠ 0) {p q : Rat × Rat} (hp : p.2 * p.2 = c.f p.1) (hq : q.2 * q.2 = c.f q.1) (n : NonOpp p q) :
    ∃ l r, add c (some p) (some q) = some r ∧ Lin c p q l ∧ Three c p q r l := by
  have n' : ¬ p = (q.1, -q.2) := fun z => n ⟨by rw [z], by rw [z]⟩
  have L := slope_lin hp hq n
  refine ⟨_, third c p q (slope c p q), ?_, L, three k0 hp L⟩
  show (if p = (q.1, -q.2) then none else some (third c p q (slope c p q))) = _
  rw [if_neg n']
theorem add_opp {c : Cub} {p q : Rat × Rat} (h : ¬ NonOpp p q) : add c (some p) (some q) = none := by
  have n' : p = (q.1, -q.2) := by
    have h2 : p.1 = q.1 ∧ p.2 = -q.2 := Classical.byContradiction h
    exact Prod.ext h2.1 h2.2
  show (if p = (q.1, -q.2) then none else some (third c p q (slope c p q))) = _
  rw [if_pos n']
/-- what determines the sum -/
theorem add_is {c : Cub} (k0 : c.k ≠ 0) {p q r : Rat × Rat} {l : Rat} (hp : p.2 * p.2 = c.f p.1) (hq : q.2 * q.2 = c.f q.1) (n : NonOpp p q) (L : Lin c p q l) (T : Three c p q r l) :
    add c (some p) (some q) = some r := by
  obtain ⟨m, r', e, L', T'⟩ := add_eq k0 hp hq n
  have := lin_unique n L L'
  subst this
  have e1 : r.1 = r'.1 := by
    have a := T.s1
    have b := T'.s1
    refine mulc k0 ?_
    grind
  have e2 : r.2 = r'.2 := by
    have a := T.y3
    have b := T'.y3
    rw [e1] at a
    grind
  rw [e, Prod.ext e1 e2]
theorem NonOpp.symm {p q : Rat × Rat} (n : NonOpp p q) : NonOpp q p := fun ⟨a, b⟩ => n ⟨a.symm, by grind⟩
theorem Three.symm {c : Cub} {p q r : Rat × Rat} {l : Rat} (t : Three c p q r l) : Three c q p r l := by
  obtain ⟨s1, s2, s3, y2, y3⟩ := t
  constructor <;> grind
theorem add_comm {c : Cub} (ok : c.Ok) {p q : Pt} (hp : OnC c p) (hq : OnC c q) : add c p q = add c q p := by
  cases p with
  | none => cases q <;> rfl
  | some p =>
    cases q with
    | none => rfl
    | some q =>
      by_cases n : NonOpp p q
      · obtain ⟨l, r, e, L, T⟩ := add_eq ok.k0 hp hq n
        rw [e, add_is ok.k0 hq hp n.symm L.symm T.symm]
      · rw [add_opp n, add_opp (fun z => n z.symm)]
theorem add_zero {c : Cub} {p : Pt} : add c p none = p := by
  cases p <;> rfl
theorem on3 {c : Cub} {p q r : Rat × Rat} {l : Rat} (t : Three c p q r l) (hp : p.2 * p.2 = c.f p.1) : q.2 * q.2 = c.f q.1 := by
  obtain ⟨x, y⟩ := p
  obtain ⟨z, u⟩ := q
  obtain ⟨r, v⟩ := r
  obtain ⟨s1, s2, s3, y2, y3⟩ := t
  obtain ⟨g, h, k⟩ := c
  simp only [Cub.f] at *
  grind
/-- (X + Y) - Y = X -/
theorem cancel1 {c : Cub} (ok : c.Ok) {p q r : Rat × Rat} {l : Rat} (hp : p.2 * p.2 = c.f p.1) (T : Three c p q r l) : add c (some r) (some (q.1, -q.2)) = some p ∧ NonOpp r (q.1, -q.2) := by
  have hq := on3 T hp
  have hr := T.on hp
  have sm := @smooth c ok q.1
  obtain ⟨x, y⟩ := p
  obtain ⟨z, u⟩ := q
  obtain ⟨r, v⟩ := r
  have k0 := ok.k0
  have d0 := ok.d0
  have T0 := T
  obtain ⟨s1, s2, s3, y2, y3⟩ := T
  simp only [Cub.f, Cub.f'] at *
  have n : NonOpp (r, v) (z, -u) := by
    intro ⟨h1, h2⟩
    simp only at h1 h2
    subst h1
    have : u = 0 := by grind
    subst this
    refine sm (by grind) ?_
    grind
  have L : Lin c (r, v) (z, -u) (-l) := by
    constructor
    · simp only; grind
    · simp only
      by_cases e : r = z
      · subst e
        grind
      · refine mulc (a := r - z) (fun w => e (by grind)) ?_
        grind
  refine ⟨add_is k0 ?_ ?_ n L ?_, n⟩
  · exact hr
  · simp only [Cub.f]; grind
  · constructor <;> simp only <;> grind
end Rs


namespace Rs
/-- the key: line 1 through X, Y (third -U), line 3 through Y, Z, line 2 through U, Z -/
theorem key {c : Cub} {X Y Z U : Rat × Rat} {l1 l2 l3 : Rat} (hX : X.2 * X.2 = c.f X.1) (T1 : Three c X Y U l1) (L3 : Lin c Y Z l3) (L2 : Lin c U Z l2)
    (n3 : NonOpp Y Z) (n2 : NonOpp U Z) (hZ : Z.2 * Z.2 = c.f Z.1) : c.k * (Z.1 - X.1) = (l3 - l1) * (l1 + l2) := by
  have hY := on3 T1 hX
  have hU := T1.on hX
  obtain ⟨x, y⟩ := X
  obtain ⟨x2, y2⟩ := Y
  obtain ⟨x3, y3⟩ := Z
  obtain ⟨u, v⟩ := U
  obtain ⟨s1, s2, s3, e2, e3⟩ := T1
  obtain ⟨a3, b3⟩ := L3
  obtain ⟨a2, b2⟩ := L2
  obtain ⟨g, h, k⟩ := c
  simp only [Cub.f, NonOpp] at *
  -- the line's polynomial at Z
  have F : y3 * y3 - (y + l1 * (x3 - x)) * (y + l1 * (x3 - x)) = k * (x3 - x) * (x3 - x2) * (x3 - u) := by grind
  have p1 : y3 - (y + l1 * (x3 - x)) = (l3 - l1) * (x3 - x2) := by grind
  have p2 : y3 + (y + l1 * (x3 - x)) = (l1 + l2) * (x3 - u) := by grind
  by_cases c1 : x3 = x2
  · -- Z = Y: line 3 touches
    subst c1
    have e : y3 = y2 := by grind
    subst e
    by_cases c2 : x3 = u
    · subst c2
      exfalso
      grind
    · refine mulc (a := x3 - u) (fun w => c2 (by grind)) ?_
      have d : 2 * y3 * (l3 - l1) = k * (x3 - x) * (x3 - u) := by grind
      have d2 : 2 * y3 = (l1 + l2) * (x3 - u) := by grind
      rw [d2] at d
      grind
  · by_cases c2 : x3 = u
    · subst c2
      have e : y3 = v := by grind
      subst e
      refine mulc (a := x3 - x2) (fun w => c1 (by grind)) ?_
      have d : 2 * y3 * (l1 + l2) = k * (x3 - x) * (x3 - x2) := by grind
      have d2 : 2 * y3 = (l3 - l1) * (x3 - x2) := by grind
      rw [d2] at d
      grind
    · refine mulc (a := (x3 - x2) * (x3 - u)) (fun w => ?_) ?_
      · have : x3 - x2 ≠ 0 := fun w => c1 (by grind)
        have : x3 - u ≠ 0 := fun w => c2 (by grind)
        grind
      · have : (y3 - (y + l1 * (x3 - x))) * (y3 + (y + l1 * (x3 - x))) = (l3 - l1) * (x3 - x2) * ((l1 + l2) * (x3 - u)) := by rw [p1, p2]
        grind
end Rs


namespace Rs
theorem Lin.neg {c : Cub} {p q : Rat × Rat} {l : Rat} (h : Lin c p q l) : Lin c (p.1, -p.2) (q.1, -q.2) (-l) := by
  obtain ⟨a, b⟩ := h
  constructor <;> simp only <;> grind
theorem Three.neg {c : Cub} {p q r : Rat × Rat} {l : Rat} (h : Three c p q r l) : Three c (p.1, -p.2) (q.1, -q.2) (r.1, -r.2) (-l) := by
  obtain ⟨a, b, d, e, f⟩ := h
  constructor <;> simp only <;> grind
theorem NonOpp.neg {p q : Rat × Rat} (h : NonOpp p q) : NonOpp (p.1, -p.2) (q.1, -q.2) := fun ⟨a, b⟩ => h ⟨a, by simp only at b; grind⟩
theorem NonOpp.unneg {p q : Rat × Rat} (h : NonOpp (p.1, -p.2) (q.1, -q.2)) : NonOpp p q := fun ⟨a, b⟩ => h ⟨a, by simp only; grind⟩
theorem neg_add {c : Cub} (ok : c.Ok) {p q : Pt} (hp : OnC c p) (hq : OnC c q) : add c (neg p) (neg q) = neg (add c p q) := by
  cases p with
  | none => rfl
  | some p =>
    cases q with
    | none => rfl
    | some q =>
      by_cases n : NonOpp p q
      · obtain ⟨l, r, e, L, T⟩ := add_eq ok.k0 hp hq n
        have hp' := @neg_on c (some p) hp
        have hq' := @neg_on c (some q) hq
        rw [e]
        exact add_is ok.k0 hp' hq' n.neg L.neg T.neg
      · rw [add_opp n]
        exact add_opp fun z => n z.unneg
theorem opp_eq {p q : Rat × Rat} (h : ¬ NonOpp p q) : q = (p.1, -p.2) := by
  have h2 : p.1 = q.1 ∧ p.2 = -q.2 := Classical.byContradiction h
  exact Prod.ext h2.1.symm (by simp only; grind)
/-- (X + Y) - Y = X, of spots -/
theorem add_sub {c : Cub} (ok : c.Ok) {p q : Pt} (hp : OnC c p) (hq : OnC c q) : add c (add c p q) (neg q) = p := by
  cases p with
  | none =>
    cases q with
    | none => rfl
    | some q =>
      refine add_opp fun z => z ⟨rfl, ?_⟩
      simp only
      grind
  | some p =>
    cases q with
    | none => rfl
    | some q =>
      by_cases n : NonOpp p q
      · obtain ⟨l, r, e, L, T⟩ := add_eq ok.k0 hp hq n
        rw [e]
        exact (cancel1 ok hp T).1
      · rw [add_opp n]
        show some (q.1, -q.2) = some p
        have := opp_eq n
        subst this
        simp only [Option.some.injEq]
        exact Prod.ext rfl (by simp only; grind)
theorem assoc_far {c : Cub} (ok : c.Ok) {X Y Z U V W W' : Rat × Rat} {l1 l2 l3 l4 : Rat} (hX : X.2 * X.2 = c.f X.1) (hZ : Z.2 * Z.2 = c.f Z.1) (L1 : Lin c X Y l1) (T1 : Three c X Y U l1) (L3 : Lin c Y Z l3) (T3 : Three c Y Z V l3)
    (L2 : Lin c U Z l2) (T2 : Three c U Z W l2) (L4 : Lin c X V l4) (T4 : Three c X V W' l4) (n1 : NonOpp X Y) (n3 : NonOpp Y Z) (n2 : NonOpp U Z) (n4 : NonOpp X V) (ne : X ≠ Z) : W = W' := by
  have k1 := key hX T1 L3 L2 n3 n2 hZ
  have k2 := key hZ T3.symm L1.symm L4.symm n1.symm n4.symm hX
  have k0 := ok.k0
  have lne : l1 ≠ l3 := by
    intro e
    subst e
    apply ne
    have e1 : X.1 = Z.1 := by
      refine mulc k0 ?_
      grind
    refine Prod.ext e1 ?_
    have a := L1.a
    have b := L3.a
    rw [e1] at a
    grind
  have sg : l1 + l2 = l3 + l4 := by
    refine mulc (a := l3 - l1) (fun w => lne (by grind)) ?_
    grind
  have e1 : W.1 = W'.1 := by
    refine mulc k0 ?_
    have a1 := T1.s1
    have a2 := T2.s1
    have a3 := T3.s1
    have a4 := T4.s1
    have l4e : l4 = l1 + l2 - l3 := by grind
    subst l4e
    grind
  refine Prod.ext e1 ?_
  have a1 := T1.s1
  have a2 := T2.s1
  have a3 := T3.s1
  have b1 := T1.y3
  have b2 := T2.y3
  have b3 := T3.y3
  have b4 := T4.y3
  have c1 := T1.y2
  have c4 := T4.y2
  rw [← e1] at b4
  clear T1 T2 T3 T4 L1 L2 L3 L4 n1 n2 n3 n4 ne hX hZ k2
  obtain ⟨g, h, k⟩ := c
  obtain ⟨x, y⟩ := X
  obtain ⟨x2, y2⟩ := Y
  obtain ⟨x3, y3⟩ := Z
  obtain ⟨u, u2⟩ := U
  obtain ⟨v, v2⟩ := V
  obtain ⟨w, w2⟩ := W
  obtain ⟨w', w2'⟩ := W'
  simp only at *
  have d1 : w2' - w2 = (l1 + l2) * (v - u) + (l3 - l1) * (w - x2) := by
    have l4e : l4 = l1 + l2 - l3 := by grind
    rw [l4e] at b4 c4
    clear a1 a2 a3 k1 lne e1 sg l4e
    grind
  have d2 : k * (v - u) = (l3 - l1) * (l3 + l1) - (l3 - l1) * (l1 + l2) := by
    clear b1 b2 b3 b4 c1 c4 d1 lne e1
    grind
  have d3 : k * (w - x2) = (l1 + l2) * (l2 - l3) := by
    clear b1 b2 b3 b4 c1 c4 d1 lne e1
    grind
  have d4 : k * (w2' - w2) = (l1 + l2) * (k * (v - u)) + (l3 - l1) * (k * (w - x2)) := by
    rw [d1]
    grind
  rw [d2, d3] at d4
  refine mulc k0 ?_
  clear a1 a2 a3 b1 b2 b3 b4 c1 c4 d1 d2 d3 k1 lne e1 sg
  grind
theorem assoc {c : Cub} (ok : c.Ok) {X Y Z : Pt} (hX : OnC c X) (hY : OnC c Y) (hZ : OnC c Z) : add c (add c X Y) Z = add c X (add c Y Z) := by
  cases X with
  | none => rfl
  | some X =>
  cases Y with
  | none => rfl
  | some Y =>
  cases Z with
  | none => rw [add_zero, add_zero]
  | some Z =>
  by_cases n1 : NonOpp X Y
  · by_cases n3 : NonOpp Y Z
    · obtain ⟨l1, U, e1, L1, T1⟩ := add_eq ok.k0 hX hY n1
      obtain ⟨l3, V, e3, L3, T3⟩ := add_eq ok.k0 hY hZ n3
      have hU : OnC c (some U) := T1.on hX
      have hV : OnC c (some V) := T3.on hY
      rw [e1, e3]
      by_cases n2 : NonOpp U Z
      · by_cases n4 : NonOpp X V
        · obtain ⟨l2, W, e2, L2, T2⟩ := add_eq ok.k0 hU hZ n2
          obtain ⟨l4, W', e4, L4, T4⟩ := add_eq ok.k0 hX hV n4
          by_cases ne : X = Z
          · subst ne
            have q : (some U : Pt) = some V := by rw [← e1, ← e3]; exact add_comm ok hX hY
            rw [q]
            exact add_comm ok hV hX
          · rw [e2, e4, assoc_far ok hX hZ L1 T1 L3 T3 L2 T2 L4 T4 n1 n3 n2 n4 ne]
        · -- X = -V: then Z = -U
          exfalso
          have q := opp_eq n4
          subst q
          -- (Z + Y) - Y = Z
          have a := add_sub ok hZ hY
          rw [add_comm ok hZ hY, e3] at a
          -- a : (-X) + (-Y) = Z
          have b := neg_add ok hX hY
          rw [e1] at b
          have d : (neg (some U) : Pt) = some Z := b.symm.trans a
          have d2 : (U.1, -U.2) = Z := Option.some.inj d
          subst d2
          exact n2 ⟨rfl, by simp only; grind⟩
      · rw [add_opp n2]
        have q := opp_eq n2
        subst q
        have a := add_sub ok hX hY
        rw [e1] at a
        -- U - Y = X
        have b := neg_add ok hU (neg_on hY)
        rw [a] at b
        have d : neg (neg (some Y)) = (some Y : Pt) := congrArg some (Prod.ext rfl (by simp only; grind))
        rw [d, add_comm ok (neg_on hU) hY] at b
        have b2 : (some V : Pt) = neg (some X) := e3.symm.trans b
        have b3 : V = (X.1, -X.2) := Option.some.inj b2
        subst b3
        exact (add_opp fun (z : NonOpp X (X.1, -X.2)) => z ⟨rfl, by show X.2 = - -X.2; grind⟩).symm
    · rw [add_opp n3]
      have q := opp_eq n3
      subst q
      exact add_sub ok hX hY
  · rw [add_opp n1]
    have q := opp_eq n1
    subst q
    show some Z = add c (some X) (add c (neg (some X)) (some Z))
    have a := add_sub ok hZ (neg_on hX)
    have d : neg (neg (some X)) = (some X : Pt) := congrArg some (Prod.ext rfl (by simp only; grind))
    rw [d] at a
    rw [add_comm ok hX (add_on ok (neg_on hX) hZ), add_comm ok (neg_on hX) hZ]
    exact a.symm
end Rs


namespace Rs
/-- so many times a spot, as the program sums it -/
def mul (c : Cub) (p : Pt) : Nat → Pt
  | 0 => none
  | n + 1 => add c (mul c p n) p
theorem mul_on {c : Cub} (ok : c.Ok) {p : Pt} (hp : OnC c p) : ∀ n, OnC c (mul c p n)
  | 0 => trivial
  | n + 1 => add_on ok (mul_on ok hp n) hp
theorem mul_add {c : Cub} (ok : c.Ok) {p : Pt} (hp : OnC c p) (m : Nat) : ∀ n, add c (mul c p m) (mul c p n) = mul c p (m + n)
  | 0 => add_zero
  | n + 1 => by
    show add c (mul c p m) (add c (mul c p n) p) = add c (mul c p (m + n)) p
    rw [← mul_add ok hp m n, assoc ok (mul_on ok hp m) (mul_on ok hp n) hp]
theorem mul_mul {c : Cub} (ok : c.Ok) {p : Pt} (hp : OnC c p) (a : Nat) : ∀ b, mul c (mul c p a) b = mul c p (a * b)
  | 0 => rfl
  | b + 1 => by
    show add c (mul c (mul c p a) b) (mul c p a) = _
    rw [mul_mul ok hp a b, mul_add ok hp, Nat.mul_succ]
/-- the same curve from another spot on: s is at t0 + s / m, heights y0 times -/
def moved (c : Cub) (t0 y0 m : Rat) : Cub := ⟨c.f' t0 / (m * (y0 * y0)), (c.h + 3 * c.k * t0) / (m * m * (y0 * y0)), c.k / (m * m * m * (y0 * y0))⟩
def back (t0 y0 m : Rat) : Pt → Pt
  | none => none
  | some p => some (p.1 / m + t0, p.2 * y0)
section
variable {c : Cub} {t0 y0 m : Rat}
theorem mul0 {a b : Rat} (ha : a ≠ 0) (hb : b ≠ 0) : a * b ≠ 0 := fun e => by
  have : b = 0 := mulc ha (by rw [e]; grind)
  exact hb this
/-- the moved cubic's numbers -/
theorem moved_n (hm : m ≠ 0) (hy : y0 ≠ 0) : (moved c t0 y0 m).g * m * (y0 * y0) = c.f' t0 ∧ (moved c t0 y0 m).h * m * m * (y0 * y0) = c.h + 3 * c.k * t0 ∧ (moved c t0 y0 m).k * m * m * m * (y0 * y0) = c.k := by
  have h1 : m * (y0 * y0) ≠ 0 := mul0 hm (mul0 hy hy)
  have h2 : m * m * (y0 * y0) ≠ 0 := mul0 (mul0 hm hm) (mul0 hy hy)
  have h3 : m * m * m * (y0 * y0) ≠ 0 := mul0 (mul0 (mul0 hm hm) hm) (mul0 hy hy)
  have e1 := divc (a := c.f' t0) h1
  have e2 := divc (a := c.h + 3 * c.k * t0) h2
  have e3 := divc (a := c.k) h3
  refine ⟨?_, ?_, ?_⟩
  · show c.f' t0 / (m * (y0 * y0)) * m * (y0 * y0) = _
    rw [← e1]; generalize c.f' t0 / (m * (y0 * y0)) = z; grind
  · show (c.h + 3 * c.k * t0) / (m * m * (y0 * y0)) * m * m * (y0 * y0) = _
    rw [← e2]; generalize (c.h + 3 * c.k * t0) / (m * m * (y0 * y0)) = z; grind
  · show c.k / (m * m * m * (y0 * y0)) * m * m * m * (y0 * y0) = _
    rw [← e3]; generalize c.k / (m * m * m * (y0 * y0)) = z; grind
theorem moved_f (hm : m ≠ 0) (hy : y0 ≠ 0) (h0 : y0 * y0 = c.f t0) (s : Rat) : (moved c t0 y0 m).f (s * m) * (y0 * y0) = c.f (s + t0) := by
  obtain ⟨e1, e2, e3⟩ := moved_n (c := c) (t0 := t0) hm hy
  generalize moved c t0 y0 m = d at *
  obtain ⟨g, h, k⟩ := c
  obtain ⟨g', h', k'⟩ := d
  simp only [Cub.f, Cub.f'] at *
  have : (1 + g' * (s * m) + h' * (s * m) * (s * m) + k' * (s * m) * (s * m) * (s * m)) * (y0 * y0) = y0 * y0 + s * (g' * m * (y0 * y0)) + s * s * (h' * m * m * (y0 * y0)) + s * s * s * (k' * m * m * m * (y0 * y0)) := by grind
  rw [this, e1, e2, e3, h0]
  grind
theorem div_mul' (hm : m ≠ 0) (a : Rat) : a / m * m = a := divc hm
theorem back_on (hm : m ≠ 0) (hy : y0 ≠ 0) (h0 : y0 * y0 = c.f t0) {p : Pt} : OnC (moved c t0 y0 m) p → OnC c (back t0 y0 m p) := by
  cases p with
  | none => exact id
  | some p =>
    intro h
    obtain ⟨s, Y⟩ := p
    have e := moved_f hm hy h0 (s / m)
    rw [div_mul' hm] at e
    show Y * y0 * (Y * y0) = c.f (s / m + t0)
    rw [← e]
    have h' : Y * Y = (moved c t0 y0 m).f s := h
    rw [← h']
    grind
theorem back_inj (hm : m ≠ 0) (hy : y0 ≠ 0) {p q : Rat × Rat} (h : (p.1 / m + t0, p.2 * y0) = (q.1 / m + t0, q.2 * y0)) : p = q := by
  have h1 := congrArg Prod.fst h
  have h2 := congrArg Prod.snd h
  simp only at h1 h2
  refine Prod.ext ?_ (mulc hy (by grind))
  have a := divc (a := p.1) hm
  have b := divc (a := q.1) hm
  have d : p.1 / m = q.1 / m := by grind
  rw [← a, ← b, d]
theorem back_add (ok : c.Ok) (ok' : (moved c t0 y0 m).Ok) (hm : m ≠ 0) (hy : y0 ≠ 0) (h0 : y0 * y0 = c.f t0) {p q : Pt} (hp : OnC (moved c t0 y0 m) p) (hq : OnC (moved c t0 y0 m) q) :
    back t0 y0 m (add (moved c t0 y0 m) p q) = add c (back t0 y0 m p) (back t0 y0 m q) := by
  cases p with
  | none => rfl
  | some p =>
  cases q with
  | none => rfl
  | some q =>
  have bp := back_on hm hy h0 hp
  have bq := back_on hm hy h0 hq
  by_cases n : NonOpp p q
  · obtain ⟨l, r, e, L, T⟩ := add_eq ok'.k0 hp hq n
    rw [e]
    obtain ⟨e1, e2, e3⟩ := moved_n (c := c) (t0 := t0) hm hy
    have n' : NonOpp (p.1 / m + t0, p.2 * y0) (q.1 / m + t0, q.2 * y0) := by
      intro ⟨a, b⟩
      simp only at a b
      refine n ⟨?_, mulc hy (by grind)⟩
      have a1 := divc (a := p.1) hm
      have b1 := divc (a := q.1) hm
      have d : p.1 / m = q.1 / m := by grind
      rw [← a1, ← b1, d]
    refine (add_is (l := l * m * y0) ok.k0 bp bq n' ?_ ?_).symm
    · obtain ⟨a, b⟩ := L
      have x1 := divc (a := p.1) hm
      have x2 := divc (a := q.1) hm
      generalize p.1 / m = s1 at *
      generalize q.1 / m = s2 at *
      clear T e ok ok' bp bq n n' hp hq h0
      generalize moved c t0 y0 m = d at *
      obtain ⟨p1, p2⟩ := p
      obtain ⟨q1, q2⟩ := q
      simp only at *
      subst x1 x2
      constructor
      · show l * m * y0 * (s1 + t0 - (s2 + t0)) = p2 * y0 - q2 * y0
        grind
      · show l * m * y0 * (p2 * y0 + q2 * y0) = c.k * ((s1 + t0) * (s1 + t0) + (s1 + t0) * (s2 + t0) + (s2 + t0) * (s2 + t0)) + c.h * (s1 + t0 + (s2 + t0)) + c.g
        have : l * m * y0 * (p2 * y0 + q2 * y0) = (l * (p2 + q2)) * m * (y0 * y0) := by grind
        rw [this, b]
        have : (d.k * (s1 * m * (s1 * m) + s1 * m * (s2 * m) + s2 * m * (s2 * m)) + d.h * (s1 * m + s2 * m) + d.g) * m * (y0 * y0) = (d.k * m * m * m * (y0 * y0)) * (s1 * s1 + s1 * s2 + s2 * s2) + (d.h * m * m * (y0 * y0)) * (s1 + s2) + (d.g * m * (y0 * y0)) := by grind
        rw [this, e1, e2, e3]
        simp only [Cub.f']
        grind
    · obtain ⟨s1, s2, s3, y2, y3⟩ := T
      have x1 := divc (a := p.1) hm
      have x2 := divc (a := q.1) hm
      have x3 := divc (a := r.1) hm
      have f0 := h0
      generalize p.1 / m = z1 at *
      generalize q.1 / m = z2 at *
      generalize r.1 / m = z3 at *
      have hp' : p.2 * p.2 = (moved c t0 y0 m).f p.1 := hp
      clear L e ok ok' bp bq n n' hp hq
      generalize moved c t0 y0 m = d at *
      obtain ⟨p1, p2⟩ := p
      obtain ⟨q1, q2⟩ := q
      obtain ⟨r1, r2⟩ := r
      obtain ⟨g, h, k⟩ := c
      simp only [Cub.f, Cub.f'] at *
      subst x1 x2 x3
      have w1 : k * (z1 + z2 + z3) = (d.k * (z1 * m + z2 * m + z3 * m)) * m * m * (y0 * y0) := by rw [← e3]; grind
      have w2 : k * (z1 * z2 + z1 * z3 + z2 * z3) = (d.k * (z1 * m * (z2 * m) + z1 * m * (z3 * m) + z2 * m * (z3 * m))) * m * (y0 * y0) := by rw [← e3]; grind
      have w3 : k * (z1 * z2 * z3) = (d.k * (z1 * m * (z2 * m) * (z3 * m))) * (y0 * y0) := by rw [← e3]; grind
      rw [s1] at w1
      rw [s2] at w2
      rw [s3] at w3
      have v1 : k * (z1 + z2 + z3) = l * l * m * m * (y0 * y0) - (h + 3 * k * t0) := by rw [w1, ← e2]; grind
      have v2 : k * (z1 * z2 + z1 * z3 + z2 * z3) = (g + 2 * h * t0 + 3 * k * t0 * t0) - 2 * l * (p2 - l * (z1 * m)) * m * (y0 * y0) := by rw [w2, ← e1]; grind
      have v3 : k * (z1 * z2 * z3) = (p2 - l * (z1 * m)) * (p2 - l * (z1 * m)) * (y0 * y0) - (1 + g * t0 + h * t0 * t0 + k * t0 * t0 * t0) := by rw [w3, ← f0]; grind
      clear w1 w2 w3 s1 s2 s3 e1 e2 e3 hp'
      have u1 : k * (z1 + t0 + (z2 + t0) + (z3 + t0)) = k * (z1 + z2 + z3) + 3 * k * t0 := by clear v1 v2 v3 y2 y3 f0; grind
      have u2 : k * ((z1 + t0) * (z2 + t0) + (z1 + t0) * (z3 + t0) + (z2 + t0) * (z3 + t0)) = k * (z1 * z2 + z1 * z3 + z2 * z3) + 2 * t0 * (k * (z1 + z2 + z3)) + 3 * k * t0 * t0 := by clear v1 v2 v3 y2 y3 f0 u1; grind
      have u3 : k * ((z1 + t0) * (z2 + t0) * (z3 + t0)) = k * (z1 * z2 * z3) + t0 * (k * (z1 * z2 + z1 * z3 + z2 * z3)) + t0 * t0 * (k * (z1 + z2 + z3)) + k * t0 * t0 * t0 := by clear v1 v2 v3 y2 y3 f0 u1 u2; grind
      rw [v1] at u1
      rw [v1, v2] at u2
      rw [v1, v2, v3] at u3
      refine ⟨?_, ?_, ?_, ?_, ?_⟩ <;> simp only
      · rw [u1]; clear u1 u2 u3 v1 v2 v3 y2 y3 f0; grind
      · rw [u2]; clear u1 u2 u3 v1 v2 v3 y2 y3 f0; grind
      · rw [u3]; clear u1 u2 u3 v1 v2 v3 y2 y3 f0; grind
      · rw [y2]; clear u1 u2 u3 v1 v2 v3 y2 y3 f0; grind
      · clear u1 u2 u3 v1 v2 v3 y2 f0; grind
  · rw [add_opp n]
    refine (add_opp fun z => z ⟨?_, ?_⟩).symm
    · have := opp_eq n
      subst this
      rfl
    · have := opp_eq n
      subst this
      simp only
      grind
end
end Rs


namespace Rs
/-! ### six numbers -/
structure Q6 where
  a : Rat
  b : Rat
  c : Rat
  d : Rat
  e : Rat
  f : Rat
@[ext] structure C6 where
  a : Int
  b : Int
  c : Int
  d : Int
  e : Int
  f : Int
deriving DecidableEq
def C6.q (x : C6) : Q6 := ⟨x.a, x.b, x.c, x.d, x.e, x.f⟩
def C6.l (x : C6) : List Int := [x.a, x.b, x.c, x.d, x.e, x.f]
/-- t times one and s times the other -/
def Q6.lin (t : Rat) (x : Q6) (s : Rat) (y : Q6) : Q6 := ⟨t * x.a + s * y.a, t * x.b + s * y.b, t * x.c + s * y.c, t * x.d + s * y.d, t * x.e + s * y.e, t * x.f + s * y.f⟩
def C6.lin (t : Int) (x : C6) (s : Int) (y : C6) : C6 := ⟨t * x.a + s * y.a, t * x.b + s * y.b, t * x.c + s * y.c, t * x.d + s * y.d, t * x.e + s * y.e, t * x.f + s * y.f⟩
def C6.smul (t : Int) (x : C6) : C6 := ⟨t * x.a, t * x.b, t * x.c, t * x.d, t * x.e, t * x.f⟩
def Q6.smul (t : Rat) (x : Q6) : Q6 := ⟨t * x.a, t * x.b, t * x.c, t * x.d, t * x.e, t * x.f⟩
def C6.det (x : C6) : Int := 4 * x.a * x.b * x.c + x.d * x.e * x.f - x.a * x.d * x.d - x.b * x.e * x.e - x.c * x.f * x.f
def Q6.det (x : Q6) : Rat := 4 * x.a * x.b * x.c + x.d * x.e * x.f - x.a * x.d * x.d - x.b * x.e * x.e - x.c * x.f * x.f
def C6.slopes (x : C6) : C6 := ⟨4 * x.b * x.c - x.d * x.d, 4 * x.a * x.c - x.e * x.e, 4 * x.a * x.b - x.f * x.f, x.e * x.f - 2 * x.a * x.d, x.d * x.f - 2 * x.b * x.e, x.d * x.e - 2 * x.c * x.f⟩
def Q6.slopes (x : Q6) : Q6 := ⟨4 * x.b * x.c - x.d * x.d, 4 * x.a * x.c - x.e * x.e, 4 * x.a * x.b - x.f * x.f, x.e * x.f - 2 * x.a * x.d, x.d * x.f - 2 * x.b * x.e, x.d * x.e - 2 * x.c * x.f⟩
def C6.dot (x y : C6) : Int := x.a * y.a + x.b * y.b + x.c * y.c + x.d * y.d + x.e * y.e + x.f * y.f
def Q6.dot (x y : Q6) : Rat := x.a * y.a + x.b * y.b + x.c * y.c + x.d * y.d + x.e * y.e + x.f * y.f
@[ext] structure N4 where
  w : Int
  u : Int
  v : Int
  r : Int
structure Q4 where
  w : Rat
  u : Rat
  v : Rat
  r : Rat
def numb (o i : C6) : N4 := ⟨i.det, o.dot i.slopes, i.dot o.slopes, o.det⟩
def Q6.numb (o i : Q6) : Q4 := ⟨i.det, o.dot i.slopes, i.dot o.slopes, o.det⟩
def N4.q (n : N4) : Q4 := ⟨n.w, n.u, n.v, n.r⟩
def N4.disc (n : N4) : Int := n.u * n.u * n.v * n.v - 4 * n.w * n.v * n.v * n.v - 4 * n.u * n.u * n.u * n.r - 27 * n.w * n.w * n.r * n.r + 18 * n.w * n.u * n.v * n.r
def Q4.disc (n : Q4) : Rat := n.u * n.u * n.v * n.v - 4 * n.w * n.v * n.v * n.v - 4 * n.u * n.u * n.u * n.r - 27 * n.w * n.w * n.r * n.r + 18 * n.w * n.u * n.v * n.r
theorem C6.det_q (x : C6) : x.q.det = (x.det : Rat) := by
  simp only [C6.q, C6.det, Q6.det, Rat.intCast_add, Rat.intCast_sub, Rat.intCast_mul]
  rfl
theorem numb_q (o i : C6) : Q6.numb o.q i.q = (numb o i).q := by
  simp only [C6.q, C6.det, Q6.det, numb, Q6.numb, N4.q, C6.dot, Q6.dot, C6.slopes, Q6.slopes, Rat.intCast_add, Rat.intCast_sub, Rat.intCast_mul]
  rfl
theorem N4.disc_q (n : N4) : n.q.disc = (n.disc : Rat) := by
  simp only [N4.q, N4.disc, Q4.disc, Rat.intCast_add, Rat.intCast_sub, Rat.intCast_mul]
  rfl
theorem C6.lin_q (t : Int) (x : C6) (s : Int) (y : C6) : (C6.lin t x s y).q = Q6.lin t x.q s y.q := by
  simp only [C6.q, C6.lin, Q6.lin, Rat.intCast_add, Rat.intCast_mul]
theorem C6.smul_q (t : Int) (x : C6) : (C6.smul t x).q = Q6.smul t x.q := by
  simp only [C6.q, C6.smul, Q6.smul, Rat.intCast_mul]
theorem C6.q_inj {x y : C6} (h : x.q = y.q) : x = y := by
  obtain ⟨a, b, c, d, e, f⟩ := x
  obtain ⟨a', b', c', d', e', f'⟩ := y
  simp only [C6.q, Q6.mk.injEq, Rat.intCast_inj] at h
  simp only [C6.mk.injEq]
  exact h
theorem det_lin (t : Rat) (o i : Q6) : (Q6.lin t o 1 i).det = (o.numb i).w + (o.numb i).u * t + (o.numb i).v * t * t + (o.numb i).r * t * t * t := by
  obtain ⟨a, b, c, d, e, f⟩ := o
  obtain ⟨a', b', c', d', e', f'⟩ := i
  simp only [Q6.lin, Q6.det, Q6.numb, Q6.dot, Q6.slopes]
  grind
/-- the numbers with the inner curve m times t times the outer and the inner one -/
theorem numb_moved (o i : Q6) (t m : Rat) : o.numb (Q6.smul m (Q6.lin t o 1 i)) =
    ⟨m * m * m * (Q6.lin t o 1 i).det, m * m * ((o.numb i).u + 2 * (o.numb i).v * t + 3 * (o.numb i).r * t * t), m * ((o.numb i).v + 3 * (o.numb i).r * t), (o.numb i).r⟩ := by
  obtain ⟨a, b, c, d, e, f⟩ := o
  obtain ⟨a', b', c', d', e', f'⟩ := i
  simp only [Q6.lin, Q6.smul, Q6.det, Q6.numb, Q6.dot, Q6.slopes, Q4.mk.injEq]
  refine ⟨?_, ?_, ?_, trivial⟩ <;> grind
theorem disc_moved (n : Q4) (t m : Rat) :
    (⟨m * m * m * (n.w + n.u * t + n.v * t * t + n.r * t * t * t), m * m * (n.u + 2 * n.v * t + 3 * n.r * t * t), m * (n.v + 3 * n.r * t), n.r⟩ : Q4).disc = m * m * m * m * m * m * n.disc := by
  obtain ⟨w, u, v, r⟩ := n
  simp only [Q4.disc]
  grind
def cubQ (n : Q4) : Cub := ⟨n.u / n.w, n.v / n.w, n.r / n.w⟩
theorem cubQ_ok {n : Q4} (hw : n.w ≠ 0) (hr : n.r ≠ 0) (hd : n.disc ≠ 0) : (cubQ n).Ok := by
  obtain ⟨w, u, v, r⟩ := n
  simp only [Q4.disc] at *
  have e1 := divc (a := u) hw
  have e2 := divc (a := v) hw
  have e3 := divc (a := r) hw
  refine ⟨?_, ?_⟩
  · show r / w ≠ 0
    intro z
    rw [z] at e3
    exact hr (by grind)
  · show (cubQ _).disc ≠ 0
    simp only [cubQ, Cub.disc]
    generalize u / w = g at *
    generalize v / w = h at *
    generalize r / w = k at *
    subst e1 e2 e3
    intro z
    apply hd
    have : g * w * (g * w) * (h * w) * (h * w) - 4 * w * (h * w) * (h * w) * (h * w) - 4 * (g * w) * (g * w) * (g * w) * (k * w) - 27 * w * w * (k * w) * (k * w) + 18 * w * (g * w) * (h * w) * (k * w) = w * w * w * w * (g * g * h * h - 4 * h * h * h - 4 * k * g * g * g - 27 * k * k + 18 * g * h * k) := by grind
    rw [this, z]
    grind
theorem cubQ_f {n : Q4} (hw : n.w ≠ 0) (t : Rat) : (cubQ n).f t * n.w = n.w + n.u * t + n.v * t * t + n.r * t * t * t := by
  obtain ⟨w, u, v, r⟩ := n
  have e1 := divc (a := u) hw
  have e2 := divc (a := v) hw
  have e3 := divc (a := r) hw
  simp only [cubQ, Cub.f] at *
  generalize u / w = g at *
  generalize v / w = h at *
  generalize r / w = k at *
  subst e1 e2 e3
  grind
theorem div_eq {a b x : Rat} (hb : b ≠ 0) (h : a = x * b) : a / b = x := by
  refine mulc hb ?_
  have := divc (a := a) hb
  grind
theorem cubQ_moved {n : Q4} {t y m : Rat} (hw : n.w ≠ 0) (hm : m ≠ 0) (hy : y ≠ 0) (h0 : y * y = (cubQ n).f t) :
    cubQ ⟨m * m * m * (n.w + n.u * t + n.v * t * t + n.r * t * t * t), m * m * (n.u + 2 * n.v * t + 3 * n.r * t * t), m * (n.v + 3 * n.r * t), n.r⟩ = moved (cubQ n) t y m := by
  have ew := cubQ_f hw t
  rw [← h0] at ew
  have hW : m * m * m * (n.w + n.u * t + n.v * t * t + n.r * t * t * t) ≠ 0 := by
    rw [← ew]
    exact mul0 (mul0 (mul0 hm hm) hm) (mul0 (mul0 hy hy) hw)
  obtain ⟨m1, m2, m3⟩ := moved_n (c := cubQ n) (t0 := t) hm hy
  have e1 := divc (a := n.u) hw
  have e2 := divc (a := n.v) hw
  have e3 := divc (a := n.r) hw
  have q1 : (cubQ n).g * n.w = n.u := e1
  have q2 : (cubQ n).h * n.w = n.v := e2
  have q3 : (cubQ n).k * n.w = n.r := e3
  have h1 : (moved (cubQ n) t y m).g = (moved (cubQ n) t y m).g := rfl
  generalize hM : moved (cubQ n) t y m = M at *
  simp only [Cub.f'] at m1
  rw [← ew] at hW ⊢
  have goal1 : m * m * (n.u + 2 * n.v * t + 3 * n.r * t * t) = M.g * (m * m * m * (y * y * n.w)) := by
    rw [← q1, ← q2, ← q3]
    have : M.g * (m * m * m * (y * y * n.w)) = (M.g * m * (y * y)) * (m * m * n.w) := by grind
    rw [this, m1]
    grind
  have goal2 : m * (n.v + 3 * n.r * t) = M.h * (m * m * m * (y * y * n.w)) := by
    rw [← q2, ← q3]
    have : M.h * (m * m * m * (y * y * n.w)) = (M.h * m * m * (y * y)) * (m * n.w) := by grind
    rw [this, m2]
    grind
  have goal3 : n.r = M.k * (m * m * m * (y * y * n.w)) := by
    have : M.k * (m * m * m * (y * y * n.w)) = (M.k * m * m * m * (y * y)) * n.w := by grind
    rw [this, m3, ← q3]
  show (⟨_, _, _⟩ : Cub) = M
  rw [div_eq hW goal1, div_eq hW goal2, div_eq hW goal3]
end Rs


namespace Rs
/-! ### kept numbers -/
def gcdL (l : List Int) : Nat := l.foldl (fun g n => Nat.gcd g n.natAbs) 0
def sgnL : List Int → Int
  | [] => 1
  | x :: r => if 0 < x then 1 else if x < 0 then -1 else sgnL r
def divL (l : List Int) : List Int := l.map fun n => n / (gcdL l : Int)
def keptL (l : List Int) : List Int := (divL l).map fun n => sgnL (divL l) * n
theorem foldl_gcd (a : Int) : ∀ (l : List Int) (g : Nat), (l.map fun n => a * n).foldl (fun g n => Nat.gcd g n.natAbs) (a.natAbs * g) = a.natAbs * l.foldl (fun g n => Nat.gcd g n.natAbs) g
  | [], g => rfl
  | x :: r, g => by
    show (r.map fun n => a * n).foldl _ (Nat.gcd (a.natAbs * g) (a * x).natAbs) = _
    rw [Int.natAbs_mul, Nat.gcd_mul_left]
    exact foldl_gcd a r _
theorem gcdL_mul (a : Int) (l : List Int) : gcdL (l.map fun n => a * n) = a.natAbs * gcdL l := by
  have := foldl_gcd a l 0
  rw [Nat.mul_zero] at this
  exact this
theorem foldl_dvd : ∀ (l : List Int) (g : Nat), l.foldl (fun g n => Nat.gcd g n.natAbs) g ∣ g ∧ ∀ x ∈ l, l.foldl (fun g n => Nat.gcd g n.natAbs) g ∣ x.natAbs
  | [], g => ⟨Nat.dvd_refl _, fun _ h => nomatch h⟩
  | x :: r, g => by
    obtain ⟨h1, h2⟩ := foldl_dvd r (Nat.gcd g x.natAbs)
    refine ⟨Nat.dvd_trans h1 (Nat.gcd_dvd_left _ _), fun y hy => ?_⟩
    rcases List.mem_cons.mp hy with rfl | hy
    · exact Nat.dvd_trans h1 (Nat.gcd_dvd_right _ _)
    · exact h2 y hy
theorem gcdL_dvd {l : List Int} {x : Int} (h : x ∈ l) : (gcdL l : Int) ∣ x := Int.ofNat_dvd_left.mpr ((foldl_dvd l 0).2 x h)
theorem foldl_greatest {d : Nat} : ∀ (l : List Int) (g : Nat), d ∣ g → (∀ x ∈ l, d ∣ x.natAbs) → d ∣ l.foldl (fun g n => Nat.gcd g n.natAbs) g
  | [], g, h, _ => h
  | x :: r, g, h, h2 => foldl_greatest r _ (Nat.dvd_gcd h (h2 x List.mem_cons_self)) fun y hy => h2 y (List.mem_cons_of_mem _ hy)
theorem dvd_gcdL {l : List Int} {d : Nat} (h : ∀ x ∈ l, (d : Int) ∣ x) : d ∣ gcdL l := foldl_greatest l 0 (Nat.dvd_zero _) fun x hx => Int.ofNat_dvd_left.mp (h x hx)
theorem gcdL_zero {l : List Int} (h : gcdL l = 0) : ∀ x ∈ l, x = 0 := fun x hx => by
  have := gcdL_dvd hx
  rw [h] at this
  exact Int.zero_dvd.mp this
theorem sgnL_mul {a : Int} (ha : a = 1 ∨ a = -1) : ∀ l : List Int, (∃ x ∈ l, x ≠ 0) → sgnL (l.map fun n => a * n) = a * sgnL l
  | [], h => by obtain ⟨x, hx, _⟩ := h; cases hx
  | x :: r, h => by
    show (if 0 < a * x then 1 else if a * x < 0 then -1 else sgnL (r.map fun n => a * n)) = a * (if 0 < x then 1 else if x < 0 then -1 else sgnL r)
    by_cases c : x = 0
    · subst c
      simp only [Int.mul_zero, Int.lt_irrefl, if_false]
      refine sgnL_mul ha r ?_
      obtain ⟨y, hy, n⟩ := h
      rcases List.mem_cons.mp hy with rfl | hy
      · exact absurd rfl n
      · exact ⟨y, hy, n⟩
    · rcases ha with rfl | rfl
      · simp only [Int.one_mul]
        split
        · rfl
        · split
          · rfl
          · omega
      · split <;> split <;> (try split) <;> omega
theorem sgnL_one (l : List Int) : sgnL l = 1 ∨ sgnL l = -1 := by
  induction l with
  | nil => exact .inl rfl
  | cons x r ih =>
    show (if 0 < x then 1 else if x < 0 then -1 else sgnL r) = 1 ∨ (if 0 < x then 1 else if x < 0 then -1 else sgnL r) = -1
    split
    · exact .inl rfl
    · split
      · exact .inr rfl
      · exact ih
theorem sgnL_sq (l : List Int) : sgnL l * sgnL l = 1 := by
  rcases sgnL_one l with h | h <;> rw [h] <;> rfl
theorem map_id_mul (l : List Int) : (l.map fun n => (1 : Int) * n) = l := by
  induction l with
  | nil => rfl
  | cons x r ih => rw [List.map_cons, ih, Int.one_mul]
theorem divL_mul {a : Int} (ha : a ≠ 0) (l : List Int) : divL (l.map fun n => a * n) = (divL l).map fun n => a.sign * n := by
  unfold divL
  rw [gcdL_mul, List.map_map, List.map_map]
  refine List.map_congr_left fun x hx => ?_
  show a * x / ((a.natAbs * gcdL l : Nat) : Int) = a.sign * (x / (gcdL l : Int))
  obtain ⟨y, hy⟩ := gcdL_dvd hx
  have e : a = a.sign * (a.natAbs : Int) := (Int.sign_mul_natAbs a).symm
  have na : (a.natAbs : Int) ≠ 0 := by omega
  by_cases g0 : gcdL l = 0
  · rw [g0]
    simp
  · have g1 : (gcdL l : Int) ≠ 0 := by omega
    rw [Int.natCast_mul]
    conv => lhs; lhs; rw [e]
    rw [hy, Int.mul_ediv_cancel_left _ g1]
    have : a.sign * (a.natAbs : Int) * ((gcdL l : Int) * y) = (a.natAbs : Int) * (gcdL l : Int) * (a.sign * y) := by grind
    rw [this, Int.mul_ediv_cancel_left]
    intro z
    rcases Int.mul_eq_zero.mp z with z | z
    · exact na z
    · exact g1 z
theorem keptL_mul {a : Int} (ha : a ≠ 0) {l : List Int} (h : ∃ x ∈ l, x ≠ 0) : keptL (l.map fun n => a * n) = keptL l := by
  unfold keptL
  rw [divL_mul ha]
  have s : a.sign = 1 ∨ a.sign = -1 := by
    rcases Int.lt_or_gt_of_ne ha with q | q
    · exact .inr (Int.sign_eq_neg_one_of_neg q)
    · exact .inl (Int.sign_eq_one_of_pos q)
  have h' : ∃ x ∈ divL l, x ≠ 0 := by
    obtain ⟨x, hx, n⟩ := h
    refine ⟨_, List.mem_map.mpr ⟨x, hx, rfl⟩, fun z => n ?_⟩
    have := Int.ediv_mul_cancel (gcdL_dvd hx)
    rw [z] at this
    omega
  rw [sgnL_mul s _ h', List.map_map]
  refine List.map_congr_left fun x hx => ?_
  show a.sign * sgnL (divL l) * (a.sign * x) = sgnL (divL l) * x
  rcases s with s | s <;> rw [s] <;> grind
/-- the numbers are the kept ones so many times -/
theorem keptL_times {l : List Int} : l = (keptL l).map fun n => (sgnL (divL l) * (gcdL l : Int)) * n := by
  unfold keptL
  rw [List.map_map]
  conv => lhs; rw [← List.map_id l]
  unfold divL
  rw [List.map_map]
  refine List.map_congr_left fun x hx => ?_
  show x = sgnL _ * (gcdL l : Int) * (sgnL _ * (x / (gcdL l : Int)))
  have e := Int.ediv_mul_cancel (gcdL_dvd hx)
  generalize hs : sgnL (List.map (fun n => n / ↑(gcdL l)) l) = s
  have q : s * s = 1 := by rw [← hs]; exact sgnL_sq _
  have : s * (gcdL l : Int) * (s * (x / (gcdL l : Int))) = (s * s) * (x / (gcdL l : Int) * (gcdL l : Int)) := by grind
  rw [this, q, e, Int.one_mul]
theorem gcdL_pos {l : List Int} (h : ∃ x ∈ l, x ≠ 0) : gcdL l ≠ 0 := fun z => by
  obtain ⟨x, hx, n⟩ := h
  exact n (gcdL_zero z x hx)
theorem keptL_idem {l : List Int} (h : ∃ x ∈ l, x ≠ 0) : keptL (keptL l) = keptL l := by
  have e := @keptL_times l
  have n0 : sgnL (divL l) * (gcdL l : Int) ≠ 0 := by
    intro z
    rcases Int.mul_eq_zero.mp z with z | z
    · rcases sgnL_one (divL l) with s | s <;> rw [s] at z <;> cases z
    · exact gcdL_pos h (by omega)
  have h' : ∃ x ∈ keptL l, x ≠ 0 := by
    obtain ⟨x, hx, n⟩ := h
    rw [e] at hx
    obtain ⟨y, hy, q⟩ := List.mem_map.mp hx
    exact ⟨y, hy, fun z => n (by rw [← q, z]; simp)⟩
  conv => rhs; rw [e]
  rw [keptL_mul n0 h']
/-! ### curves -/
def kept (x : C6) : C6 := match keptL x.l with
  | [a, b, c, d, e, f] => ⟨a, b, c, d, e, f⟩
  | _ => x
theorem kept_l (x : C6) : (kept x).l = keptL x.l := by
  obtain ⟨a, b, c, d, e, f⟩ := x
  rfl
theorem C6.l_inj {x y : C6} (h : x.l = y.l) : x = y := by
  obtain ⟨a, b, c, d, e, f⟩ := x
  obtain ⟨a', b', c', d', e', f'⟩ := y
  simp only [C6.l, List.cons.injEq, and_true] at h
  simp only [C6.mk.injEq]
  exact h
theorem smul_l (t : Int) (x : C6) : (C6.smul t x).l = x.l.map fun n => t * n := rfl
def IsCurve (x : C6) : Prop := x.det ≠ 0 ∧ kept x = x
def IsPair (o i : C6) : Prop := (numb o i).disc ≠ 0
theorem some_ne {x : C6} (h : x.det ≠ 0) : ∃ n ∈ x.l, n ≠ 0 := by
  apply Classical.byContradiction
  intro z
  have z' : ∀ n ∈ x.l, n = 0 := fun n hn => Classical.byContradiction fun q => z ⟨n, hn, q⟩
  apply h
  have ea := z' x.a (by simp [C6.l])
  have eb := z' x.b (by simp [C6.l])
  have ec := z' x.c (by simp [C6.l])
  have ed := z' x.d (by simp [C6.l])
  simp only [C6.det, ea, eb, ec, ed]
  simp
/-- the kept numbers, so many times, are the numbers -/
def share (x : C6) : Int := sgnL (divL x.l) * (gcdL x.l : Int)
theorem kept_times (x : C6) : x = C6.smul (share x) (kept x) := by
  refine C6.l_inj ?_
  rw [smul_l, kept_l]
  exact keptL_times
theorem share_ne {x : C6} (h : x.det ≠ 0) : share x ≠ 0 := by
  intro z
  rcases Int.mul_eq_zero.mp z with z | z
  · rcases sgnL_one (divL x.l) with s | s <;> rw [s] at z <;> cases z
  · exact gcdL_pos (some_ne h) (by omega)
theorem kept_smul {x : C6} {t : Int} (ht : t ≠ 0) (h : x.det ≠ 0) : kept (C6.smul t x) = kept x := by
  refine C6.l_inj ?_
  rw [kept_l, kept_l, smul_l, keptL_mul ht (some_ne h)]
theorem det_smul (t : Int) (x : C6) : (C6.smul t x).det = t * t * t * x.det := by
  obtain ⟨a, b, c, d, e, f⟩ := x
  simp only [C6.smul, C6.det]
  grind
theorem det_smulQ (t : Rat) (x : Q6) : (Q6.smul t x).det = t * t * t * x.det := by
  obtain ⟨a, b, c, d, e, f⟩ := x
  simp only [Q6.smul, Q6.det]
  grind
theorem kept_det {x : C6} (h : x.det ≠ 0) : (kept x).det ≠ 0 := fun z => by
  have e := kept_times x
  have := det_smul (share x) (kept x)
  rw [← e, z, Int.mul_zero] at this
  exact h this
theorem kept_curve {x : C6} (h : x.det ≠ 0) : IsCurve (kept x) := by
  refine ⟨kept_det h, C6.l_inj ?_⟩
  rw [kept_l, kept_l, keptL_idem (some_ne h)]
theorem num_den (m : Rat) : ((m.den : Int) : Rat) * m = (m.num : Rat) := by
  have h : ((m.den : Int) : Rat) ≠ 0 := by
    have := m.den_nz
    intro z
    have z' : (m.den : Int) = 0 := Rat.intCast_inj.mp z
    omega
  have e := Rat.num_divInt_den m
  rw [Rat.divInt_eq_div] at e
  conv => lhs; rw [← e]
  grind
/-- numbers that are one another so many times have the same kept ones -/
theorem kept_same {x y : C6} {m : Rat} (hm : m ≠ 0) (h : x.det ≠ 0) (e : y.q = Q6.smul m x.q) : kept y = kept x := by
  have d0 : (m.den : Int) ≠ 0 := by have := m.den_nz; omega
  have n0 : m.num ≠ 0 := fun z => hm (Rat.num_eq_zero.mp z)
  have e2 : C6.smul m.den y = C6.smul m.num x := by
    refine C6.q_inj ?_
    rw [C6.smul_q, C6.smul_q, e]
    have q : ((m.den : Int) : Rat) * m = (m.num : Rat) := by
      exact num_den m
    show Q6.smul ((m.den : Int) : Rat) (Q6.smul m x.q) = _
    simp only [Q6.smul, ← Rat.mul_assoc, q]
  have hy : y.det ≠ 0 := by
    intro z
    have a := det_smul m.den y
    rw [e2, det_smul, z, Int.mul_zero] at a
    rcases Int.mul_eq_zero.mp a with a | a
    · rcases Int.mul_eq_zero.mp a with a | a
      · rcases Int.mul_eq_zero.mp a with a | a <;> exact n0 a
      · exact n0 a
    · exact h a
  rw [← kept_smul d0 hy, e2, kept_smul n0 h]
end Rs


namespace Rs
def P1 : Pt := some (0, 1)
def cub (o i : C6) : Cub := cubQ (numb o i).q
def chordX (t : Rat) (o i : C6) : C6 := C6.lin t.num o t.den i
def chordM (o i : C6) (n : Nat) : Option C6 := match mul (cub o i) P1 n with
  | none => none
  | some p => if (chordX p.1 o i).det = 0 then none else some (kept (chordX p.1 o i))
theorem P1_on (c : Cub) : OnC c P1 := by
  show (1 : Rat) * 1 = c.f 0
  simp only [Cub.f]
  grind
theorem cast_ne {a : Int} (h : a ≠ 0) : (a : Rat) ≠ 0 := fun z => h (Rat.intCast_inj.mp z)
theorem cast_ne' {a : Int} (h : (a : Rat) ≠ 0) : a ≠ 0 := fun z => h (by rw [z]; rfl)
theorem cub_ok {o i : C6} (ho : IsCurve o) (hi : IsCurve i) (hp : IsPair o i) : (cub o i).Ok := by
  refine cubQ_ok ?_ ?_ ?_
  · exact cast_ne hi.1
  · exact cast_ne ho.1
  · rw [N4.disc_q]
    exact cast_ne hp
theorem chord_one {o i : C6} (hi : IsCurve i) : chordM o i 1 = some i := by
  have e : chordX (0 : Rat) o i = i := by
    obtain ⟨a, b, c, d, e, f⟩ := i
    show C6.lin 0 o 1 _ = _
    simp only [C6.lin, C6.mk.injEq]
    refine ⟨?_, ?_, ?_, ?_, ?_, ?_⟩ <;> grind
  show (if (chordX (0 : Rat) o i).det = 0 then none else some (kept (chordX (0 : Rat) o i))) = some i
  rw [e, if_neg hi.1, hi.2]
theorem chordX_q (t : Rat) (o i : C6) : (chordX t o i).q = Q6.smul (t.den : Int) (Q6.lin t o.q 1 i.q) := by
  unfold chordX
  rw [C6.lin_q]
  have e := num_den t
  simp only [Q6.lin, Q6.smul, ← e]
  simp only [Q6.mk.injEq]
  refine ⟨?_, ?_, ?_, ?_, ?_, ?_⟩ <;> grind
theorem den_ne (t : Rat) : ((t.den : Int) : Rat) ≠ 0 := cast_ne (by have := t.den_nz; omega)
theorem back_mul {c : Cub} {t0 y0 m : Rat} (ok : c.Ok) (ok' : (moved c t0 y0 m).Ok) (hm : m ≠ 0) (hy : y0 ≠ 0) (h0 : y0 * y0 = c.f t0) {p : Pt} (hp : OnC (moved c t0 y0 m) p) :
    ∀ n, back t0 y0 m (mul (moved c t0 y0 m) p n) = mul c (back t0 y0 m p) n
  | 0 => rfl
  | n + 1 => by
    show back t0 y0 m (add _ (mul _ p n) p) = add c (mul c _ n) _
    rw [back_add ok ok' hm hy h0 (mul_on ok' hp n) hp, back_mul ok ok' hm hy h0 hp n]
structure ChordFacts (o i : C6) (a : Nat) (F : C6) (t0 y0 m : Rat) : Prop where
  at_ : mul (cub o i) P1 a = some (t0, y0)
  det : (chordX t0 o i).det ≠ 0
  isF : F = kept (chordX t0 o i)
  m0 : m ≠ 0
  q : F.q = Q6.smul m (Q6.lin t0 o.q 1 i.q)
  y : y0 ≠ 0
  h0 : y0 * y0 = (cub o i).f t0
  cub : cub o F = moved (cub o i) t0 y0 m
theorem chord_facts {o i F : C6} {a : Nat} (ho : IsCurve o) (hi : IsCurve i) (hp : IsPair o i) (h : chordM o i a = some F) : ∃ t0 y0 m, ChordFacts o i a F t0 y0 m := by
  have ok := cub_ok ho hi hp
  unfold chordM at h
  cases e : mul (cub o i) P1 a with
  | none => rw [e] at h; cases h
  | some p =>
    rw [e] at h
    obtain ⟨t0, y0⟩ := p
    have h1 : (if (chordX t0 o i).det = 0 then none else some (kept (chordX t0 o i))) = some F := h
    by_cases d : (chordX t0 o i).det = 0
    · rw [if_pos d] at h1; cases h1
    · rw [if_neg d] at h1
      have eF : kept (chordX t0 o i) = F := Option.some.inj h1
      have on : y0 * y0 = (cub o i).f t0 := by
        have := mul_on ok (P1_on _) a
        rw [e] at this
        exact this
      have s0 : ((share (chordX t0 o i) : Int) : Rat) ≠ 0 := cast_ne (share_ne d)
      have eq1 : (chordX t0 o i).q = Q6.smul (share (chordX t0 o i)) F.q := by
        conv => lhs; rw [kept_times (chordX t0 o i)]
        rw [C6.smul_q, eF]
      rw [chordX_q] at eq1
      have hm : ((t0.den : Int) : Rat) / ((share (chordX t0 o i) : Int) : Rat) ≠ 0 := by
        intro z
        have := divc (a := ((t0.den : Int) : Rat)) s0
        rw [z] at this
        exact den_ne t0 (by grind)
      have eq2 : F.q = Q6.smul (((t0.den : Int) : Rat) / ((share (chordX t0 o i) : Int) : Rat)) (Q6.lin t0 o.q 1 i.q) := by
        have dd := divc (a := ((t0.den : Int) : Rat)) s0
        generalize ((t0.den : Int) : Rat) / ((share (chordX t0 o i) : Int) : Rat) = m at *
        generalize ((share (chordX t0 o i) : Int) : Rat) = s at *
        rw [← dd] at eq1
        generalize Q6.lin t0 o.q 1 i.q = L at *
        generalize F.q = G at *
        obtain ⟨a1, a2, a3, a4, a5, a6⟩ := L
        obtain ⟨b1, b2, b3, b4, b5, b6⟩ := G
        simp only [Q6.smul, Q6.mk.injEq] at eq1 ⊢
        obtain ⟨e1, e2, e3, e4, e5, e6⟩ := eq1
        refine ⟨mulc s0 ?_, mulc s0 ?_, mulc s0 ?_, mulc s0 ?_, mulc s0 ?_, mulc s0 ?_⟩ <;> grind
      generalize ((t0.den : Int) : Rat) / ((share (chordX t0 o i) : Int) : Rat) = m at *
      have w0 : (numb o i).q.w ≠ 0 := cast_ne hi.1
      have fd := det_lin t0 o.q i.q
      rw [numb_q] at fd
      have ff := cubQ_f w0 t0
      have dL : (Q6.lin t0 o.q 1 i.q).det ≠ 0 := by
        intro z
        have := det_smulQ (t0.den : Int) (Q6.lin t0 o.q 1 i.q)
        rw [← chordX_q, C6.det_q, z] at this
        exact cast_ne d (by rw [this]; grind)
      have y0' : y0 ≠ 0 := by
        intro z
        subst z
        apply dL
        rw [fd, ← ff]
        have on' : (0 : Rat) * 0 = (cubQ (numb o i).q).f t0 := on
        rw [← on']
        grind
      refine ⟨t0, y0, m, e, d, eF.symm, hm, eq2, y0', on, ?_⟩
      show cubQ (numb o F).q = moved (cubQ (numb o i).q) t0 y0 m
      rw [← cubQ_moved w0 hm y0' on, ← numb_q, eq2, numb_moved, fd, numb_q]
theorem chord_curve {o i F : C6} {a : Nat} (ho : IsCurve o) (hi : IsCurve i) (hp : IsPair o i) (h : chordM o i a = some F) : IsCurve F ∧ IsPair o F := by
  obtain ⟨t0, y0, m, C⟩ := chord_facts ho hi hp h
  refine ⟨?_, ?_⟩
  · rw [C.isF]
    exact kept_curve C.det
  · refine cast_ne' ?_
    rw [← N4.disc_q, ← numb_q, C.q, numb_moved, det_lin, disc_moved, numb_q, N4.disc_q]
    have := C.m0
    have h2 := mul0 (mul0 (mul0 (mul0 (mul0 C.m0 C.m0) C.m0) C.m0) C.m0) C.m0
    exact mul0 h2 (cast_ne hp)
theorem chord_law {o i F : C6} {a : Nat} (ho : IsCurve o) (hi : IsCurve i) (hp : IsPair o i) (h : chordM o i a = some F) (b : Nat) : chordM o F b = chordM o i (a * b) := by
  have ok := cub_ok ho hi hp
  obtain ⟨hF, hpF⟩ := chord_curve ho hi hp h
  have okF := cub_ok ho hF hpF
  obtain ⟨t0, y0, m, C⟩ := chord_facts ho hi hp h
  have ok' : (moved (cub o i) t0 y0 m).Ok := C.cub ▸ okF
  have e := back_mul ok ok' C.m0 C.y C.h0 (P1_on _) b
  have e1 : back t0 y0 m P1 = some (t0, y0) := by
    show some ((0 : Rat) / m + t0, 1 * y0) = some (t0, y0)
    have : (0 : Rat) / m + t0 = t0 := by grind
    rw [this, Rat.one_mul]
  rw [e1, ← C.at_, mul_mul ok (P1_on _)] at e
  rw [← C.cub] at e
  unfold chordM
  rw [← e]
  cases q : mul (cub o F) P1 b with
  | none => rfl
  | some p =>
    obtain ⟨s, Y⟩ := p
    show (if (chordX s o F).det = 0 then none else some (kept (chordX s o F))) = (if (chordX (s / m + t0) o i).det = 0 then none else some (kept (chordX (s / m + t0) o i)))
    -- the two are one another so many times
    have r : (chordX s o F).q = Q6.smul (((s.den : Int) : Rat) * m / (((s / m + t0).den : Int) : Rat)) (chordX (s / m + t0) o i).q := by
      rw [chordX_q, chordX_q, C.q]
      have dd := divc (a := ((s.den : Int) : Rat) * m) (den_ne (s / m + t0))
      have ds := divc (a := s) C.m0
      have m0 := C.m0
      have d0 := den_ne (s / m + t0)
      generalize ((s.den : Int) : Rat) = d at *
      generalize (((s / m + t0).den : Int) : Rat) = d' at *
      generalize d * m / d' = n at *
      generalize s / m = z at *
      subst ds
      simp only [Q6.smul, Q6.lin, Q6.mk.injEq]
      clear C e e1 q ok ok' okF hF hpF
      have k : ∀ x y : Rat, d * (z * m * x + 1 * (m * (t0 * x + 1 * y))) = n * (d' * ((z + t0) * x + 1 * y)) := fun x y => by
        have : n * (d' * ((z + t0) * x + 1 * y)) = (n * d') * ((z + t0) * x + 1 * y) := by grind
        rw [this, dd]
        grind
      exact ⟨k _ _, k _ _, k _ _, k _ _, k _ _, k _ _⟩
    have n0 : ((s.den : Int) : Rat) * m / (((s / m + t0).den : Int) : Rat) ≠ 0 := by
      intro z
      have dd := divc (a := ((s.den : Int) : Rat) * m) (den_ne (s / m + t0))
      rw [z] at dd
      exact mul0 (den_ne s) C.m0 (by rw [← dd]; grind)
    have dq := det_smulQ (((s.den : Int) : Rat) * m / (((s / m + t0).den : Int) : Rat)) (chordX (s / m + t0) o i).q
    rw [← r, C6.det_q, C6.det_q] at dq
    by_cases d : (chordX (s / m + t0) o i).det = 0
    · rw [if_pos d]
      refine if_pos ?_
      rw [d] at dq
      refine Rat.intCast_inj.mp (dq.trans ?_)
      exact Rat.mul_zero _
    · have d2 : (chordX s o F).det ≠ 0 := by
        refine cast_ne' ?_
        rw [dq]
        exact mul0 (mul0 (mul0 n0 n0) n0) (cast_ne d)
      rw [if_neg d, if_neg d2, kept_same n0 d r]
end Rs


namespace Rs
/-! ### heights -/
def hr (t : Rat) : Nat := max t.num.natAbs t.den
def hg : Pt → Nat
  | none => 1
  | some p => hr p.1
theorem hr_pos (t : Rat) : 0 < hr t := Nat.lt_of_lt_of_le t.den_pos (Nat.le_max_right _ _)
theorem hg_pos : ∀ p : Pt, 0 < hg p
  | none => Nat.one_pos
  | some p => hr_pos p.1
theorem cop (t : Rat) : Nat.Coprime t.num.natAbs t.den := t.reduced
/-- two fractions that are the roots of a whole quadratic -/
theorem quad {p1 q1 p2 q2 A B C : Int} (h1 : Nat.Coprime p1.natAbs q1.natAbs) (h2 : Nat.Coprime p2.natAbs q2.natAbs) (n1 : q1 ≠ 0) (n2 : q2 ≠ 0) (eB : B * (q1 * q2) = A * (p1 * q2 + p2 * q1)) (eC : C * (q1 * q2) = A * (p1 * p2)) :
    ∃ m, A = m * (q1 * q2) ∧ C = m * (p1 * p2) ∧ B = m * (p1 * q2 + p2 * q1) := by
  have cop2 : ∀ {x p q a : Int}, Nat.Coprime p.natAbs q.natAbs → x ∣ a * p → x ∣ a * q → x ∣ a := by
    intro x p q a hc a1 a2
    have b1 := Int.natAbs_dvd_natAbs.mpr a1
    have b2 := Int.natAbs_dvd_natAbs.mpr a2
    rw [Int.natAbs_mul] at b1 b2
    have b3 := Nat.dvd_gcd b1 b2
    rw [Nat.gcd_mul_left, hc, Nat.mul_one] at b3
    exact Int.natAbs_dvd_natAbs.mp b3
  have can : ∀ {x p a : Int}, Nat.Coprime p.natAbs x.natAbs → x ∣ a * p → x ∣ a := by
    intro x p a hc a1
    have b1 := Int.natAbs_dvd_natAbs.mpr a1
    rw [Int.natAbs_mul] at b1
    exact Int.natAbs_dvd_natAbs.mp (Nat.Coprime.dvd_of_dvd_mul_right (Nat.Coprime.symm hc) b1)
  have d1 : q1 ∣ A * p2 := can (p := p1) h1 ⟨C * q2, by grind⟩
  have d2 : q1 ∣ A * q2 := by
    refine can (p := p1) h1 ⟨B * q2 - A * p2, by grind⟩
  obtain ⟨A1, rfl⟩ := cop2 h2 d1 d2
  have eC' : C * q2 = A1 * (p1 * p2) := by
    refine Int.eq_of_mul_eq_mul_left n1 ?_
    grind
  have eB' : B * q2 = A1 * (p1 * q2 + p2 * q1) := by
    refine Int.eq_of_mul_eq_mul_left n1 ?_
    grind
  have d3 : q2 ∣ A1 * p1 := can (p := p2) h2 ⟨C, by grind⟩
  have d4 : q2 ∣ A1 * q1 := can (p := p2) h2 ⟨B - A1 * p1, by grind⟩
  obtain ⟨m, rfl⟩ := cop2 h1 d3 d4
  refine ⟨m, by grind, ?_, ?_⟩
  · refine Int.eq_of_mul_eq_mul_left n2 ?_
    grind
  · refine Int.eq_of_mul_eq_mul_left n2 ?_
    grind
theorem le_mul' {m x : Int} (h : m ≠ 0) : x.natAbs ≤ (m * x).natAbs := by
  rw [Int.natAbs_mul]
  exact Nat.le_mul_of_pos_left _ (by omega)
theorem two_le {x y : Int} {K : Nat} (h1 : (x + y).natAbs ≤ K) (h2 : (x * y).natAbs ≤ K * K) : x.natAbs ≤ 2 * K := by
  apply Classical.byContradiction
  intro z
  have z1 : 2 * K + 1 ≤ x.natAbs := by omega
  have e : x * x = x * (x + y) - x * y := by grind
  have e2 : x.natAbs * x.natAbs ≤ x.natAbs * K + K * K := by
    have a : (x * x).natAbs ≤ (x * (x + y)).natAbs + (x * y).natAbs := by
      rw [e]
      omega
    rw [Int.natAbs_mul, Int.natAbs_mul x (x + y)] at a
    exact Nat.le_trans a (Nat.add_le_add (Nat.mul_le_mul_left _ h1) h2)
  have e3 : (2 * K + 1) * x.natAbs ≤ x.natAbs * x.natAbs := Nat.mul_le_mul_right _ z1
  have e4 : (2 * K + 1) * x.natAbs = x.natAbs * K + x.natAbs * K + x.natAbs := by grind
  have e5 : (2 * K + 1) * K ≤ x.natAbs * K := Nat.mul_le_mul_right _ z1
  have e6 : (2 * K + 1) * K = K * K + K * K + K := by grind
  omega
theorem quad_le {s1 s2 : Rat} {A B C : Int} {K : Nat} (hA : A ≠ 0) (eB : (A : Rat) * (s1 + s2) = B) (eC : (A : Rat) * (s1 * s2) = C) (kA : A.natAbs ≤ K) (kB : B.natAbs ≤ K) (kC : C.natAbs ≤ K) : hr s1 * hr s2 ≤ 2 * K := by
  have a1 := num_den s1
  have a2 := num_den s2
  have iB : B * ((s1.den : Int) * s2.den) = A * (s1.num * s2.den + s2.num * s1.den) := by
    refine Rat.intCast_inj.mp ?_
    rw [Rat.intCast_mul, Rat.intCast_mul, Rat.intCast_mul, Rat.intCast_add, Rat.intCast_mul, Rat.intCast_mul, ← eB, ← a1, ← a2]
    grind
  have iC : C * ((s1.den : Int) * s2.den) = A * (s1.num * s2.num) := by
    refine Rat.intCast_inj.mp ?_
    rw [Rat.intCast_mul, Rat.intCast_mul, Rat.intCast_mul, Rat.intCast_mul, ← eC, ← a1, ← a2]
    grind
  have n1 : (s1.den : Int) ≠ 0 := by have := s1.den_nz; omega
  have n2 : (s2.den : Int) ≠ 0 := by have := s2.den_nz; omega
  obtain ⟨m, rfl, rfl, rfl⟩ := quad (p1 := s1.num) (q1 := s1.den) (p2 := s2.num) (q2 := s2.den) (cop s1) (cop s2) n1 n2 iB iC
  have m0 : m ≠ 0 := fun z => hA (by rw [z]; simp)
  have l1 := Nat.le_trans (le_mul' (x := s1.den * s2.den) m0) kA
  have l2 := Nat.le_trans (le_mul' (x := s1.num * s2.num) m0) kC
  have l3 := Nat.le_trans (le_mul' (x := s1.num * s2.den + s2.num * s1.den) m0) kB
  have pr : (s1.num * s2.den * (s2.num * s1.den)).natAbs ≤ K * K := by
    have : s1.num * s2.den * (s2.num * s1.den) = s1.den * s2.den * (s1.num * s2.num) := by grind
    rw [this, Int.natAbs_mul]
    exact Nat.mul_le_mul l1 l2
  have l4 := two_le l3 pr
  have l5 : (s2.num * s1.den).natAbs ≤ 2 * K := by
    refine two_le (y := s1.num * s2.den) ?_ ?_
    · rw [Int.add_comm]; exact l3
    · rw [Int.mul_comm]; exact pr
  rw [Int.natAbs_mul] at l1 l2 l4 l5
  have c1 : ((s1.den : Int)).natAbs = s1.den := rfl
  have c2 : ((s2.den : Int)).natAbs = s2.den := rfl
  rw [c1] at l1 l5
  rw [c2] at l1 l4
  unfold hr
  rcases Nat.le_total s1.num.natAbs s1.den with x | x
  · rw [Nat.max_eq_right x]
    rcases Nat.le_total s2.num.natAbs s2.den with y | y
    · rw [Nat.max_eq_right y]; omega
    · rw [Nat.max_eq_left y, Nat.mul_comm]; omega
  · rw [Nat.max_eq_left x]
    rcases Nat.le_total s2.num.natAbs s2.den with y | y
    · rw [Nat.max_eq_right y]; omega
    · rw [Nat.max_eq_left y]; omega
end Rs


namespace Rs
structure Bnd (n : N4) (M : Nat) : Prop where
  w : n.w.natAbs ≤ M
  u : n.u.natAbs ≤ M
  v : n.v.natAbs ≤ M
  r : n.r.natAbs ≤ M
theorem plus_minus {c : Cub} (ok : c.Ok) {X : Rat × Rat} (hX : X.2 * X.2 = c.f X.1) (t0 : X.1 ≠ 0) :
    ∃ r s : Rat × Rat, add c (some X) P1 = some r ∧ add c (some X) (neg P1) = some s ∧ c.k * c.k * X.1 * X.1 * (r.1 + s.1) = c.k * (4 + 2 * c.g * X.1) ∧ c.k * c.k * X.1 * X.1 * (r.1 * s.1) = c.g * c.g - 4 * c.h - 4 * c.k * X.1 := by
  have hP := P1_on c
  have hN := neg_on hP
  have n1 : NonOpp X (0, 1) := fun z => t0 z.1
  have n2 : NonOpp X (0, -1) := fun z => t0 z.1
  obtain ⟨l, r, e1, L, T⟩ := add_eq ok.k0 hX hP n1
  obtain ⟨l', s, e2, L', T'⟩ := add_eq ok.k0 hX hN n2
  refine ⟨r, s, e1, e2, ?_, ?_⟩
  all_goals (
    have a1 := L.a
    have a2 := L'.a
    have s1 := T.s1
    have s2 := T'.s1
    obtain ⟨x, y⟩ := X
    obtain ⟨r1, r2⟩ := r
    obtain ⟨s1', s2'⟩ := s
    clear T T' L L' e1 e2 n1 n2 hP hN ok
    obtain ⟨g, h, k⟩ := c
    simp only [Cub.f] at *
    have b1 : l * x = y - 1 := by grind
    have b2 : l' * x = y + 1 := by grind
    have w1 : x * x * (k * (x + 0 + r1)) = (y - 1) * (y - 1) - h * x * x := by rw [s1, ← b1]; grind
    have w2 : x * x * (k * (x + 0 + s1')) = (y + 1) * (y + 1) - h * x * x := by rw [s2, ← b2]; grind
    have v1 : x * x * k * r1 = 2 + g * x - 2 * y := by clear s1 s2 a1 a2 b1 b2 w2; grind
    have v2 : x * x * k * s1' = 2 + g * x + 2 * y := by clear s1 s2 a1 a2 b1 b2 w1 v1; grind
    clear s1 s2 a1 a2 b1 b2 w1 w2)
  · have : k * k * x * x * (r1 + s1') = k * (x * x * k * r1 + x * x * k * s1') := by grind
    rw [this, v1, v2]
    grind
  · refine mulc (a := x * x) (mul0 t0 t0) ?_
    have : x * x * (k * k * x * x * (r1 * s1')) = (x * x * k * r1) * (x * x * k * s1') := by grind
    rw [this, v1, v2]
    grind
theorem abs2 {a b : Int} {M N : Nat} (h1 : a.natAbs ≤ M) (h2 : b.natAbs ≤ N) : (a * b).natAbs ≤ M * N := by
  rw [Int.natAbs_mul]
  exact Nat.mul_le_mul h1 h2
theorem absa (a b : Int) : (a + b).natAbs ≤ a.natAbs + b.natAbs := by omega
theorem abss (a b : Int) : (a - b).natAbs ≤ a.natAbs + b.natAbs := by omega
section
variable {n : N4} {M : Nat}
theorem hprod (hw : n.w ≠ 0) (hr0 : n.r ≠ 0) (ok : (cubQ n.q).Ok) (B : Bnd n M) : ∀ {X : Pt}, OnC (cubQ n.q) X → hg (add (cubQ n.q) X P1) * hg (add (cubQ n.q) X (neg P1)) ≤ 18 * (M * M) * (hg X * hg X)
  | none, _ => by
    show hr 0 * hr 0 ≤ 18 * (M * M) * (1 * 1)
    have h1 : hr 0 = 1 := rfl
    rw [h1]
    have : 1 ≤ M := by have := B.w; omega
    have : 1 * 1 ≤ M * M := Nat.mul_le_mul this this
    omega
  | some (t, y), hX => by
    have cw : (n.w : Rat) ≠ 0 := cast_ne hw
    have cr : (n.r : Rat) ≠ 0 := cast_ne hr0
    have g1 : (cubQ n.q).g * n.w = n.u := divc cw
    have g2 : (cubQ n.q).h * n.w = n.v := divc cw
    have g3 : (cubQ n.q).k * n.w = n.r := divc cw
    by_cases t0 : t = 0
    · subst t0
      -- ± the first spot: one sum is None, the other the double
      have yy : y * y = 1 := by
        have : y * y = (cubQ n.q).f 0 := hX
        rw [this]
        simp only [Cub.f]
        grind
      have M1 : 1 ≤ M := by have := B.w; omega
      have two : ∀ {z : Rat × Rat}, (z = (0, 1) ∨ z = (0, -1)) → ∃ r : Rat × Rat, add (cubQ n.q) (some z) (some z) = some r ∧ hr r.1 ≤ 18 * (M * M) := by
        intro z hz
        have hz2 : z.2 * z.2 = 1 ∧ z.1 = 0 := by rcases hz with rfl | rfl <;> exact ⟨by simp only; grind, rfl⟩
        have on : z.2 * z.2 = (cubQ n.q).f z.1 := by
          rw [hz2.1, hz2.2]
          simp only [Cub.f]
          grind
        have no : NonOpp z z := fun q => by
          have := q.2
          have h2 := hz2.1
          grind
        obtain ⟨l, r, e, L, T⟩ := add_eq ok.k0 on on no
        refine ⟨r, e, ?_⟩
        have s1 := T.s1
        have lb := L.b
        -- 4 r w t = uu - 4vw
        have key : ((4 * (n.r * n.w) : Int) : Rat) * r.1 = ((n.u * n.u - 4 * (n.v * n.w) : Int) : Rat) := by
          rw [Rat.intCast_mul, Rat.intCast_mul, Rat.intCast_sub, Rat.intCast_mul, Rat.intCast_mul, Rat.intCast_mul, ← g1, ← g2, ← g3]
          have l2 : l * (2 * z.2) = (cubQ n.q).g := by
            have z1 := hz2.2
            rw [z1] at lb
            grind
          have ll : 4 * (l * l) = (cubQ n.q).g * (cubQ n.q).g := by
            rw [← l2]
            have := hz2.1
            have e : l * (2 * z.2) * (l * (2 * z.2)) = 4 * (l * l) * (z.2 * z.2) := by grind
            rw [e, this]
            grind
          have kr : (cubQ n.q).k * r.1 = l * l - (cubQ n.q).h := by
            rw [hz2.2] at s1
            grind
          generalize (cubQ n.q).g = g at *
          generalize (cubQ n.q).h = h at *
          generalize (cubQ n.q).k = k at *
          have e : ((4 : Int) : Rat) * (k * (n.w : Rat) * (n.w : Rat)) * r.1 = 4 * (k * r.1) * ((n.w : Rat) * (n.w : Rat)) := by
            have : ((4 : Int) : Rat) = 4 := rfl
            rw [this]
            grind
          rw [e, kr]
          have : ((4 : Int) : Rat) = 4 := rfl
          rw [this]
          have : 4 * (l * l - h) * ((n.w : Rat) * (n.w : Rat)) = (4 * (l * l)) * ((n.w : Rat) * (n.w : Rat)) - 4 * h * ((n.w : Rat) * (n.w : Rat)) := by grind
          rw [this, ll]
          grind
        -- a fraction's height by such an equation: the quadratic with the other root 0
        have q := quad_le (s1 := r.1) (s2 := 0) (A := 4 * (n.r * n.w)) (B := n.u * n.u - 4 * (n.v * n.w)) (C := 0) (K := 9 * (M * M)) ?_ ?_ ?_ ?_ ?_ ?_
        · have h0 : hr 0 = 1 := rfl
          rw [h0] at q
          omega
        · intro z
          have : n.r * n.w = 0 := by omega
          rcases Int.mul_eq_zero.mp this with a | a
          · exact hr0 a
          · exact hw a
        · rw [← key]; grind
        · show _ = (0 : Rat); grind
        · have := abs2 B.r B.w
          omega
        · have a := abs2 B.u B.u
          have b := abs2 B.v B.w
          omega
        · omega
      have yc : y = 1 ∨ y = -1 := by
        by_cases c : y = 1
        · exact .inl c
        · refine .inr (mulc (a := y - 1) (fun z => c (by grind)) ?_)
          grind
      have big : 18 * (M * M) * (hg (some ((0 : Rat), y)) * hg (some ((0 : Rat), y))) = 18 * (M * M) := by
        show 18 * (M * M) * (hr 0 * hr 0) = _
        have h0 : hr 0 = 1 := rfl
        rw [h0]
        omega
      rw [big]
      rcases yc with rfl | rfl
      · obtain ⟨r, e, h⟩ := two (z := (0, 1)) (.inl rfl)
        have e' : add (cubQ n.q) (some (0, 1)) P1 = some r := e
        have z : add (cubQ n.q) (some (0, 1)) (neg P1) = none := add_opp fun q => q ⟨rfl, by show (1 : Rat) = - -1; grind⟩
        rw [e', z]
        show hr r.1 * 1 ≤ _
        omega
      · obtain ⟨r, e, h⟩ := two (z := (0, -1)) (.inr rfl)
        have e' : add (cubQ n.q) (some (0, -1)) (neg P1) = some r := e
        have z : add (cubQ n.q) (some (0, -1)) P1 = none := add_opp fun q => q ⟨rfl, rfl⟩
        rw [e', z]
        show 1 * hr r.1 ≤ _
        omega
    · obtain ⟨r, s, e1, e2, q1, q2⟩ := plus_minus ok hX t0
      rw [e1, e2]
      have nd := num_den t
      have p0 : t.num ≠ 0 := fun z => t0 (Rat.num_eq_zero.mp z)
      have B1 := B
      have hp : t.num.natAbs ≤ hr t := Nat.le_max_left _ _
      have hq : ((t.den : Int)).natAbs ≤ hr t := Nat.le_max_right _ _
      have ee : 18 * (M * M) * (hg (some (t, y)) * hg (some (t, y))) = 2 * (9 * (M * M) * (hr t * hr t)) := by
        show 18 * (M * M) * (hr t * hr t) = _
        generalize M * M = a
        generalize hr t * hr t = b
        grind
      rw [ee]
      refine quad_le (A := n.r * n.r * (t.num * t.num)) (B := n.r * (4 * n.w * (t.den * t.den) + 2 * n.u * (t.num * t.den))) (C := (n.u * n.u - 4 * (n.v * n.w)) * (t.den * t.den) - 4 * (n.r * n.w) * (t.num * t.den)) ?_ ?_ ?_ ?_ ?_ ?_
      · intro z
        rcases Int.mul_eq_zero.mp z with z | z
        · rcases Int.mul_eq_zero.mp z with z | z <;> exact hr0 z
        · rcases Int.mul_eq_zero.mp z with z | z <;> exact p0 z
      · simp only [Rat.intCast_mul, Rat.intCast_add, ← nd, ← g1, ← g2, ← g3]
        have c4 : ((4 : Int) : Rat) = 4 := rfl
        have c2 : ((2 : Int) : Rat) = 2 := rfl
        rw [c4, c2]
        simp only at q1
        generalize (cubQ n.q).g = g at *
        generalize (cubQ n.q).h = h at *
        generalize (cubQ n.q).k = k at *
        generalize ((t.den : Int) : Rat) = d at *
        have : k * (n.w : Rat) * (k * (n.w : Rat)) * (d * t * (d * t)) * (r.1 + s.1) = (k * k * t * t * (r.1 + s.1)) * ((n.w : Rat) * (n.w : Rat) * d * d) := by grind
        rw [this, q1]
        grind
      · simp only [Rat.intCast_mul, Rat.intCast_sub, ← nd, ← g1, ← g2, ← g3]
        have c4 : ((4 : Int) : Rat) = 4 := rfl
        rw [c4]
        simp only at q2
        generalize (cubQ n.q).g = g at *
        generalize (cubQ n.q).h = h at *
        generalize (cubQ n.q).k = k at *
        generalize ((t.den : Int) : Rat) = d at *
        have : k * (n.w : Rat) * (k * (n.w : Rat)) * (d * t * (d * t)) * (r.1 * s.1) = (k * k * t * t * (r.1 * s.1)) * ((n.w : Rat) * (n.w : Rat) * d * d) := by grind
        rw [this, q2]
        grind
      · have a := abs2 (abs2 B.r B.r) (abs2 hp hp)
        have : M * M * (hr t * hr t) ≤ 9 * (M * M) * (hr t * hr t) := Nat.mul_le_mul_right _ (by omega)
        omega
      · have a := abs2 B.w (abs2 hq hq)
        have b := abs2 B.u (abs2 hp hq)
        have c : (4 * n.w * (t.den * t.den) + 2 * n.u * (t.num * t.den)).natAbs ≤ 6 * (M * (hr t * hr t)) := by
          have e1 : 4 * n.w * ((t.den : Int) * t.den) = 4 * (n.w * (t.den * t.den)) := by grind
          have e2 : 2 * n.u * (t.num * t.den) = 2 * (n.u * (t.num * t.den)) := by grind
          rw [e1, e2]
          omega
        have d := abs2 B.r c
        have : M * (6 * (M * (hr t * hr t))) = 6 * (M * M) * (hr t * hr t) := by grind
        rw [this] at d
        have : 6 * (M * M) * (hr t * hr t) ≤ 9 * (M * M) * (hr t * hr t) := Nat.mul_le_mul_right _ (by omega)
        omega
      · have a1 := abs2 B.u B.u
        have a2 := abs2 B.v B.w
        have a3 := abs2 B.r B.w
        have c1 : (n.u * n.u - 4 * (n.v * n.w)).natAbs ≤ 5 * (M * M) := by omega
        have c2 : (4 * (n.r * n.w)).natAbs ≤ 4 * (M * M) := by omega
        have d1 := abs2 c1 (abs2 hq hq)
        have d2 := abs2 c2 (abs2 hp hq)
        have : 9 * (M * M) * (hr t * hr t) = 5 * (M * M) * (hr t * hr t) + 4 * (M * M) * (hr t * hr t) := by grind
        rw [this]
        exact Nat.le_trans (abss _ _) (Nat.add_le_add d1 d2)
theorem hstep (hw : n.w ≠ 0) (hr0 : n.r ≠ 0) (ok : (cubQ n.q).Ok) (B : Bnd n M) : ∀ j : Nat, hg (mul (cubQ n.q) P1 (j + 1)) ≤ (18 * (M * M)) ^ j * hg (mul (cubQ n.q) P1 j)
  | 0 => by
    show hr 0 ≤ 1 * 1
    exact Nat.le_refl _
  | j + 1 => by
    have ih := hstep hw hr0 ok B j
    have on := mul_on ok (P1_on _) (j + 1)
    have h := hprod hw hr0 ok B on
    have e : add (cubQ n.q) (mul (cubQ n.q) P1 (j + 1)) (neg P1) = mul (cubQ n.q) P1 j := add_sub ok (mul_on ok (P1_on _) j) (P1_on _)
    rw [e] at h
    have e2 : add (cubQ n.q) (mul (cubQ n.q) P1 (j + 1)) P1 = mul (cubQ n.q) P1 (j + 1 + 1) := rfl
    rw [e2] at h
    generalize hg (mul (cubQ n.q) P1 (j + 1 + 1)) = a at *
    generalize hg (mul (cubQ n.q) P1 (j + 1)) = b at *
    have cp := hg_pos (mul (cubQ n.q) P1 j)
    generalize hg (mul (cubQ n.q) P1 j) = c at *
    generalize 18 * (M * M) = K at *
    refine Nat.le_of_mul_le_mul_right (c := c) ?_ cp
    have : K ^ (j + 1) * b * c = K * (b * (K ^ j * c)) := by rw [Nat.pow_succ]; grind
    rw [this]
    exact Nat.le_trans h (Nat.mul_le_mul_left _ (Nat.mul_le_mul_left _ ih))
/-- so much is j (j - 1) / 2 -/
def tri : Nat → Nat
  | 0 => 0
  | j + 1 => j + tri j
theorem hbound (hw : n.w ≠ 0) (hr0 : n.r ≠ 0) (ok : (cubQ n.q).Ok) (B : Bnd n M) : ∀ j : Nat, hg (mul (cubQ n.q) P1 j) ≤ (18 * (M * M)) ^ tri j
  | 0 => Nat.le_refl _
  | j + 1 => by
    refine Nat.le_trans (hstep hw hr0 ok B j) ?_
    show _ ≤ (18 * (M * M)) ^ (j + tri j)
    rw [Nat.pow_add]
    exact Nat.mul_le_mul_left _ (hbound hw hr0 ok B j)
end
end Rs


namespace Rs
/-- a fraction of fewer than 2 ^ n above and below -/
def Qb (x : Rat) (n : Nat) : Prop := x.num.natAbs < 2 ^ n ∧ x.den < 2 ^ n
theorem Qb.mono {x : Rat} {a b : Nat} (h : Qb x a) (l : a ≤ b) : Qb x b :=
  ⟨Nat.lt_of_lt_of_le h.1 (Nat.pow_le_pow_right (by decide) l), Nat.lt_of_lt_of_le h.2 (Nat.pow_le_pow_right (by decide) l)⟩
theorem qb_of {x : Rat} {n : Nat} (h : hr x < 2 ^ n) : Qb x n := ⟨Nat.lt_of_le_of_lt (Nat.le_max_left _ _) h, Nat.lt_of_le_of_lt (Nat.le_max_right _ _) h⟩
theorem hr_of {x : Rat} {n : Nat} (h : Qb x n) : hr x < 2 ^ n := by
  unfold hr
  rcases Nat.le_total x.num.natAbs x.den with y | y
  · rw [Nat.max_eq_right y]; exact h.2
  · rw [Nat.max_eq_left y]; exact h.1
/-- the height of a quotient of whole numbers -/
theorem hr_div {x : Rat} {a b : Int} {M : Nat} (hb : b ≠ 0) (e : x * (b : Rat) = a) (h1 : a.natAbs ≤ M) (h2 : b.natAbs ≤ M) : hr x ≤ M := by
  have nd := num_den x
  have e2 : x.num * b = a * x.den := by
    refine Rat.intCast_inj.mp ?_
    rw [Rat.intCast_mul, Rat.intCast_mul, ← e, ← nd]
    grind
  have c := cop x
  have d1 : (x.den : Int).natAbs ∣ b.natAbs := by
    have : (x.den : Int) ∣ x.num * b := ⟨a, by rw [e2, Int.mul_comm]⟩
    have h := Int.natAbs_dvd_natAbs.mpr this
    rw [Int.natAbs_mul] at h
    exact Nat.Coprime.dvd_of_dvd_mul_left (Nat.Coprime.symm c) h
  obtain ⟨m, hm⟩ := d1
  have hm' : b.natAbs = x.den * m := hm
  have m0 : 0 < m := by
    rcases Nat.eq_zero_or_pos m with z | z
    · rw [z, Nat.mul_zero] at hm'; omega
    · exact z
  have e3 : x.num.natAbs * b.natAbs = a.natAbs * x.den := by
    have := congrArg Int.natAbs e2
    rw [Int.natAbs_mul, Int.natAbs_mul] at this
    exact this
  have e4 : x.num.natAbs * m = a.natAbs := by
    refine Nat.eq_of_mul_eq_mul_right x.den_pos ?_
    rw [← e3, hm']
    grind
  unfold hr
  rcases Nat.le_total x.num.natAbs x.den with y | y
  · rw [Nat.max_eq_right y]
    have := Nat.le_mul_of_pos_right x.den m0
    omega
  · rw [Nat.max_eq_left y]
    have := Nat.le_mul_of_pos_right x.num.natAbs m0
    omega
section
variable {n : N4} {M : Nat}
theorem hr_y (hw : n.w ≠ 0) (B : Bnd n M) {t y : Rat} (h : y * y = (cubQ n.q).f t) : hr y ≤ 4 * (M * (hr t * hr t * hr t)) := by
  have cw : (n.w : Rat) ≠ 0 := cast_ne hw
  have f := cubQ_f (n := n.q) cw t
  rw [← h] at f
  have nd := num_den t
  have hp : t.num.natAbs ≤ hr t := Nat.le_max_left _ _
  have hq : ((t.den : Int)).natAbs ≤ hr t := Nat.le_max_right _ _
  have d0 : (t.den : Int) ≠ 0 := by have := t.den_nz; omega
  have sq : hr (y * y) ≤ 4 * (M * (hr t * hr t * hr t)) := by
    refine hr_div (a := n.w * (t.den * t.den * t.den) + n.u * (t.num * t.den * t.den) + n.v * (t.num * t.num * t.den) + n.r * (t.num * t.num * t.num)) (b := n.w * (t.den * t.den * t.den)) ?_ ?_ ?_ ?_
    · intro z
      rcases Int.mul_eq_zero.mp z with z | z
      · exact hw z
      · rcases Int.mul_eq_zero.mp z with z | z
        · rcases Int.mul_eq_zero.mp z with z | z <;> exact d0 z
        · exact d0 z
    · simp only [Rat.intCast_mul, Rat.intCast_add, ← nd]
      have f' : y * y * (n.w : Rat) = (n.w : Rat) + n.u * t + n.v * t * t + n.r * t * t * t := f
      generalize ((t.den : Int) : Rat) = d at *
      have : y * y * ((n.w : Rat) * (d * d * d)) = y * y * (n.w : Rat) * (d * d * d) := by grind
      rw [this, f']
      grind
    · have a1 := abs2 B.w (abs2 (abs2 hq hq) hq)
      have a2 := abs2 B.u (abs2 (abs2 hp hq) hq)
      have a3 := abs2 B.v (abs2 (abs2 hp hp) hq)
      have a4 := abs2 B.r (abs2 (abs2 hp hp) hp)
      omega
    · have a1 := abs2 B.w (abs2 (abs2 hq hq) hq)
      omega
  refine Nat.le_trans ?_ sq
  -- the square's top and bottom are the squares
  have c := cop y
  have n1 : (y * y).num = y.num * y.num := by
    rw [Rat.num_mul]
    have : (y.num * y.num).natAbs.gcd (y.den * y.den) = 1 := by
      rw [Int.natAbs_mul]
      exact Nat.Coprime.mul_left (Nat.Coprime.mul_right c c) (Nat.Coprime.mul_right c c)
    rw [this]
    exact Int.ediv_one _
  have n2 : (y * y).den = y.den * y.den := by
    rw [Rat.den_mul]
    have : (y.num * y.num).natAbs.gcd (y.den * y.den) = 1 := by
      rw [Int.natAbs_mul]
      exact Nat.Coprime.mul_left (Nat.Coprime.mul_right c c) (Nat.Coprime.mul_right c c)
    rw [this]
    exact Nat.div_one _
  have s1 : ∀ a : Nat, a ≤ a * a := fun a => by
    rcases Nat.eq_zero_or_pos a with z | z
    · rw [z]; exact Nat.le_refl _
    · exact Nat.le_mul_of_pos_left a z
  unfold hr
  rw [n1, n2, Int.natAbs_mul]
  have a1 := s1 y.num.natAbs
  have a2 := s1 y.den
  rcases Nat.le_total y.num.natAbs y.den with z | z
  · rw [Nat.max_eq_right z]
    exact Nat.le_trans a2 (Nat.le_max_right _ _)
  · rw [Nat.max_eq_left z]
    exact Nat.le_trans a1 (Nat.le_max_left _ _)
theorem pow3 {a : Nat} {e : Nat} (h : a ≤ 2 ^ e) : a * a * a ≤ 2 ^ (3 * e) := by
  have : 3 * e = e + e + e := by omega
  rw [this, Nat.pow_add, Nat.pow_add]
  exact Nat.mul_le_mul (Nat.mul_le_mul h h) h
/-- the bound in bits -/
theorem spot_bits {m j : Nat} (hw : n.w ≠ 0) (hr0 : n.r ≠ 0) (ok : (cubQ n.q).Ok) (B : Bnd n (2 ^ m)) {t y : Rat} (e : mul (cubQ n.q) P1 j = some (t, y)) : Qb t ((2 * m + 5) * tri j + 1) ∧ Qb y (m + 3 + 3 * ((2 * m + 5) * tri j)) := by
  have h := hbound hw hr0 ok B j
  rw [e] at h
  have h1 : hr t ≤ 2 ^ ((2 * m + 5) * tri j) := by
    refine Nat.le_trans h ?_
    rw [Nat.pow_mul]
    refine Nat.pow_le_pow_left ?_ _
    have : 2 * m + 5 = 5 + m + m := by omega
    rw [this, Nat.pow_add, Nat.pow_add, Nat.mul_assoc]
    exact Nat.mul_le_mul_right _ (by decide)
  have on0 := mul_on ok (P1_on _) j
  rw [e] at on0
  have on : y * y = (cubQ n.q).f t := on0
  refine ⟨qb_of (Nat.lt_of_le_of_lt h1 (Nat.pow_lt_pow_right (by decide) (Nat.lt_succ_self _))), qb_of ?_⟩
  refine Nat.lt_of_le_of_lt (hr_y hw B on) ?_
  have h2 := Nat.mul_le_mul_left (2 ^ m) (pow3 h1)
  have : 2 ^ (m + 3 + 3 * ((2 * m + 5) * tri j)) = 8 * (2 ^ m * 2 ^ (3 * ((2 * m + 5) * tri j))) := by
    rw [Nat.pow_add, Nat.pow_add]
    grind
  rw [this]
  have p : 0 < 2 ^ m * 2 ^ (3 * ((2 * m + 5) * tri j)) := Nat.mul_pos (Nat.pow_pos (by decide)) (Nat.pow_pos (by decide))
  omega
theorem cub_bits {m : Nat} (hw : n.w ≠ 0) (B : Bnd n (2 ^ m)) : Qb (cubQ n.q).g (m + 1) ∧ Qb (cubQ n.q).h (m + 1) ∧ Qb (cubQ n.q).k (m + 1) := by
  have cw : (n.w : Rat) ≠ 0 := cast_ne hw
  have l : 2 ^ m < 2 ^ (m + 1) := Nat.pow_lt_pow_right (by decide) (Nat.lt_succ_self _)
  exact ⟨qb_of (Nat.lt_of_le_of_lt (hr_div hw (divc cw) B.u B.w) l), qb_of (Nat.lt_of_le_of_lt (hr_div hw (divc cw) B.v B.w) l), qb_of (Nat.lt_of_le_of_lt (hr_div hw (divc cw) B.r B.w) l)⟩
end
/-! ### bounds of six numbers -/
def Cb (x : C6) (n : Nat) : Prop := ∀ z ∈ x.l, z.natAbs ≤ 2 ^ n
theorem cb_iff {x : C6} {n : Nat} : Cb x n ↔ x.a.natAbs ≤ 2 ^ n ∧ x.b.natAbs ≤ 2 ^ n ∧ x.c.natAbs ≤ 2 ^ n ∧ x.d.natAbs ≤ 2 ^ n ∧ x.e.natAbs ≤ 2 ^ n ∧ x.f.natAbs ≤ 2 ^ n := by
  unfold Cb C6.l
  simp only [List.mem_cons, List.not_mem_nil, or_false, forall_eq_or_imp, forall_eq]
theorem numb_bits {o i : C6} {n : Nat} (ho : Cb o n) (hi : Cb i n) : Bnd (numb o i) (2 ^ (3 * n + 5)) := by
  obtain ⟨a, b, c, d, e, f⟩ := o
  obtain ⟨a', b', c', d', e', f'⟩ := i
  obtain ⟨o1, o2, o3, o4, o5, o6⟩ := cb_iff.mp ho
  obtain ⟨i1, i2, i3, i4, i5, i6⟩ := cb_iff.mp hi
  simp only at o1 o2 o3 o4 o5 o6 i1 i2 i3 i4 i5 i6
  have e32 : 2 ^ (3 * n + 5) = 32 * (2 ^ n * (2 ^ n * 2 ^ n)) := by
    have : 3 * n + 5 = 5 + (n + (n + n)) := by omega
    rw [this, Nat.pow_add, Nat.pow_add, Nat.pow_add]
  rw [e32]
  generalize 2 ^ n = N at *
  have det : ∀ {a b c d e f : Int}, a.natAbs ≤ N → b.natAbs ≤ N → c.natAbs ≤ N → d.natAbs ≤ N → e.natAbs ≤ N → f.natAbs ≤ N → (4 * a * b * c + d * e * f - a * d * d - b * e * e - c * f * f).natAbs ≤ 32 * (N * (N * N)) := by
    intro a b c d e f h1 h2 h3 h4 h5 h6
    have q1 := abs2 h1 (abs2 h2 h3)
    have q2 := abs2 h4 (abs2 h5 h6)
    have q3 := abs2 h1 (abs2 h4 h4)
    have q4 := abs2 h2 (abs2 h5 h5)
    have q5 := abs2 h3 (abs2 h6 h6)
    have : 4 * a * b * c + d * e * f - a * d * d - b * e * e - c * f * f = 4 * (a * (b * c)) + d * (e * f) - a * (d * d) - b * (e * e) - c * (f * f) := by grind
    rw [this]
    omega
  have dot : ∀ {a b c d e f a' b' c' d' e' f' : Int}, a.natAbs ≤ N → b.natAbs ≤ N → c.natAbs ≤ N → d.natAbs ≤ N → e.natAbs ≤ N → f.natAbs ≤ N → a'.natAbs ≤ N → b'.natAbs ≤ N → c'.natAbs ≤ N → d'.natAbs ≤ N → e'.natAbs ≤ N → f'.natAbs ≤ N →
      (a * (4 * b' * c' - d' * d') + b * (4 * a' * c' - e' * e') + c * (4 * a' * b' - f' * f') + d * (e' * f' - 2 * a' * d') + e * (d' * f' - 2 * b' * e') + f * (d' * e' - 2 * c' * f')).natAbs ≤ 32 * (N * (N * N)) := by
    intro a b c d e f a' b' c' d' e' f' o1 o2 o3 o4 o5 o6 i1 i2 i3 i4 i5 i6
    have s5 : ∀ {x y z : Int}, x.natAbs ≤ N → y.natAbs ≤ N → z.natAbs ≤ N → (4 * x * y - z * z).natAbs ≤ 5 * (N * N) := by
      intro x y z h1 h2 h3
      have q1 := abs2 h1 h2
      have q2 := abs2 h3 h3
      have : 4 * x * y - z * z = 4 * (x * y) - z * z := by grind
      rw [this]
      omega
    have s3 : ∀ {x y z u : Int}, x.natAbs ≤ N → y.natAbs ≤ N → z.natAbs ≤ N → u.natAbs ≤ N → (x * y - 2 * z * u).natAbs ≤ 3 * (N * N) := by
      intro x y z u h1 h2 h3 h4
      have q1 := abs2 h1 h2
      have q2 := abs2 h3 h4
      have : x * y - 2 * z * u = x * y - 2 * (z * u) := by grind
      rw [this]
      omega
    have t1 := abs2 o1 (s5 i2 i3 i4)
    have t2 := abs2 o2 (s5 i1 i3 i5)
    have t3 := abs2 o3 (s5 i1 i2 i6)
    have t4 := abs2 o4 (s3 i5 i6 i1 i4)
    have t5 := abs2 o5 (s3 i4 i6 i2 i5)
    have t6 := abs2 o6 (s3 i4 i5 i3 i6)
    have c5 : N * (5 * (N * N)) = 5 * (N * (N * N)) := by grind
    have c3 : N * (3 * (N * N)) = 3 * (N * (N * N)) := by grind
    rw [c5] at t1 t2 t3
    rw [c3] at t4 t5 t6
    omega
  exact ⟨det i1 i2 i3 i4 i5 i6, dot o1 o2 o3 o4 o5 o6 i1 i2 i3 i4 i5 i6, dot i1 i2 i3 i4 i5 i6 o1 o2 o3 o4 o5 o6, det o1 o2 o3 o4 o5 o6⟩
theorem kept_bits {x : C6} {n : Nat} (h : Cb x n) : Cb (kept x) n := by
  intro z hz
  rw [kept_l] at hz
  unfold keptL at hz
  obtain ⟨y, hy, rfl⟩ := List.mem_map.mp hz
  obtain ⟨w, hw, rfl⟩ := List.mem_map.mp hy
  have a := h w hw
  rw [Int.natAbs_mul]
  have s : (sgnL (divL x.l)).natAbs = 1 := by rcases sgnL_one (divL x.l) with s | s <;> rw [s] <;> rfl
  rw [s, Nat.one_mul]
  refine Nat.le_trans ?_ a
  obtain ⟨k, hk⟩ := gcdL_dvd hw
  by_cases g : gcdL x.l = 0
  · rw [g]
    show (w / 0).natAbs ≤ _
    rw [Int.ediv_zero]
    exact Nat.zero_le _
  · have g1 : (gcdL x.l : Int) ≠ 0 := by omega
    conv => lhs; rw [hk]
    rw [Int.mul_ediv_cancel_left _ g1, hk, Int.natAbs_mul]
    exact Nat.le_mul_of_pos_left _ (by omega)
theorem chordX_bits {o i : C6} {t : Rat} {n k : Nat} (ho : Cb o n) (hi : Cb i n) (ht : Qb t k) : Cb (chordX t o i) (n + k + 1) := by
  obtain ⟨o1, o2, o3, o4, o5, o6⟩ := cb_iff.mp ho
  obtain ⟨i1, i2, i3, i4, i5, i6⟩ := cb_iff.mp hi
  have f : ∀ {x y : Int}, x.natAbs ≤ 2 ^ n → y.natAbs ≤ 2 ^ n → (t.num * x + t.den * y).natAbs ≤ 2 ^ (n + k + 1) := by
    intro x y h1 h2
    have a := abs2 (Nat.le_of_lt ht.1) h1
    have b := abs2 (a := (t.den : Int)) (Nat.le_of_lt ht.2) h2
    have : 2 ^ (n + k + 1) = 2 ^ k * 2 ^ n + 2 ^ k * 2 ^ n := by
      rw [Nat.pow_succ, Nat.pow_add]
      grind
    rw [this]
    exact Nat.le_trans (absa _ _) (Nat.add_le_add a b)
  exact cb_iff.mpr ⟨f o1 i1, f o2 i2, f o3 i3, f o4 i4, f o5 i5, f o6 i6⟩
end Rs


namespace Rs
/-! the ring's curves -/
def prodM (l : List Rat) : Rat := l.foldl (fun a b => a * b) 1
def discM (c : Cub) : Rat := prodM [c.g, c.h, c.g, c.h] - prodM [4, c.h, c.h, c.h] - prodM [4, c.k, c.g, c.g, c.g] - prodM [27, c.k, c.k] + prodM [18, c.g, c.h, c.k]
def sumM (a b c : Int) (x y z : Rat) : Rat := 0 + (a : Rat) * x + (b : Rat) * y + (c : Rat) * z
def lesserM (s : Int) (t : Rat) : Rat × Rat := if s = 4 then (t, 0) else if s = 5 then (t, t) else if s = 6 then (t + t * t, t) else (t * t * t - t * t, t * t - t)
def g10 (t : Rat) : Rat := t - (t - 1) * (t - 1)
def c10 (t : Rat) : Rat := t * (t - 1) * (2 * t - 1) / g10 t
def l12 (t : Rat) : Rat := (t - 1) * ((t - 1) * (t - 1))
def c12 (t : Rat) : Rat := sumM 3 (-3) 1 (t * t) t 1 * (t - 2 * (t * t)) / l12 t
def greaterM (s : Int) (t : Rat) : Rat × Rat :=
  if s = 8 then ((2 * t - 1) * (t - 1), (2 * t - 1) * (t - 1) / t) else
  if s = 9 then (t * t * (t - 1) * (t * (t - 1) + 1), t * t * (t - 1)) else
  if s = 10 then (c10 t * (t * t) / g10 t, c10 t) else
  (c12 t * sumM 2 (-2) (-1) t (t * t) 1 / (t - 1), c12 t)
def cubicM (p : Rat × Rat) : Cub := ⟨-2 * (1 - p.2) / p.1, ((1 - p.2) * (1 - p.2) - 4 * p.1) / (p.1 * p.1), 4 / (p.1 * p.1)⟩
def countM (s : Int) (t : Rat) : Cub := if s = 3 then ⟨2 * t, t * t, 1⟩ else if s < 8 then cubicM (lesserM s t) else cubicM (greaterM s t)
def counts : List Int := [3, 4, 5, 6, 7, 8, 9, 10, 12]
def bitB (x : Rat) (n : Nat) : Bool := Nat.blt x.num.natAbs (2 ^ n) && Nat.blt x.den (2 ^ n)
theorem bitB_ok {x : Rat} {n : Nat} (h : bitB x n = true) : Qb x n := by
  unfold bitB at h
  rw [Bool.and_eq_true] at h
  exact ⟨Nat.blt_eq.mp h.1, Nat.blt_eq.mp h.2⟩
/-- nothing is raised on the way -/
def countB (s : Int) (t : Rat) : Bool := counts.contains s && (bitB t 8 && (decide (discM (countM s t) ≠ 0) && (
  if s = 3 then true else if s < 8 then decide ((lesserM s t).1 ≠ 0) else decide ((greaterM s t).1 ≠ 0) && (if s = 8 then decide (t ≠ 0) else if s = 9 then true else if s = 10 then decide (g10 t ≠ 0) else decide (l12 t ≠ 0) && decide (t - 1 ≠ 0)))))
/-- six fractions made whole -/
def shareM (l : List Rat) : Int := l.foldl (fun (a : Int) q => a * (q.den : Int)) 1
def wholeM (a b c d e f : Rat) : C6 :=
  let s := shareM [a, b, c, d, e, f]
  ⟨a.num * s.fdiv a.den, b.num * s.fdiv b.den, c.num * s.fdiv c.den, d.num * s.fdiv d.den, e.num * s.fdiv e.den, f.num * s.fdiv f.den⟩
def innR : C6 := ⟨0, 1, 0, 0, 2, 0⟩
def outX (c : Cub) : C6 := wholeM (-1 * (c.h / (c.k - c.g * c.h))) c.g (c.k - c.g * c.h) 0 0 2
def outR (c : Cub) : C6 := kept (outX c)
def cub20 (c : Cub) : Bool := bitB c.g 60 && (bitB c.h 60 && bitB c.k 60)
def curvesB (c : Cub) : Bool := cub20 c && (decide (c.k ≠ 0) && (decide (discM c ≠ 0) && (decide (c.k - c.g * c.h = 0) || (decide (gcdL (outX c).l ≠ 0) && decide ((outR c).det ≠ 0)))))
def curvesM (c : Cub) : Option C6 := if c.k - c.g * c.h = 0 then none else some (outR c)
/-! the numbers of the law's table -/
def ringS (n : Int) : Int := counts.getD (n % 9).toNat 0
def ringT (n : Int) : Rat := if ringS n > 8 then ([2, 3, -2] : List Rat).getD (n / 9 % 3).toNat 0 else ([2, 3, -2, (1 : Rat) / 3, -(1 : Rat) / 2, 4] : List Rat).getD (n / 9 % 6).toNat 0
def ringM (n : Int) : Option C6 := curvesM (countM (ringS n) (ringT n))
instance : Decidable (IsCurve x) := inferInstanceAs (Decidable (_ ∧ _))
instance : Decidable (IsPair o i) := inferInstanceAs (Decidable (_ ≠ _))
instance : Decidable (Cb x n) := inferInstanceAs (Decidable (∀ z ∈ x.l, z.natAbs ≤ 2 ^ n))
def okB (s : Int) (t : Rat) : Bool := countB s t && (curvesB (countM s t) && (match curvesM (countM s t) with
  | none => true
  | some o => decide (IsCurve o) && (decide (Cb o 63) && decide (IsPair o innR))))
theorem ok_low : ∀ i : Fin 9, ∀ j : Fin 6, ¬ counts.getD i.val 0 > 8 → okB (counts.getD i.val 0) (([2, 3, -2, (1 : Rat) / 3, -(1 : Rat) / 2, 4] : List Rat).getD j.val 0) = true := by decide +kernel
theorem ok_high : ∀ i : Fin 9, ∀ j : Fin 3, counts.getD i.val 0 > 8 → okB (counts.getD i.val 0) (([2, 3, -2] : List Rat).getD j.val 0) = true := by decide +kernel
theorem ok_ring (n : Int) : okB (ringS n) (ringT n) = true := by
  have h1 : (n % 9).toNat < 9 := by omega
  have h2 : (n / 9 % 6).toNat < 6 := by omega
  have h3 : (n / 9 % 3).toNat < 3 := by omega
  unfold ringT
  by_cases c : ringS n > 8
  · rw [if_pos c]
    exact ok_high ⟨_, h1⟩ ⟨_, h3⟩ c
  · rw [if_neg c]
    exact ok_low ⟨_, h1⟩ ⟨_, h2⟩ c
theorem inn_ok : IsCurve innR ∧ Cb innR 40 := by decide +kernel
end Rs


namespace Rs
/-! a curve moved by shears -/
structure V3 where
  x : Int
  y : Int
  z : Int
def V3.get (p : V3) : Nat → Int
  | 0 => p.x
  | 1 => p.y
  | _ => p.z
def V3.set (p : V3) (i : Nat) (v : Int) : V3 := match i with
  | 0 => ⟨v, p.y, p.z⟩
  | 1 => ⟨p.x, v, p.z⟩
  | _ => ⟨p.x, p.y, v⟩
def V3.plus (p q : V3) : V3 := ⟨p.x + q.x, p.y + q.y, p.z + q.z⟩
abbrev Shr : Type := Nat × Nat × Int
def applyS (s : Shr) (p : V3) : V3 := p.set s.1 (p.get s.1 - s.2.2 * p.get s.2.1)
def worth (q : C6) (p : V3) : Int := q.a * p.x * p.x + q.b * p.y * p.y + q.c * p.z * p.z + q.d * p.y * p.z + q.e * p.x * p.z + q.f * p.x * p.y
def shearC (s : Shr) (q : C6) : C6 := match s with
  | (0, 1, k) => ⟨q.a, q.b + k * k * q.a - k * q.f, q.c, q.d - k * q.e, q.e, q.f - 2 * k * q.a⟩
  | (0, 2, k) => ⟨q.a, q.b, q.c + k * k * q.a - k * q.e, q.d - k * q.f, q.e - 2 * k * q.a, q.f⟩
  | (1, 0, k) => ⟨q.a + k * k * q.b - k * q.f, q.b, q.c, q.d, q.e - k * q.d, q.f - 2 * k * q.b⟩
  | (1, 2, k) => ⟨q.a, q.b, q.c + k * k * q.b - k * q.d, q.d - 2 * k * q.b, q.e - k * q.f, q.f⟩
  | (2, 0, k) => ⟨q.a + k * k * q.c - k * q.e, q.b, q.c, q.d, q.e - 2 * k * q.c, q.f - k * q.d⟩
  | (2, 1, k) => ⟨q.a, q.b + k * k * q.c - k * q.d, q.c, q.d - 2 * k * q.c, q.e, q.f - k * q.e⟩
  | _ => q
structure ShOk (s : Shr) : Prop where
  ij : (s.1 = 0 ∧ s.2.1 = 1) ∨ (s.1 = 0 ∧ s.2.1 = 2) ∨ (s.1 = 1 ∧ s.2.1 = 0) ∨ (s.1 = 1 ∧ s.2.1 = 2) ∨ (s.1 = 2 ∧ s.2.1 = 0) ∨ (s.1 = 2 ∧ s.2.1 = 1)
  k : s.2.2.natAbs ≤ 2
theorem worth_shear {s : Shr} (h : ShOk s) (q : C6) (p : V3) : worth (shearC s q) p = worth q (applyS s p) := by
  obtain ⟨i, j, k⟩ := s
  obtain ⟨x, y, z⟩ := p
  rcases h.ij with ⟨h1, h2⟩ | ⟨h1, h2⟩ | ⟨h1, h2⟩ | ⟨h1, h2⟩ | ⟨h1, h2⟩ | ⟨h1, h2⟩ <;> (simp only at h1 h2; subst h1 h2; simp only [worth, shearC, applyS, V3.get, V3.set]; grind)
theorem det_shear {s : Shr} (h : ShOk s) (q : C6) : (shearC s q).det = q.det := by
  obtain ⟨i, j, k⟩ := s
  rcases h.ij with ⟨h1, h2⟩ | ⟨h1, h2⟩ | ⟨h1, h2⟩ | ⟨h1, h2⟩ | ⟨h1, h2⟩ | ⟨h1, h2⟩ <;> (simp only at h1 h2; subst h1 h2; simp only [C6.det, shearC]; grind)
theorem dot_shear {s : Shr} (h : ShOk s) (o i : C6) : (shearC s o).dot (shearC s i).slopes = o.dot i.slopes := by
  obtain ⟨a, b, k⟩ := s
  rcases h.ij with ⟨h1, h2⟩ | ⟨h1, h2⟩ | ⟨h1, h2⟩ | ⟨h1, h2⟩ | ⟨h1, h2⟩ | ⟨h1, h2⟩ <;> (simp only at h1 h2; subst h1 h2; simp only [C6.dot, C6.slopes, shearC]; grind)
theorem numb_shear {s : Shr} (h : ShOk s) (o i : C6) : numb (shearC s o) (shearC s i) = numb o i := by
  unfold numb
  rw [det_shear h, det_shear h, dot_shear h, dot_shear h]
def moveC (q : C6) (l : List Shr) : C6 := l.foldl (fun q s => shearC s q) q
def ptM (l : List Shr) (p : V3) : V3 := l.foldr applyS p
theorem worth_move : ∀ (l : List Shr) (q : C6) (p : V3), (∀ s ∈ l, ShOk s) → worth (moveC q l) p = worth q (ptM l p)
  | [], _, _, _ => rfl
  | s :: l, q, p, h => by
    show worth (moveC (shearC s q) l) p = worth q (applyS s (ptM l p))
    rw [worth_move l _ _ fun t ht => h t (List.mem_cons_of_mem _ ht), worth_shear (h s List.mem_cons_self)]
theorem numb_move : ∀ (l : List Shr) (o i : C6), (∀ s ∈ l, ShOk s) → numb (moveC o l) (moveC i l) = numb o i
  | [], _, _, _ => rfl
  | s :: l, o, i, h => by
    show numb (moveC (shearC s o) l) (moveC (shearC s i) l) = _
    rw [numb_move l _ _ fun t ht => h t (List.mem_cons_of_mem _ ht), numb_shear (h s List.mem_cons_self)]
theorem det_move : ∀ (l : List Shr) (q : C6), (∀ s ∈ l, ShOk s) → (moveC q l).det = q.det
  | [], _, _ => rfl
  | s :: l, q, h => by
    show (moveC (shearC s q) l).det = _
    rw [det_move l _ fun t ht => h t (List.mem_cons_of_mem _ ht), det_shear (h s List.mem_cons_self)]
theorem apply_plus {s : Shr} (h : ShOk s) (p q : V3) : applyS s (p.plus q) = (applyS s p).plus (applyS s q) := by
  obtain ⟨i, j, k⟩ := s
  rcases h.ij with ⟨h1, h2⟩ | ⟨h1, h2⟩ | ⟨h1, h2⟩ | ⟨h1, h2⟩ | ⟨h1, h2⟩ | ⟨h1, h2⟩ <;> (simp only at h1 h2; subst h1 h2; simp only [applyS, V3.get, V3.set, V3.plus, V3.mk.injEq]; refine ⟨?_, ?_, ?_⟩ <;> grind)
theorem pt_plus : ∀ (l : List Shr) (p q : V3), (∀ s ∈ l, ShOk s) → ptM l (p.plus q) = (ptM l p).plus (ptM l q)
  | [], _, _, _ => rfl
  | s :: l, p, q, h => by
    show applyS s (ptM l (p.plus q)) = _
    rw [pt_plus l p q fun t ht => h t (List.mem_cons_of_mem _ ht), apply_plus (h s List.mem_cons_self)]
    rfl
def both (q : C6) (u v : V3) : Int := worth q (u.plus v) - worth q u - worth q v
/-- what the law makes of a curve: at the ends -/
def sixM (q : C6) (e1 e2 e3 : V3) : C6 := ⟨worth q e1, worth q e2, worth q e3, both q e2 e3, both q e1 e3, both q e1 e2⟩
theorem six_move {l : List Shr} (h : ∀ s ∈ l, ShOk s) (q : C6) : sixM q (ptM l ⟨1, 0, 0⟩) (ptM l ⟨0, 1, 0⟩) (ptM l ⟨0, 0, 1⟩) = moveC q l := by
  unfold sixM both
  rw [← pt_plus l _ _ h, ← pt_plus l _ _ h, ← pt_plus l _ _ h]
  simp only [← worth_move l _ _ h]
  generalize moveC q l = y
  obtain ⟨a, b, c, d, e, f⟩ := y
  simp only [worth, V3.plus, C6.mk.injEq]
  refine ⟨?_, ?_, ?_, ?_, ?_, ?_⟩ <;> grind
/-! sizes -/
def Vb (p : V3) (n : Nat) : Prop := p.x.natAbs ≤ n ∧ p.y.natAbs ≤ n ∧ p.z.natAbs ≤ n
theorem Vb.get {p : V3} {n : Nat} (h : Vb p n) (i : Nat) : (p.get i).natAbs ≤ n := by
  match i with
  | 0 => exact h.1
  | 1 => exact h.2.1
  | _ + 2 => exact h.2.2
theorem Vb.set {p : V3} {n : Nat} (h : Vb p n) {i : Nat} {v : Int} (hv : v.natAbs ≤ n) : Vb (p.set i v) n := by
  match i with
  | 0 => exact ⟨hv, h.2.1, h.2.2⟩
  | 1 => exact ⟨h.1, hv, h.2.2⟩
  | _ + 2 => exact ⟨h.1, h.2.1, hv⟩
theorem vb_mono {p : V3} {n m : Nat} (h : Vb p n) (l : n ≤ m) : Vb p m := ⟨Nat.le_trans h.1 l, Nat.le_trans h.2.1 l, Nat.le_trans h.2.2 l⟩
theorem abs_mul_le {k v : Int} {m n : Nat} (h1 : k.natAbs ≤ m) (h2 : v.natAbs ≤ n) : (k * v).natAbs ≤ m * n := by
  rw [Int.natAbs_mul]
  exact Nat.mul_le_mul h1 h2
theorem vb_apply {s : Shr} (h : ShOk s) {p : V3} {n : Nat} (hp : Vb p n) : Vb (applyS s p) (3 * n) := by
  have := abs_mul_le h.k (hp.get s.2.1)
  have := hp.get s.1
  exact (vb_mono hp (by omega)).set (by omega)
theorem vb_pt : ∀ (l : List Shr) (p : V3) (n : Nat), (∀ s ∈ l, ShOk s) → Vb p n → Vb (ptM l p) (3 ^ l.length * n)
  | [], p, n, _, h => by
    show Vb p (1 * n)
    rw [Nat.one_mul]
    exact h
  | s :: l, p, n, h, hp => by
    have := vb_apply (h s List.mem_cons_self) (vb_pt l p n (fun t ht => h t (List.mem_cons_of_mem _ ht)) hp)
    refine vb_mono this ?_
    rw [List.length_cons, Nat.pow_succ, Nat.mul_comm (3 ^ l.length) 3, Nat.mul_assoc]
    exact Nat.le_refl _
theorem sub8 {x y : Int} {N : Nat} (u : x.natAbs ≤ N) (v : y.natAbs ≤ 2 * N) : (x - y).natAbs ≤ 8 * N := by omega
theorem sub8b {x y : Int} {N : Nat} (u : x.natAbs ≤ N) (v : y.natAbs ≤ 4 * N) : (x - y).natAbs ≤ 8 * N := by omega
theorem sub8c {x y z : Int} {N : Nat} (u : x.natAbs ≤ N) (v : y.natAbs ≤ 4 * N) (w : z.natAbs ≤ 2 * N) : (x + y - z).natAbs ≤ 8 * N := by omega
theorem cb_shear {s : Shr} (h : ShOk s) {q : C6} {n : Nat} (hq : Cb q n) : Cb (shearC s q) (n + 3) := by
  obtain ⟨h1, h2, h3, h4, h5, h6⟩ := cb_iff.mp hq
  obtain ⟨i, j, k⟩ := s
  have hk : k.natAbs ≤ 2 := h.k
  have m1 : ∀ {v : Int}, v.natAbs ≤ 2 ^ n → (k * v).natAbs ≤ 2 * 2 ^ n := fun hv => abs_mul_le hk hv
  have m2 : ∀ {v : Int}, v.natAbs ≤ 2 ^ n → (2 * k * v).natAbs ≤ 4 * 2 ^ n := fun hv => abs_mul_le (by omega) hv
  have m3 : ∀ {v : Int}, v.natAbs ≤ 2 ^ n → (k * k * v).natAbs ≤ 4 * 2 ^ n := fun hv => abs_mul_le (by have := abs_mul_le hk hk; omega) hv
  have e : 2 ^ (n + 3) = 8 * 2 ^ n := by rw [Nat.pow_add]; omega
  have a1 := m1 h1
  have a2 := m1 h2
  have a3 := m1 h3
  have a4 := m1 h4
  have a5 := m1 h5
  have a6 := m1 h6
  have b1 := m2 h1
  have b2 := m2 h2
  have b3 := m2 h3
  have c1 := m3 h1
  have c2 := m3 h2
  have c3 := m3 h3
  refine cb_iff.mpr ?_
  rw [e]
  have l0 : ∀ {x : Int}, x.natAbs ≤ 2 ^ n → x.natAbs ≤ 8 * 2 ^ n := fun u => by omega
  have l1 : ∀ {x y : Int}, x.natAbs ≤ 2 ^ n → y.natAbs ≤ 2 * 2 ^ n → (x - y).natAbs ≤ 8 * 2 ^ n := fun u v => sub8 u v
  have l2 : ∀ {x y : Int}, x.natAbs ≤ 2 ^ n → y.natAbs ≤ 4 * 2 ^ n → (x - y).natAbs ≤ 8 * 2 ^ n := fun u v => sub8b u v
  have l3 : ∀ {x y z : Int}, x.natAbs ≤ 2 ^ n → y.natAbs ≤ 4 * 2 ^ n → z.natAbs ≤ 2 * 2 ^ n → (x + y - z).natAbs ≤ 8 * 2 ^ n := fun u v t => sub8c u v t
  rcases h.ij with ⟨e1, e2⟩ | ⟨e1, e2⟩ | ⟨e1, e2⟩ | ⟨e1, e2⟩ | ⟨e1, e2⟩ | ⟨e1, e2⟩
  · simp only at e1 e2; subst e1 e2; exact ⟨l0 h1, l3 h2 c1 a6, l0 h3, l1 h4 a5, l0 h5, l2 h6 b1⟩
  · simp only at e1 e2; subst e1 e2; exact ⟨l0 h1, l0 h2, l3 h3 c1 a5, l1 h4 a6, l2 h5 b1, l0 h6⟩
  · simp only at e1 e2; subst e1 e2; exact ⟨l3 h1 c2 a6, l0 h2, l0 h3, l0 h4, l1 h5 a4, l2 h6 b2⟩
  · simp only at e1 e2; subst e1 e2; exact ⟨l0 h1, l0 h2, l3 h3 c2 a4, l2 h4 b2, l1 h5 a6, l0 h6⟩
  · simp only at e1 e2; subst e1 e2; exact ⟨l3 h1 c3 a5, l0 h2, l0 h3, l0 h4, l2 h5 b3, l1 h6 a4⟩
  · simp only at e1 e2; subst e1 e2; exact ⟨l0 h1, l3 h2 c3 a4, l0 h3, l2 h4 b3, l0 h5, l1 h6 a5⟩
theorem cb_move : ∀ (l : List Shr) (q : C6) (n : Nat), (∀ s ∈ l, ShOk s) → Cb q n → Cb (moveC q l) (n + 3 * l.length)
  | [], _, _, _, h => h
  | s :: l, q, n, h, hq => by
    have := cb_move l (shearC s q) (n + 3) (fun t ht => h t (List.mem_cons_of_mem _ ht)) (cb_shear (h s List.mem_cons_self) hq)
    have e : n + 3 * (s :: l).length = n + 3 + 3 * l.length := by rw [List.length_cons]; omega
    rw [e]
    exact this
/-! told and moved: still a pair -/
theorem disc_smul (s t : Int) (o i : C6) : (numb (C6.smul s o) (C6.smul t i)).disc = (s * s * s * s * s * s) * (t * t * t * t * t * t) * (numb o i).disc := by
  have e : numb (C6.smul s o) (C6.smul t i) = ⟨t * t * t * (numb o i).w, s * t * t * (numb o i).u, s * s * t * (numb o i).v, s * s * s * (numb o i).r⟩ := by
    simp only [numb, C6.det, C6.dot, C6.slopes, C6.smul, N4.mk.injEq]
    refine ⟨?_, ?_, ?_, ?_⟩ <;> grind
  rw [e]
  generalize numb o i = n
  simp only [N4.disc]
  grind
theorem pair_kept {o i : C6} (ho : o.det ≠ 0) (hi : i.det ≠ 0) (h : IsPair o i) : IsPair (kept o) (kept i) := by
  intro z
  apply h
  conv => lhs; rw [kept_times o, kept_times i]
  rw [disc_smul, z, Int.mul_zero]
theorem moved_ok {l : List Shr} (h : ∀ s ∈ l, ShOk s) {o i : C6} (ho : o.det ≠ 0) (hi : i.det ≠ 0) (hp : IsPair o i) : IsCurve (kept (moveC o l)) ∧ IsCurve (kept (moveC i l)) ∧ IsPair (kept (moveC o l)) (kept (moveC i l)) := by
  have d1 : (moveC o l).det ≠ 0 := by rw [det_move l _ h]; exact ho
  have d2 : (moveC i l).det ≠ 0 := by rw [det_move l _ h]; exact hi
  refine ⟨kept_curve d1, kept_curve d2, pair_kept d1 d2 ?_⟩
  unfold IsPair
  rw [numb_move l _ _ h]
  exact hp
/-! the dual -/
def dualC (x : C6) : C6 := ⟨4 * x.b * x.c - x.d * x.d, 4 * x.a * x.c - x.e * x.e, 4 * x.a * x.b - x.f * x.f, 2 * x.e * x.f - 4 * x.a * x.d, 2 * x.d * x.f - 4 * x.b * x.e, 2 * x.d * x.e - 4 * x.c * x.f⟩
theorem det_dual (x : C6) : (dualC x).det = 16 * (x.det * x.det) := by
  simp only [dualC, C6.det]
  grind
theorem dual_ne {x : C6} (h : x.det ≠ 0) : (dualC x).det ≠ 0 := by
  rw [det_dual]
  intro z
  have : x.det * x.det = 0 := by omega
  rcases Int.mul_eq_zero.mp this with q | q <;> exact h q
end Rs


namespace Rs
/-! the law's curves -/
def outL : C6 := ⟨0, 1, 0, 0, -1, 0⟩
def laidF (s t u v w x y : Int) : Int := v * (0 - s - t) * (0 - s - t) + w * (s * t) * (s * t) + 2 * x * (0 - s - t) * (s * t) + 2 * y * (s * t) + 2 * u * (0 - s - t)
def laidC (s t u v w x y : Int) : C6 := ⟨0 - laidF s t u v w x y, v, w, 2 * x, 2 * y, 2 * u⟩
def laidM (s t : Int) (l : List Int) : C6 := laidC s t (l.getD 0 0) (l.getD 1 0) (l.getD 2 0) (l.getD 3 0) (l.getD 4 0)
def dualM (x : C6) : C6 := kept (dualC x)
def okM (x : C6) : Bool := decide (x.det ≠ 0) && decide ((numb outL (dualM x)).disc ≠ 0)
def turnM (s t : Int) (l : List Int) (k : Nat) : List Int := if okM (laidM s t l) then l else l.set (k % 5) (l.getD (k % 5) 0 + 1 + (k : Int))
def sixFall : C6 := laidM 0 1 [0, 1, 1, 0, 1]
def sixL (s t : Int) (l : List Int) : C6 := if okM (laidM s t ((List.range 12).foldl (turnM s t) l)) then laidM s t ((List.range 12).foldl (turnM s t) l) else sixFall
def shOne (n : Int) : Shr := ((n % 3).toNat, ((n % 3 + 1 + n / 3 % 2) % 3).toNat, n / 3 / 2 % 5 - 2)
def shM : Nat → Int → List Shr
  | 0, _ => []
  | k + 1, n => shOne n :: shM k (n / 3 / 2 / 5)
def sC (n : Int) : Int := n % 9 - 4
def tC0 (n : Int) : Int := n / 9 % 9 - 4
def tC (n : Int) : Int := if sC n = tC0 n then (if n / 9 / 9 % 2 = 0 then sC n + 1 else tC0 n) else tC0 n
def n3C (n : Int) : Int := if sC n = tC0 n then n / 9 / 9 / 2 else n / 9 / 9
def digM : Nat → Int → List Int
  | 0, _ => []
  | k + 1, n => (n % 7 - 3) :: digM k (n / 7)
def restM : Nat → Int → Int
  | 0, n => n
  | k + 1, n => restM k (n / 7)
def sixC (n : Int) : C6 := sixL (sC n) (tC n) (digM 5 (n3C n))
def shC (n : Int) : List Shr := shM (restM 5 (n3C n) % 4).toNat (restM 5 (n3C n) / 4)
def outC (n : Int) : C6 := kept (moveC outL (shC n))
def innC (n : Int) : C6 := kept (moveC (dualM (sixC n)) (shC n))
/-! they are good -/
theorem sh_ok (n : Int) : ShOk (shOne n) := by
  refine ⟨?_, ?_⟩
  · show ((n % 3).toNat = 0 ∧ ((n % 3 + 1 + n / 3 % 2) % 3).toNat = 1) ∨ ((n % 3).toNat = 0 ∧ ((n % 3 + 1 + n / 3 % 2) % 3).toNat = 2) ∨ ((n % 3).toNat = 1 ∧ ((n % 3 + 1 + n / 3 % 2) % 3).toNat = 0) ∨ ((n % 3).toNat = 1 ∧ ((n % 3 + 1 + n / 3 % 2) % 3).toNat = 2) ∨ ((n % 3).toNat = 2 ∧ ((n % 3 + 1 + n / 3 % 2) % 3).toNat = 0) ∨ ((n % 3).toNat = 2 ∧ ((n % 3 + 1 + n / 3 % 2) % 3).toNat = 1)
    have h1 : n % 3 = 0 ∨ n % 3 = 1 ∨ n % 3 = 2 := by omega
    have h2 : n / 3 % 2 = 0 ∨ n / 3 % 2 = 1 := by omega
    rcases h1 with h1 | h1 | h1 <;> rcases h2 with h2 | h2 <;> (rw [h1, h2]; decide)
  · show (n / 3 / 2 % 5 - 2).natAbs ≤ 2
    omega
theorem shM_ok : ∀ (k : Nat) (n : Int), ∀ s ∈ shM k n, ShOk s
  | 0, _, s, h => nomatch h
  | k + 1, n, s, h => by
    rcases List.mem_cons.mp h with rfl | h
    · exact sh_ok n
    · exact shM_ok k _ s h
theorem shM_len : ∀ (k : Nat) (n : Int), (shM k n).length = k
  | 0, _ => rfl
  | k + 1, n => by show (shM k _).length + 1 = k + 1; rw [shM_len k]
theorem digM_len : ∀ (k : Nat) (n : Int), (digM k n).length = k
  | 0, _ => rfl
  | k + 1, n => by show (digM k _).length + 1 = k + 1; rw [digM_len k]
def Lb (l : List Int) (b : Nat) : Prop := l.length = 5 ∧ ∀ z ∈ l, z.natAbs ≤ b
theorem digM_b : ∀ (k : Nat) (n : Int), ∀ z ∈ digM k n, z.natAbs ≤ 3
  | 0, _, z, h => nomatch h
  | k + 1, n, z, h => by
    rcases List.mem_cons.mp h with rfl | h
    · omega
    · exact digM_b k _ z h
theorem lb_get {l : List Int} {b : Nat} (h : Lb l b) (i : Nat) : (l.getD i 0).natAbs ≤ b := by
  rw [List.getD_eq_getElem?_getD]
  cases e : l[i]? with
  | none => exact Nat.zero_le _
  | some z => exact h.2 z (List.mem_of_getElem? e)
theorem lb_turn {l : List Int} {b k : Nat} (h : Lb l b) (s t : Int) : Lb (turnM s t l k) (b + 1 + k) := by
  unfold turnM
  by_cases c : okM (laidM s t l) = true
  · rw [if_pos c]
    exact ⟨h.1, fun z hz => by have := h.2 z hz; omega⟩
  · rw [if_neg c]
    refine ⟨by rw [List.length_set]; exact h.1, fun z hz => ?_⟩
    have hz := List.mem_or_eq_of_mem_set hz
    rcases hz with hz | rfl
    · have := h.2 z hz; omega
    · have := lb_get h (k % 5); omega
theorem lb_mono {l : List Int} {b c : Nat} (h : Lb l b) (le : b ≤ c) : Lb l c := ⟨h.1, fun z hz => Nat.le_trans (h.2 z hz) le⟩
theorem lb_turns {s t : Int} {l : List Int} (h : Lb l 3) : ∀ n, n ≤ 12 → Lb ((List.range n).foldl (turnM s t) l) (3 + 12 * n)
  | 0, _ => h
  | n + 1, hn => by
    rw [List.range_succ, List.foldl_append]
    exact lb_mono (lb_turn (k := n) (lb_turns h n (by omega)) s t) (by omega)
theorem laid_bits {s t : Int} {l : List Int} (hs : s.natAbs ≤ 5) (ht : t.natAbs ≤ 5) (h : Lb l 200) : Cb (laidM s t l) 18 := by
  have h0 := lb_get h 0
  have h1 := lb_get h 1
  have h2 := lb_get h 2
  have h3 := lb_get h 3
  have h4 := lb_get h 4
  unfold laidM
  generalize l.getD 0 0 = u at *
  generalize l.getD 1 0 = v at *
  generalize l.getD 2 0 = w at *
  generalize l.getD 3 0 = x at *
  generalize l.getD 4 0 = y at *
  have hm : (0 - s - t).natAbs ≤ 10 := by omega
  have hq : (s * t).natAbs ≤ 5 * 5 := abs_mul_le hs ht
  refine cb_iff.mpr ⟨?_, ?_, ?_, ?_, ?_, ?_⟩
  · show (0 - laidF s t u v w x y).natAbs ≤ 2 ^ 18
    unfold laidF
    have a1 := abs_mul_le (abs_mul_le h1 hm) hm
    have a2 := abs_mul_le (abs_mul_le h2 hq) hq
    have a3 := abs_mul_le (abs_mul_le (abs_mul_le (k := 2) (m := 2) (by decide) h3) hm) hq
    have a4 := abs_mul_le (abs_mul_le (k := 2) (m := 2) (by decide) h4) hq
    have a5 := abs_mul_le (abs_mul_le (k := 2) (m := 2) (by decide) h0) hm
    generalize v * (0 - s - t) * (0 - s - t) = b1 at *
    generalize w * (s * t) * (s * t) = b2 at *
    generalize 2 * x * (0 - s - t) * (s * t) = b3 at *
    generalize 2 * y * (s * t) = b4 at *
    generalize 2 * u * (0 - s - t) = b5 at *
    omega
  · show v.natAbs ≤ 2 ^ 18; omega
  · show w.natAbs ≤ 2 ^ 18; omega
  · show (2 * x).natAbs ≤ 2 ^ 18; omega
  · show (2 * y).natAbs ≤ 2 ^ 18; omega
  · show (2 * u).natAbs ≤ 2 ^ 18; omega
theorem sub6 {x y : Int} {N : Nat} (u : x.natAbs ≤ 4 * N) (v : y.natAbs ≤ 4 * N) : (x - y).natAbs ≤ 8 * N := by omega
theorem dual_bits {x : C6} {n : Nat} (h : Cb x n) : Cb (dualC x) (2 * n + 3) := by
  obtain ⟨h1, h2, h3, h4, h5, h6⟩ := cb_iff.mp h
  have e : 2 ^ (2 * n + 3) = 8 * (2 ^ n * 2 ^ n) := by
    rw [Nat.pow_add, Nat.two_mul, Nat.pow_add]; omega
  have f4 : ∀ {u v : Int}, u.natAbs ≤ 2 ^ n → v.natAbs ≤ 2 ^ n → (4 * u * v).natAbs ≤ 4 * (2 ^ n * 2 ^ n) := fun hu hv => by
    have := abs_mul_le (abs_mul_le (k := 4) (m := 4) (by decide) hu) hv
    rw [Nat.mul_assoc] at this
    exact this
  have f2 : ∀ {u v : Int}, u.natAbs ≤ 2 ^ n → v.natAbs ≤ 2 ^ n → (2 * u * v).natAbs ≤ 4 * (2 ^ n * 2 ^ n) := fun hu hv => by
    have := abs_mul_le (abs_mul_le (k := 2) (m := 4) (by decide) hu) hv
    rw [Nat.mul_assoc] at this
    exact this
  have f1 : ∀ {u v : Int}, u.natAbs ≤ 2 ^ n → v.natAbs ≤ 2 ^ n → (u * v).natAbs ≤ 4 * (2 ^ n * 2 ^ n) := fun hu hv => by
    have := abs_mul_le hu hv
    omega
  refine cb_iff.mpr ?_
  rw [e]
  exact ⟨sub6 (f4 h2 h3) (f1 h4 h4), sub6 (f4 h1 h3) (f1 h5 h5), sub6 (f4 h1 h2) (f1 h6 h6), sub6 (f2 h5 h6) (f4 h1 h4), sub6 (f2 h4 h6) (f4 h2 h5), sub6 (f2 h4 h5) (f4 h3 h6)⟩
theorem st_b (n : Int) : (sC n).natAbs ≤ 5 ∧ (tC n).natAbs ≤ 5 := by
  unfold sC tC tC0 sC
  refine ⟨by omega, ?_⟩
  by_cases c : n % 9 - 4 = n / 9 % 9 - 4
  · rw [if_pos c]
    by_cases c2 : n / 9 / 9 % 2 = 0
    · rw [if_pos c2]; omega
    · rw [if_neg c2]; omega
  · rw [if_neg c]; omega
theorem six_b {s t : Int} {l : List Int} (hs : s.natAbs ≤ 5) (ht : t.natAbs ≤ 5) (h : Lb l 3) : Cb (sixL s t l) 18 := by
  unfold sixL
  by_cases c : okM (laidM s t ((List.range 12).foldl (turnM s t) l)) = true
  · rw [if_pos c]
    exact laid_bits hs ht (lb_mono (lb_turns h 12 (by omega)) (by decide))
  · rw [if_neg c]
    exact laid_bits (by decide) (by decide) ⟨rfl, by decide⟩
theorem fall_ok : okM sixFall = true := by decide +kernel
theorem six_ok (s t : Int) (l : List Int) : okM (sixL s t l) = true := by
  unfold sixL
  by_cases c : okM (laidM s t ((List.range 12).foldl (turnM s t) l)) = true
  · rw [if_pos c]; exact c
  · rw [if_neg c]; exact fall_ok
theorem okM_ok {x : C6} (h : okM x = true) : x.det ≠ 0 ∧ (dualM x).det ≠ 0 ∧ IsPair outL (dualM x) := by
  unfold okM at h
  rw [Bool.and_eq_true] at h
  have d := of_decide_eq_true h.1
  exact ⟨d, kept_det (dual_ne d), (of_decide_eq_true h.2 : (numb outL (dualM x)).disc ≠ 0)⟩
theorem dig_lb (n : Int) : Lb (digM 5 n) 3 := ⟨digM_len 5 n, digM_b 5 n⟩
theorem shC_ok (n : Int) : ∀ s ∈ shC n, ShOk s := shM_ok _ _
theorem shC_len (n : Int) : (shC n).length ≤ 3 := by
  unfold shC
  rw [shM_len]
  omega
theorem cbm {x : C6} {n m : Nat} (h : Cb x n) (l : n ≤ m) : Cb x m := fun z hz => Nat.le_trans (h z hz) (Nat.pow_le_pow_right (by decide) l)
theorem sixC_ok (n : Int) : (sixC n).det ≠ 0 ∧ (dualM (sixC n)).det ≠ 0 ∧ IsPair outL (dualM (sixC n)) := okM_ok (six_ok _ _ _)
theorem sixC_b (n : Int) : Cb (sixC n) 18 := six_b (st_b n).1 (st_b n).2 (dig_lb _)
theorem dualM_b {x : C6} {n : Nat} (h : Cb x n) : Cb (dualM x) (2 * n + 3) := kept_bits (dual_bits h)
theorem outL_det : outL.det ≠ 0 := by decide
theorem outL_b : Cb outL 1 := by decide
theorem curvesC_ok (n : Int) : IsCurve (outC n) ∧ IsCurve (innC n) ∧ IsPair (outC n) (innC n) ∧ Cb (outC n) 63 ∧ Cb (innC n) 63 := by
  obtain ⟨h1, h2, h3⟩ := sixC_ok n
  obtain ⟨k1, k2, k3⟩ := moved_ok (shC_ok n) outL_det h2 h3
  have := shC_len n
  exact ⟨k1, k2, k3, kept_bits (cbm (cb_move _ _ 1 (shC_ok n) outL_b) (by omega)), kept_bits (cbm (cb_move _ _ 39 (shC_ok n) (dualM_b (sixC_b n))) (by omega))⟩
/-! the numbers, by three worths -/
theorem det_t (t : Int) (o i : C6) : (C6.lin t o 1 i).det = (numb o i).w + t * (numb o i).u + t * t * (numb o i).v + t * t * t * (numb o i).r := by
  simp only [C6.lin, C6.det, numb, C6.dot, C6.slopes]
  grind
def numL (o i : C6) : N4 :=
  let p0 := (C6.lin 0 o 1 i).det
  let p1 := (C6.lin 1 o 1 i).det
  let p2 := (C6.lin (-1) o 1 i).det
  let v := (p1 + p2 - 2 * p0) / 2
  ⟨p0, p1 - p0 - v - o.det, v, o.det⟩
theorem numL_eq (o i : C6) : numL o i = numb o i := by
  unfold numL
  simp only [det_t]
  have e : o.det = (numb o i).r := rfl
  rw [e]
  generalize numb o i = n
  obtain ⟨w, u, v, r⟩ := n
  simp only [N4.mk.injEq]
  refine ⟨?_, ?_, ?_, ?_⟩ <;> grind
end Rs


set_option maxRecDepth 100000
set_option maxHeartbeats 2000000
/-! A layer of data over HandS: slots hold data (Dp) in a frozen part of the heap, or lists of their own; big steps. -/
namespace Dl
open PySem PySem.Spec PyProof.Rows L2
abbrev Ex := Evl.Ex
abbrev PD := PyData

section
variable {K : PySem.W.Frag} {H H' : Hp}
mutual
theorem dp_ex (e : Ex H H') : ∀ (d : PD) (v : V), Dp K H v d → Dp K H' v d
  | .none, _, h => by cases h; exact .non
  | .bool b, _, h => by cases h; exact .bl b
  | .int i, _, h => by cases h; exact .int i
  | .str x, _, h => by cases h; exact .str x
  | .list ds, _, h => by
    cases h with
    | lst hs ha => exact .lst (Evl.ex_l e hs) (dpa_ex e ds _ ha)
  | .tuple ds, _, h => by
    cases h with
    | tup hs ha => exact .tup (Evl.ex_t e hs) (dpa_ex e ds _ ha)
  | .dict _, _, h => by cases h
theorem dpa_ex (e : Ex H H') : ∀ (ds : List PD) (vs : List V), DpAll K H vs ds → DpAll K H' vs ds
  | [], _, h => by cases h; exact .nil
  | d :: ds, _, h => by
    cases h with
    | cons h1 h2 => exact .cons (dp_ex e d _ h1) (dpa_ex e ds _ h2)
end
/-- data without lists -/
def NoL : PD → Bool
  | .none => true
  | .bool _ => true
  | .int _ => true
  | .str _ => true
  | .list _ => false
  | .tuple ds => NoLs ds
  | .dict _ => false
where NoLs : List PD → Bool
  | [] => true
  | d :: ds => NoL d && NoLs ds
mutual
/-- data without lists does not lean on lists -/
theorem dp_off {q : Addr → Prop} (hq : ∀ a o, q a → H a = some o → ∃ xs, o = .lst xs) (e : ∀ a o, ¬ q a → H a = some o → H' a = some o) : ∀ (d : PD) (v : V), NoL d = true → Dp K H v d → Dp K H' v d
  | .none, _, _, h => by cases h; exact .non
  | .bool b, _, _, h => by cases h; exact .bl b
  | .int i, _, _, h => by cases h; exact .int i
  | .str x, _, _, h => by cases h; exact .str x
  | .list ds, _, n, h => by cases n
  | .tuple ds, _, n, h => by
    cases h with
    | @tup a xs _ hs ha =>
      refine .tup ?_ (dpa_off hq e ds _ n ha)
      rcases hs with (hs | ⟨o, hs⟩) | hs
      · exact .inl (.inl (e a _ (fun z => by obtain ⟨_, q⟩ := hq a _ z hs; cases q) hs))
      · exact .inl (.inr ⟨o, e a _ (fun z => by obtain ⟨_, q⟩ := hq a _ z hs; cases q) hs⟩)
      · exact .inr hs
  | .dict _, _, _, h => by cases h
theorem dpa_off {q : Addr → Prop} (hq : ∀ a o, q a → H a = some o → ∃ xs, o = .lst xs) (e : ∀ a o, ¬ q a → H a = some o → H' a = some o) : ∀ (ds : List PD) (vs : List V), NoL.NoLs ds = true → DpAll K H vs ds → DpAll K H' vs ds
  | [], _, _, h => by cases h; exact .nil
  | d :: ds, _, n, h => by
    have n' : (NoL d && NoL.NoLs ds) = true := n
    rw [Bool.and_eq_true] at n'
    cases h with
    | cons h1 h2 => exact .cons (dp_off hq e d _ n'.1 h1) (dpa_off hq e ds _ n'.2 h2)
end
theorem dpa_len {vs : List V} {ds : List PD} (h : DpAll K H vs ds) : vs.length = ds.length := by
  induction ds generalizing vs with
  | nil => cases h; rfl
  | cons d ds ih =>
    cases h with
    | cons h1 h2 => rw [List.length_cons, List.length_cons, ih h2]
theorem dpa_get {vs : List V} {ds : List PD} (h : DpAll K H vs ds) {i : Nat} {d : PD} (e : ds[i]? = some d) : ∃ v, vs[i]? = some v ∧ Dp K H v d := by
  induction ds generalizing vs i with
  | nil => cases e
  | cons d' ds ih =>
    cases h with
    | cons h1 h2 =>
      cases i with
      | zero =>
        cases e
        exact ⟨_, rfl, h1⟩
      | succ i => exact ih h2 e
theorem dpa_get' {vs : List V} {ds : List PD} (h : DpAll K H vs ds) {i : Nat} {v : V} (e : vs[i]? = some v) : ∃ d, ds[i]? = some d ∧ Dp K H v d := by
  induction ds generalizing vs i with
  | nil => cases h; cases e
  | cons d' ds ih =>
    cases h with
    | cons h1 h2 =>
      cases i with
      | zero =>
        cases e
        exact ⟨_, rfl, h1⟩
      | succ i => exact ih h2 e
theorem dpa_app {vs ws : List V} {ds es : List PD} (h : DpAll K H vs ds) (h2 : DpAll K H ws es) : DpAll K H (vs ++ ws) (ds ++ es) := by
  induction ds generalizing vs with
  | nil => cases h; exact h2
  | cons d ds ih =>
    cases h with
    | cons a b => exact .cons a (ih b)
theorem dpa_one {v : V} {d : PD} (h : Dp K H v d) : DpAll K H [v] [d] := .cons h .nil
theorem dpa_set {vs : List V} {ds : List PD} (h : DpAll K H vs ds) {j : Nat} {v : V} {d : PD} (hv : Dp K H v d) : DpAll K H (vs.set j v) (ds.set j d) := by
  induction ds generalizing vs j with
  | nil => cases h; exact .nil
  | cons d' ds ih =>
    cases h with
    | cons a b =>
      cases j with
      | zero => exact .cons hv b
      | succ j => exact .cons a (ih b)
theorem dpa_ints : ∀ (ns : List Int), DpAll K H (ns.map V.int) (ns.map PyData.int)
  | [] => .nil
  | n :: ns => .cons (.int n) (dpa_ints ns)
end

/-! ### what is known of the slots -/
inductive Sl where
  | no
  | d (x : PD)
  | own (a : Addr) (xs : List PD)
abbrev Gm := List Sl
def IsOwn (Γ : Gm) (a : Addr) : Prop := ∃ (i : Nat) (xs : List PD), Γ[i]? = some (.own a xs)
structure StD (K : PySem.W.Frag) (F : Addr → Prop) (H0 H : Hp) (σ : L2.St) (Γ : Gm) : Prop where
  len : σ.length = Γ.length
  ex : Ex H0 H
  dat : ∀ (i : Nat) (x : PD), Γ[i]? = some (.d x) → ∃ v, σ[i]? = some (some v) ∧ Dp K H0 v x
  own : ∀ (i : Nat) (a : Addr) (xs : List PD), Γ[i]? = some (.own a xs) → σ[i]? = some (some (.ref a)) ∧ H0 a = none ∧ ∃ vs, H a = some (.lst vs) ∧ DpAll K H0 vs xs
  inj : ∀ (i j : Nat) (a : Addr) (xs ys : List PD), Γ[i]? = some (.own a xs) → Γ[j]? = some (.own a ys) → i = j
  fre : ∀ b, H b = none → F b
structure Step (ow : Addr → Prop) (H0 H H0' H' : Hp) : Prop where
  im : Ex H0 H0'
  fr : ∀ b o, ¬ ow b → H b = some o → H' b = some o
  dm : ∀ b, H b ≠ none → H' b ≠ none
  ls : ∀ b xs, ¬ ow b → H b = some (.lst xs) → H0 b = none → H0' b = none
theorem Step.refl {ow : Addr → Prop} {H0 H : Hp} : Step ow H0 H H0 H := ⟨fun _ _ h => h, fun _ _ _ h => h, fun _ h => h, fun _ _ _ _ h => h⟩
theorem Step.trans {ow ow1 : Addr → Prop} {A0 A B0 B C0 C : Hp} (h1 : Step ow A0 A B0 B) (h2 : Step ow1 B0 B C0 C) (ho : ∀ b, ow1 b → ow b ∨ A b = none) : Step ow A0 A C0 C := by
  have k : ∀ b o, ¬ ow b → A b = some o → ¬ ow1 b := fun b o hn e z => by
    rcases ho b z with z | z
    · exact hn z
    · rw [e] at z; cases z
  exact ⟨h1.im.trans h2.im, fun b o hn e => h2.fr b o (k b o hn e) (h1.fr b o hn e), fun b e => h2.dm b (h1.dm b e), fun b xs hn e z => h2.ls b xs (k b _ hn e) (h1.fr b _ hn e) (h1.ls b xs hn e z)⟩
/-- what was laid beside: H grows, nothing of it is an own list or a list outside the frozen part -/
theorem Step.grow {ow : Addr → Prop} {H0 H H' : Hp} (e : Ex H H') (H0' : Hp) (im : Ex H0 H0') (ls : ∀ b xs, H b = some (.lst xs) → H0 b = none → H0' b = none) : Step ow H0 H H0' H' :=
  ⟨im, fun b o _ h => e b o h, fun b h => (by
    cases q : H b with
    | none => exact absurd q h
    | some o => rw [e b o q]; exact fun z => nomatch z), fun b xs _ h z => ls b xs h z⟩
section
variable {K : PySem.W.Frag} {F : Addr → Prop} {H0 H H0' H' : Hp} {σ : L2.St} {Γ Γ' : Gm}
/-- the state behind a growth of both heaps -/
theorem StD.grow (S : StD K F H0 H σ Γ) (e : Ex H H') (im : Ex H0 H0') (ex : Ex H0' H') (no : ∀ b xs, H b = some (.lst xs) → H0 b = none → H0' b = none) : StD K F H0' H' σ Γ where
  len := S.len
  ex := ex
  dat := fun i x h => let ⟨v, a, b⟩ := S.dat i x h; ⟨v, a, dp_ex im _ _ b⟩
  own := fun i a xs h => let ⟨p, q, vs, r, t⟩ := S.own i a xs h; ⟨p, no a vs r q, vs, e a _ r, dpa_ex im _ _ t⟩
  inj := S.inj
  fre := fun b h => S.fre b (by
    cases q : H b with
    | none => rfl
    | some o => rw [e b o q] at h; cases h)
/-- the frozen part behind a call: all that stands there but the lists that stood outside -/
def thaw (H0 H H' : Hp) : Hp := fun b => match H0 b, H b with
  | none, some (.lst _) => none
  | _, _ => H' b
theorem thaw_off {b : Addr} {xs : List V} (h0 : H0 b = none) (h : H b = some (.lst xs)) : thaw H0 H H' b = none := by
  unfold thaw
  rw [h0, h]
theorem thaw_in {b : Addr} {o : HO} (e : Ex H0 H) (e2 : Ex H H') (h : H0 b = some o) : thaw H0 H H' b = some o := by
  unfold thaw
  rw [h]
  exact e2 b o (e b o h)
theorem thaw_ex : Ex (thaw H0 H H') H' := fun b o h => by
  unfold thaw at h
  split at h
  · cases h
  · exact h
theorem thaw_dp (e2 : Ex H H') {d : PD} {v : V} (n : NoL d = true) (h : Dp K H' v d) : Dp K (thaw H0 H H') v d := by
  refine dp_off (q := fun a => H0 a = none ∧ ∃ xs, H a = some (.lst xs)) (fun a o ⟨_, xs, hx⟩ ho => ?_) (fun a o hn ho => ?_) d v n h
  · rw [e2 a _ hx] at ho
    exact ⟨xs, (Option.some.inj ho).symm⟩
  · unfold thaw
    split
    · rename_i h1 h2
      exact absurd ⟨h1, _, h2⟩ hn
    · exact ho
theorem thaw_step (S : StD K F H0 H σ Γ) (e : Ex H H') {ow : Addr → Prop} : Step ow H0 H (thaw H0 H H') H' ∧ StD K F (thaw H0 H H') H' σ Γ :=
  ⟨Step.grow e _ (fun b o h => thaw_in S.ex e h) fun b xs h z => thaw_off z h, S.grow e (fun b o h => thaw_in S.ex e h) thaw_ex fun b xs h z => thaw_off z h⟩
theorem StD.set (S : StD K F H0 H σ Γ) {i : Nat} {v : V} {x : PD} (h : Dp K H0 v x) : StD K F H0 H (σ.set i (some v)) (Γ.set i (.d x)) where
  len := by rw [List.length_set, List.length_set]; exact S.len
  ex := S.ex
  dat := fun j y hj => by
    by_cases e : i = j
    · subst e
      by_cases l : i < Γ.length
      · rw [List.getElem?_set_self (by exact l)] at hj
        cases hj
        exact ⟨v, List.getElem?_set_self (by rw [S.len]; exact l), h⟩
      · rw [List.getElem?_eq_none (by rw [List.length_set]; omega)] at hj
        cases hj
    · rw [List.getElem?_set_ne e] at hj
      obtain ⟨w, a, b⟩ := S.dat j y hj
      exact ⟨w, by rw [List.getElem?_set_ne e]; exact a, b⟩
  own := fun j a xs hj => by
    by_cases e : i = j
    · subst e
      by_cases l : i < Γ.length
      · rw [List.getElem?_set_self (by exact l)] at hj
        cases hj
      · rw [List.getElem?_eq_none (by rw [List.length_set]; omega)] at hj
        cases hj
    · rw [List.getElem?_set_ne e] at hj
      rw [List.getElem?_set_ne e]
      exact S.own j a xs hj
  inj := fun j k a xs ys h1 h2 => by
    have f : ∀ {j : Nat} {xs}, (Γ.set i (.d x))[j]? = some (.own a xs) → Γ[j]? = some (.own a xs) := fun {j xs} hj => by
      by_cases e : i = j
      · subst e
        by_cases l : i < Γ.length
        · rw [List.getElem?_set_self (by exact l)] at hj
          cases hj
        · rw [List.getElem?_eq_none (by rw [List.length_set]; omega)] at hj
          cases hj
      · rw [List.getElem?_set_ne e] at hj
        exact hj
    exact S.inj j k a xs ys (f h1) (f h2)
  fre := S.fre
/-- a slot of which nothing is told any more -/
theorem StD.drop (S : StD K F H0 H σ Γ) {i : Nat} {o : Option V} : StD K F H0 H (σ.set i o) (Γ.set i .no) where
  len := by rw [List.length_set, List.length_set]; exact S.len
  ex := S.ex
  dat := fun j y hj => by
    by_cases e : i = j
    · subst e
      by_cases l : i < Γ.length
      · rw [List.getElem?_set_self (by exact l)] at hj
        cases hj
      · rw [List.getElem?_eq_none (by rw [List.length_set]; omega)] at hj
        cases hj
    · rw [List.getElem?_set_ne e] at hj
      rw [List.getElem?_set_ne e]
      exact S.dat j y hj
  own := fun j a xs hj => by
    by_cases e : i = j
    · subst e
      by_cases l : i < Γ.length
      · rw [List.getElem?_set_self (by exact l)] at hj
        cases hj
      · rw [List.getElem?_eq_none (by rw [List.length_set]; omega)] at hj
        cases hj
    · rw [List.getElem?_set_ne e] at hj
      rw [List.getElem?_set_ne e]
      exact S.own j a xs hj
  inj := fun j k a xs ys h1 h2 => by
    have f : ∀ {j : Nat} {xs}, (Γ.set i .no)[j]? = some (.own a xs) → Γ[j]? = some (.own a xs) := fun {j xs} hj => by
      by_cases e : i = j
      · subst e
        by_cases l : i < Γ.length
        · rw [List.getElem?_set_self (by exact l)] at hj
          cases hj
        · rw [List.getElem?_eq_none (by rw [List.length_set]; omega)] at hj
          cases hj
      · rw [List.getElem?_set_ne e] at hj
        exact hj
    exact S.inj j k a xs ys (f h1) (f h2)
  fre := S.fre
/-- a slot holds a new list of its own, or an own list's items are new -/
theorem StD.setOwn (S : StD K F H0 H σ Γ) {i : Nat} {a : Addr} {vs : List V} {xs : List PD} (h0 : H0 a = none) (e : H' a = some (.lst vs)) (k : ∀ b o, b ≠ a → H b = some o → H' b = some o) (hd : DpAll K H0 vs xs) (hn : ∀ (j : Nat) (ys : List PD), Γ[j]? = some (.own a ys) → j = i) :
    StD K F H0 H' (σ.set i (some (.ref a))) (Γ.set i (.own a xs)) where
  len := by rw [List.length_set, List.length_set]; exact S.len
  ex := fun b o hb => k b o (fun z => by rw [z, h0] at hb; cases hb) (S.ex b o hb)
  dat := fun j y hj => by
    by_cases e : i = j
    · subst e
      by_cases l : i < Γ.length
      · rw [List.getElem?_set_self (by exact l)] at hj
        cases hj
      · rw [List.getElem?_eq_none (by rw [List.length_set]; omega)] at hj
        cases hj
    · rw [List.getElem?_set_ne e] at hj
      rw [List.getElem?_set_ne e]
      exact S.dat j y hj
  own := fun j b ys hj => by
    by_cases q : i = j
    · subst q
      by_cases l : i < Γ.length
      · rw [List.getElem?_set_self (by exact l)] at hj
        cases hj
        exact ⟨List.getElem?_set_self (by rw [S.len]; exact l), h0, vs, e, hd⟩
      · rw [List.getElem?_eq_none (by rw [List.length_set]; omega)] at hj
        cases hj
    · rw [List.getElem?_set_ne q] at hj
      rw [List.getElem?_set_ne q]
      obtain ⟨p1, p2, ws, p3, p4⟩ := S.own j b ys hj
      exact ⟨p1, p2, ws, k b _ (fun z => by subst z; exact q (hn j ys hj).symm) p3, p4⟩
  inj := fun j k a' xs' ys h1 h2 => by
    have f : ∀ {j : Nat} {zs}, (Γ.set i (.own a xs))[j]? = some (.own a' zs) → (j = i ∧ a' = a) ∨ (j ≠ i ∧ Γ[j]? = some (.own a' zs)) := fun {j zs} hj => by
      by_cases e : i = j
      · subst e
        by_cases l : i < Γ.length
        · rw [List.getElem?_set_self (by exact l)] at hj
          cases hj
          exact .inl ⟨rfl, rfl⟩
        · rw [List.getElem?_eq_none (by rw [List.length_set]; omega)] at hj
          cases hj
      · rw [List.getElem?_set_ne e] at hj
        exact .inr ⟨fun z => e z.symm, hj⟩
    rcases f h1 with ⟨e1, e2⟩ | ⟨n1, g1⟩ <;> rcases f h2 with ⟨e3, e4⟩ | ⟨n2, g2⟩
    · rw [e1, e3]
    · subst e2
      exact absurd (hn _ _ g2) n2
    · subst e4
      exact absurd (hn _ _ g1) n1
    · exact S.inj j k a' _ _ g1 g2
  fre := fun b h => S.fre b (by
    cases q : H b with
    | none => rfl
    | some o =>
      by_cases z : b = a
      · rw [z, e] at h; cases h
      · rw [k b o z q] at h; cases h)
/-- an own list becomes frozen data -/
theorem StD.freeze (S : StD K F H0 H σ Γ) {i : Nat} {a : Addr} {xs : List PD} (h : Γ[i]? = some (.own a xs)) :
    ∃ H1, Ex H0 H1 ∧ (∀ b, b ≠ a → H1 b = H0 b) ∧ Dp K H1 (.ref a) (.list xs) ∧ StD K F H1 H σ (Γ.set i (.d (.list xs))) := by
  obtain ⟨p1, p2, vs, p3, p4⟩ := S.own i a xs h
  have e1 : Ex H0 (upd H0 a (.lst vs)) := fun b o hb => by
    rw [upd_ne (ne_of_none hb p2)]
    exact hb
  have hD : Dp K (upd H0 a (.lst vs)) (.ref a) (.list xs) := .lst (.inl (.inl upd_same)) (dpa_ex e1 _ _ p4)
  refine ⟨upd H0 a (.lst vs), e1, fun b hb => upd_ne hb, hD, ?_⟩
  have D := S.drop (i := i) (o := some (.ref a))
  have D1 : StD K F (upd H0 a (.lst vs)) H (σ.set i (some (.ref a))) (Γ.set i .no) :=
    { len := D.len
      ex := fun b o hb => by
        by_cases z : b = a
        · subst z
          rw [upd_same] at hb
          cases hb
          exact p3
        · rw [upd_ne z] at hb
          exact S.ex b o hb
      dat := fun j x hj => let ⟨v, q, r⟩ := D.dat j x hj; ⟨v, q, dp_ex e1 _ _ r⟩
      own := fun j b ys hj => by
        obtain ⟨q1, q2, ws, q3, q4⟩ := D.own j b ys hj
        refine ⟨q1, ?_, ws, q3, dpa_ex e1 _ _ q4⟩
        rw [upd_ne]
        · exact q2
        · intro z
          subst z
          have ji : i ≠ j := fun z => by
            subst z
            by_cases l : i < Γ.length
            · rw [List.getElem?_set_self (by exact l)] at hj
              cases hj
            · rw [List.getElem?_eq_none (by rw [List.length_set]; omega)] at hj
              cases hj
          rw [List.getElem?_set_ne ji] at hj
          exact ji (S.inj i j b xs ys h hj)
      inj := D.inj
      fre := D.fre }
  have D2 := D1.set (i := i) hD
  rw [List.set_set, List.set_set] at D2
  have es : σ.set i (some (.ref a)) = σ := by
    refine List.ext_getElem? fun j => ?_
    by_cases z : i = j
    · subst z
      rw [p1]
      have l : i < σ.length := (List.getElem?_eq_some_iff.mp p1).1
      exact List.getElem?_set_self l
    · exact List.getElem?_set_ne z
  rw [es] at D2
  exact D2
end
end Dl


set_option maxRecDepth 100000
set_option maxHeartbeats 2000000
namespace Dl
open PySem PySem.Spec PyProof.Rows L2
/-! ### // of whole numbers of any size -/
def seerB (K : PySem.W.Frag) : Bool :=
  PySem.W.nsOkIn K cStatics && (He.eqO (PySem.W.nsIn K cStatics "sys.audit-hooks") (some none) && (He.eqO (PySem.W.nsIn K cStatics "sys.dict") (some none) && (PySem.W.nsOkIn K sysModules && (He.eqO (PySem.W.nsIn K sysModules "_pylong") (some none) &&
    (match PySem.W.nsIn K mainGlobals "__builtins__" with
      | some (some (.ref bm)) => (match K.lookup bm with
        | some ob => decide (ob.cls = .type "module") && decide (ob.dict = some builtinsNs)
        | none => false)
      | _ => false)))))
theorem seer_of {K : PySem.W.Frag} {mg : Str → Option Value} {base : Heap} (h : seerB K = true) (M : Mod K mg base) : base.NoSeer := by
  obtain ⟨h1, h⟩ := He.ba h
  obtain ⟨h2, h⟩ := He.ba h
  obtain ⟨h3, h⟩ := He.ba h
  obtain ⟨h4, h⟩ := He.ba h
  obtain ⟨h5, h6⟩ := He.ba h
  refine ⟨⟨_, .of_isNs (PySem.W.isNs_of_in M.kin h1), PySem.W.nsMap_none_of_in M.kin h1 (He.eqO_ok h2), PySem.W.nsMap_none_of_in M.kin h1 (He.eqO_ok h3)⟩, ⟨_, .of_isNs (PySem.W.isNs_of_in M.kin h4), PySem.W.nsMap_none_of_in M.kin h4 (He.eqO_ok h5)⟩, M.blt, ?_⟩
  split at h6
  · rename_i bm e
    split at h6
    · rename_i ob e2
      obtain ⟨q1, q2⟩ := He.ba h6
      exact ⟨mg, bm, ob, M.glob, PySem.W.mg_of M.kin M.glob e, M.kin _ _ e2, of_decide_eq_true q1, of_decide_eq_true q2⟩
    · cases h6
  · cases h6
theorem op_fdivP {X : Cx} {e : Env} {l : List Env} (hst : X.stack = e :: l) (g1 : e.scope.isGenerator = false) (g2 : e.scope.isCoroutine = false) (g3 : e.builtins = builtinsNs) (g4 : e.globals = mainGlobals) (ht : X.prog.given.tree = none) (hd : X.A.depth + 100 < 1000) (hs : seerB X.K = true) :
    OpR X (binaryOp .FloorDiv) (rI (fun _ j => j ≠ 0) fun i j => .int (i.fdiv j)) := by
  intro pins s σ H x y v u Q I rx ry h
  obtain ⟨i, j, rfl, rfl, hc, q⟩ := h
  obtain ⟨t, rfl⟩ := rx
  obtain ⟨t', rfl⟩ := ry
  have N : s.heap.NoSeer := (seer_of hs I.mod).keeps I.bk
  exact floordiv_int hc ⟨.int _, H, I.tok _, ⟨_, rfl⟩, q⟩ (.inr (PySem.PylongRoom.of I.nolimit hd (PySem.SeerAt.of N ht (by rw [I.ok.frames, hst]) g1 g2 g3 g4)))

/-! ### the weakest readings -/
def wpE (X : Cx) (e : Expr) : TE := fun σ H Q => ∀ (pins : List (Addr × Obj)) (s : Shared), Inv X pins σ H s → wpAny (model X.prog X.w) X.A (eval e X.env) (EP X pins σ Q) X.xe s
theorem peW {X : Cx} {e : Expr} : PE X e (wpE X e) := ⟨fun pins s σ H Q I h => h pins s I⟩
def wpT (X : Cx) (e : Expr) : TT := fun σ H Q => ∀ (pins : List (Addr × Obj)) (s : Shared), Inv X pins σ H s → wpAny (model X.prog X.w) X.A (isTrue e X.env (eval e X.env)) (TP X pins σ Q) X.xe s
theorem ptW {X : Cx} {e : Expr} : PT X e (wpT X e) := ⟨fun pins s σ H Q I h => h pins s I⟩
def wpW (X : Cx) (e : Expr) : TT := fun σ H Q => ∀ (whole : Sem Value) (pins : List (Addr × Obj)) (s : Shared), Inv X pins σ H s → wpAny (model X.prog X.w) X.A (isTrue e X.env whole) (TP X pins σ Q) X.xe s
theorem pwW {X : Cx} {e : Expr} : PW X e (wpW X e) := ⟨fun whole pins s σ H Q I h => h whole pins s I⟩
def wpA (X : Cx) (es : List Expr) : TA := fun σ H Q => ∀ (pos : Pos) (pins : List (Addr × Obj)) (s : Shared), Inv X pins σ H s → wpAny (model X.prog X.w) X.A (spliced (backTo pos (starEach es X.env))) (AP X pins σ Q) X.xe s
theorem paW {X : Cx} {es : List Expr} : PA X es (wpA X es) := ⟨fun pos pins s σ H Q I h => h pos pins s I⟩
def wpS (X : Cx) (st : List Stmt) : TS := fun D σ H => ∀ (pins : List (Addr × Obj)) (s : Shared), Inv X pins σ H s → wpAny (model X.prog X.w) X.A (execs st X.env) (SP X pins D) X.xe s
theorem pssW {X : Cx} {st : List Stmt} : PSs X st (wpS X st) := ⟨fun pins s σ H D I h => h pins s I⟩
def wp1 (X : Cx) (st : Stmt) : TS := fun D σ H => ∀ (pins : List (Addr × Obj)) (s : Shared), Inv X pins σ H s → wpAny (model X.prog X.w) X.A (exec st X.env) (SP X pins D) X.xe s
theorem psW {X : Cx} {st : Stmt} : PS X st (wp1 X st) := ⟨fun pins s σ H D I h => h pins s I⟩

/-! ### big steps: expressions -/
def Sub (Γ' Γ : Gm) : Prop := ∀ b, IsOwn Γ' b → IsOwn Γ b
theorem Sub.refl {Γ : Gm} : Sub Γ Γ := fun _ h => h
theorem Sub.trans {A B C : Gm} (h : Sub A B) (h2 : Sub B C) : Sub A C := fun b x => h2 b (h b x)
theorem Sub.setD {Γ : Gm} {i : Nat} {x : PD} : Sub (Γ.set i (.d x)) Γ := fun b ⟨j, xs, e⟩ => by
  by_cases z : i = j
  · subst z
    by_cases l : i < Γ.length
    · rw [List.getElem?_set_self (by exact l)] at e; cases e
    · rw [List.getElem?_eq_none (by rw [List.length_set]; omega)] at e; cases e
  · rw [List.getElem?_set_ne z] at e
    exact ⟨j, xs, e⟩
theorem Sub.setNo {Γ : Gm} {i : Nat} : Sub (Γ.set i .no) Γ := fun b ⟨j, xs, e⟩ => by
  by_cases z : i = j
  · subst z
    by_cases l : i < Γ.length
    · rw [List.getElem?_set_self (by exact l)] at e; cases e
    · rw [List.getElem?_eq_none (by rw [List.length_set]; omega)] at e; cases e
  · rw [List.getElem?_set_ne z] at e
    exact ⟨j, xs, e⟩
/-- an own list's new items -/
theorem Sub.setOwn {Γ : Gm} {i : Nat} {a : Addr} {xs ys : List PD} (h : Γ[i]? = some (.own a xs)) : Sub (Γ.set i (.own a ys)) Γ := fun b ⟨j, zs, e⟩ => by
  by_cases z : i = j
  · subst z
    by_cases l : i < Γ.length
    · rw [List.getElem?_set_self (by exact l)] at e
      cases e
      exact ⟨i, xs, h⟩
    · rw [List.getElem?_eq_none (by rw [List.length_set]; omega)] at e; cases e
  · rw [List.getElem?_set_ne z] at e
    exact ⟨j, zs, e⟩

structure EvE (K : PySem.W.Frag) (F : Addr → Prop) (te : TE) (Γ Γ' : Gm) (x : PD) : Prop where
  sub : Sub Γ' Γ
  run : ∀ H0 σ H, StD K F H0 H σ Γ → ∀ Q : VK, (∀ v H0' H', Step (IsOwn Γ) H0 H H0' H' → StD K F H0' H' σ Γ' → Dp K H0' v x → Q v H') → te σ H Q
structure EvT (K : PySem.W.Frag) (F : Addr → Prop) (tt : TT) (Γ Γ' : Gm) (b : Bool) : Prop where
  sub : Sub Γ' Γ
  run : ∀ H0 σ H, StD K F H0 H σ Γ → ∀ Q : Bool → Hp → Prop, (∀ H0' H', Step (IsOwn Γ) H0 H H0' H' → StD K F H0' H' σ Γ' → Q b H') → tt σ H Q
/-- arguments: z: in the frozen part -/
structure EvA (K : PySem.W.Frag) (F : Addr → Prop) (z : Bool) (ta : TA) (Γ Γ' : Gm) (xs : List PD) : Prop where
  sub : Sub Γ' Γ
  run : ∀ H0 σ H, StD K F H0 H σ Γ → ∀ Q : List V → Hp → Prop, (∀ vs H0' H', Step (IsOwn Γ) H0 H H0' H' → StD K F H0' H' σ Γ' → DpAll K H' vs xs → (z = true → DpAll K H0' vs xs) → Q vs H') → ta σ H Q
/-- a new list -/
structure EvL (K : PySem.W.Frag) (F : Addr → Prop) (te : TE) (Γ Γ' : Gm) (xs : List PD) : Prop where
  sub : Sub Γ' Γ
  run : ∀ H0 σ H, StD K F H0 H σ Γ → ∀ Q : VK, (∀ p H0' H' vs, Step (IsOwn Γ) H0 H H0' H' → StD K F H0' H' σ Γ' → F p → H p = none → H0' p = none → ¬ IsOwn Γ' p → H' p = some (.lst vs) → DpAll K H0' vs xs → Q (.ref p) H') → te σ H Q
abbrev EX (X : Cx) (F : Addr → Prop) (e : Expr) (Γ Γ' : Gm) (x : PD) : Prop := EvE X.K F (wpE X e) Γ Γ' x
abbrev TX (X : Cx) (F : Addr → Prop) (e : Expr) (Γ Γ' : Gm) (b : Bool) : Prop := EvT X.K F (wpT X e) Γ Γ' b
abbrev WX' (X : Cx) (F : Addr → Prop) (e : Expr) (Γ Γ' : Gm) (b : Bool) : Prop := EvT X.K F (wpW X e) Γ Γ' b
abbrev EA (X : Cx) (F : Addr → Prop) (z : Bool) (es : List Expr) (Γ Γ' : Gm) (xs : List PD) : Prop := EvA X.K F z (wpA X es) Γ Γ' xs
abbrev EL (X : Cx) (F : Addr → Prop) (e : Expr) (Γ Γ' : Gm) (xs : List PD) : Prop := EvL X.K F (wpE X e) Γ Γ' xs
section
variable {X : Cx} {F : Addr → Prop} {Γ Γ1 Γ2 : Gm}
theorem ex_of {e : Expr} {te : TE} {x : PD} (h : PE X e te) (q : EvE X.K F te Γ Γ1 x) : EX X F e Γ Γ1 x := ⟨q.sub, fun H0 σ H S Q k pins s I => h.run pins s σ H Q I (q.run H0 σ H S Q k)⟩
theorem el_of {e : Expr} {te : TE} {xs : List PD} (h : PE X e te) (q : EvL X.K F te Γ Γ1 xs) : EL X F e Γ Γ1 xs := ⟨q.sub, fun H0 σ H S Q k pins s I => h.run pins s σ H Q I (q.run H0 σ H S Q k)⟩
theorem tx_of {e : Expr} {te : TT} {b : Bool} (h : PT X e te) (q : EvT X.K F te Γ Γ1 b) : TX X F e Γ Γ1 b := ⟨q.sub, fun H0 σ H S Q k pins s I => h.run pins s σ H Q I (q.run H0 σ H S Q k)⟩
theorem wx_of {e : Expr} {te : TT} {b : Bool} (h : PW X e te) (q : EvT X.K F te Γ Γ1 b) : WX' X F e Γ Γ1 b := ⟨q.sub, fun H0 σ H S Q k whole pins s I => h.run whole pins s σ H Q I (q.run H0 σ H S Q k)⟩
theorem ea_of {es : List Expr} {ta : TA} {z : Bool} {xs : List PD} (h : PA X es ta) (q : EvA X.K F z ta Γ Γ1 xs) : EA X F z es Γ Γ1 xs := ⟨q.sub, fun H0 σ H S Q k pos pins s I => h.run pos pins s σ H Q I (q.run H0 σ H S Q k)⟩
variable {K : PySem.W.Frag} {x y z : PD}
theorem sub_old (h : Sub Γ1 Γ) {H : Hp} : ∀ b, IsOwn Γ1 b → IsOwn Γ b ∨ H b = none := fun b q => .inl (h b q)

/-! ### names and constants -/
theorem ex_var (i : Nat) {n : Str} {pos : Pos} (h : Γ[i]? = some (.d x) := by rfl) (hN : X.N[i]? = some n := by rfl) (hv : Vis X.env.scope n := by first | exact Or.inl rfl | exact Or.inr (Or.inl rfl) | exact Or.inr (Or.inr rfl)) (hd : (n == ("__debug__" : Str)) = false := by decide)
    (hcd : (n == ("__classdict__" : Str)) = false := by decide) : EX X F (.Name n pos) Γ Γ x :=
  ex_of (pe_var hN hv hd hcd) ⟨Sub.refl, fun H0 σ H S Q k => by
    obtain ⟨v, e, q⟩ := S.dat i x h
    exact ⟨v, e, k v H0 H Step.refl S q⟩⟩
theorem ev_const {v : V} (h : ∀ H, Dp K H v x) : EvE K F (tC v) Γ Γ x := ⟨Sub.refl, fun H0 σ H S Q k => k v H0 H Step.refl S (h H0)⟩
theorem ex_int {n : Int} {j : Nat} {pos : Pos} : EX X F (.Constant (.int n) j pos) Γ Γ (.int n) := ex_of pe_int (ev_const fun _ => .int n)
theorem ex_bl {b : Bool} {j : Nat} {pos : Pos} : EX X F (.Constant (.bool b) j pos) Γ Γ (.bool b) := ex_of pe_bl (ev_const fun _ => .bl b)
theorem ex_non {j : Nat} {pos : Pos} : EX X F (.Constant .none j pos) Γ Γ .none := ex_of pe_non (ev_const fun _ => .non)
/-- a name of the module -/
theorem ex_glob {n : Str} {u : Value} {v : V} {pos : Pos} (hm : X.mg n = some u) (r : RelV v u) (h : ∀ H, Dp X.K H v x) (hg : Gl X n := by rfl) (hd : (n == ("__debug__" : Str)) = false := by decide) : EX X F (.Name n pos) Γ Γ x := ex_of (pe_glob hg hm r hd) (ev_const h)

/-! ### operators with results that lie nowhere -/
def RD (K : PySem.W.Frag) (r : R2) (x y z : PD) : Prop := ∀ (H : Hp) (v w : V), Dp K H v x → Dp K H w y → ∀ Q : VK, (∀ u, (∀ H0, Dp K H0 u z) → Q u H) → r v w H Q
theorem ev_op {r : R2} {ta tb : TE} (ha : EvE K F ta Γ Γ1 x) (hb : EvE K F tb Γ1 Γ2 y) (hr : RD K r x y z) : EvE K F (tOp r ta tb) Γ Γ2 z :=
  ⟨hb.sub.trans ha.sub, fun H0 σ H S Q k => ha.run H0 σ H S _ fun v A0 A sa S1 hv => hb.run A0 σ A S1 _ fun w B0 B sb S2 hw => hr B v w (dp_ex S2.ex _ _ (dp_ex sb.im _ _ hv)) (dp_ex S2.ex _ _ hw) Q fun u hu => k u B0 B (sa.trans sb (sub_old ha.sub)) S2 (hu B0)⟩
theorem ex_op {op : Operator} {r : R2} {a b : Expr} {pos : Pos} (ho : OpR X (binaryOp op) r) (hr : RD X.K r x y z) (ha : EX X F a Γ Γ1 x) (hb : EX X F b Γ1 Γ2 y) : EX X F (.BinOp a op b pos) Γ Γ2 z := ex_of (pe_op ho peW peW) (ev_op ha hb hr)
theorem ex_cmp {op : CmpOp} {r : R2} {a b : Expr} {pos : Pos} (ho : OpR X (compareOp op) r) (hr : RD X.K r x y z) (ha : EX X F a Γ Γ1 x) (hb : EX X F b Γ1 Γ2 y) (hm : behindInMarks op b = false := by first | exact nobehind _ (by decide) (by decide) | rfl) : EX X F (.Compare a [op] [b] pos) Γ Γ2 z := ex_of (pe_cmpR ho peW peW hm) (ev_op ha hb hr)
theorem tx_cmp {op : CmpOp} {r : R2} {a b : Expr} {c : Bool} {pos : Pos} (ho : OpR X (compareOp op) r) (hr : RD X.K r x y (.bool c)) (ha : EX X F a Γ Γ1 x) (hb : EX X F b Γ1 Γ2 y) (hm : behindInMarks op b = false := by first | exact nobehind _ (by decide) (by decide) | rfl) : TX X F (.Compare a [op] [b] pos) Γ Γ2 c :=
  tx_of (pt_cmpR ho peW peW hm) ⟨hb.sub.trans ha.sub, fun H0 σ H S Q k => (ev_op ha hb hr).run H0 σ H S _ fun v B0 B sb S2 hv => by cases hv; exact ⟨c, rfl, k B0 B sb S2⟩⟩
theorem rd_I {C : Int → Int → Prop} {g : Int → Int → Int} {i j : Int} (hc : C i j) : RD K (rI C fun i j => .int (g i j)) (.int i) (.int j) (.int (g i j)) := fun H v w h1 h2 Q k => by
  cases h1
  cases h2
  exact ⟨i, j, rfl, rfl, hc, k _ fun _ => .int _⟩
theorem rd_I0 {g : Int → Int → Int} {i j : Int} : RD K (rI0 fun i j => .int (g i j)) (.int i) (.int j) (.int (g i j)) := fun H v w h1 h2 Q k => by
  cases h1
  cases h2
  exact ⟨i, j, rfl, rfl, k _ fun _ => .int _⟩
theorem rd_B0 {g : Int → Int → Bool} {i j : Int} : RD K (rI0 fun i j => .bl (g i j)) (.int i) (.int j) (.bool (g i j)) := fun H v w h1 h2 Q k => by
  cases h1
  cases h2
  exact ⟨i, j, rfl, rfl, k _ fun _ => .bl _⟩
theorem ex_add {a b : Expr} {i j : Int} {pos : Pos} (ha : EX X F a Γ Γ1 (.int i)) (hb : EX X F b Γ1 Γ2 (.int j)) : EX X F (.BinOp a .Add b pos) Γ Γ2 (.int (i + j)) := ex_op op_add rd_I0 ha hb
theorem ex_sub {a b : Expr} {i j : Int} {pos : Pos} (ha : EX X F a Γ Γ1 (.int i)) (hb : EX X F b Γ1 Γ2 (.int j)) : EX X F (.BinOp a .Sub b pos) Γ Γ2 (.int (i - j)) := ex_op op_sub rd_I0 ha hb
/-- bounds in bits -/
def Bd (x : Int) (n : Nat) : Prop := x.natAbs < 2 ^ n
theorem ex_mul {a b : Expr} {i j : Int} {n m : Nat} {pos : Pos} (ha : EX X F a Γ Γ1 (.int i)) (hb : EX X F b Γ1 Γ2 (.int j)) (bi : Bd i n) (bj : Bd j m) (h : (n + 1) + (m + 1) ≤ 1000000) : EX X F (.BinOp a .Mult b pos) Γ Γ2 (.int (i * j)) :=
  ex_op op_mulW (rd_I (wide_mul (a := n + 1) (b := m + 1) (Nat.lt_of_lt_of_le bi (Nat.pow_le_pow_right (by decide) (Nat.le_succ _))) (Nat.lt_of_lt_of_le bj (Nat.pow_le_pow_right (by decide) (Nat.le_succ _))) (Nat.succ_pos _) (Nat.succ_pos _) h)) ha hb
theorem ex_mod {a b : Expr} {i j : Int} {pos : Pos} (ha : EX X F a Γ Γ1 (.int i)) (hb : EX X F b Γ1 Γ2 (.int j)) (h : 0 < j) : EX X F (.BinOp a .Mod b pos) Γ Γ2 (.int (i % j)) := ex_op op_mod (rd_I (C := fun _ j => 0 < j) h) ha hb
theorem ex_modN {a b : Expr} {i j : Int} {pos : Pos} (ha : EX X F a Γ Γ1 (.int i)) (hb : EX X F b Γ1 Γ2 (.int j)) (h : j ≠ 0) : EX X F (.BinOp a .Mod b pos) Γ Γ2 (.int (i.fmod j)) := ex_op op_modN (rd_I (C := fun _ j => j ≠ 0) h) ha hb
theorem ex_fdiv {a b : Expr} {i j : Int} {pos : Pos} (ha : EX X F a Γ Γ1 (.int i)) (hb : EX X F b Γ1 Γ2 (.int j)) (h : CDivW i j) : EX X F (.BinOp a .FloorDiv b pos) Γ Γ2 (.int (i / j)) := ex_op op_fdivW (rd_I h) ha hb
theorem ex_pow {a b : Expr} {i j : Int} {pos : Pos} (ha : EX X F a Γ Γ1 (.int i)) (hb : EX X F b Γ1 Γ2 (.int j)) (h : CPow i j) : EX X F (.BinOp a .Pow b pos) Γ Γ2 (.int (i ^ j.toNat)) := ex_op op_pow (rd_I h) ha hb
/-- what // of great numbers asks of the place -/
structure Wd (X : Cx) : Prop where
  ht : X.prog.given.tree = none
  hd : X.A.depth + 100 < 1000
  hs : seerB X.K = true
  fr : ∃ e l, X.stack = e :: l ∧ e.scope.isGenerator = false ∧ e.scope.isCoroutine = false ∧ e.builtins = builtinsNs ∧ e.globals = mainGlobals
theorem ex_fdivP {a b : Expr} {i j : Int} {pos : Pos} (w : Wd X) (ha : EX X F a Γ Γ1 (.int i)) (hb : EX X F b Γ1 Γ2 (.int j)) (h : j ≠ 0) : EX X F (.BinOp a .FloorDiv b pos) Γ Γ2 (.int (i.fdiv j)) := by
  obtain ⟨e, l, h1, h2, h3, h4, h5⟩ := w.fr
  exact ex_op (op_fdivP h1 h2 h3 h4 h5 w.ht w.hd w.hs) (rd_I (C := fun _ j => j ≠ 0) h) ha hb
theorem rd_eq (s1 : SeqAt.shaped x = true) (s2 : SeqAt.shaped y = true) : RD K (rEqD K) x y (.bool (PyData.eqv x y)) := fun H v w h1 h2 Q k => ⟨x, y, h1, h2, s1, s2, k _ fun _ => .bl _⟩
theorem rd_ne (s1 : SeqAt.shaped x = true) (s2 : SeqAt.shaped y = true) : RD K (rNeD K) x y (.bool (!PyData.eqv x y)) := fun H v w h1 h2 Q k => ⟨x, y, h1, h2, s1, s2, k _ fun _ => .bl _⟩
theorem rd_isN : RD K (fun v w H Q => w = .non ∧ Q (.bl (decide (v = .non))) H) x .none (.bool (match x with | .none => true | _ => false)) := fun H v w h1 h2 Q k => by
  cases h2
  refine ⟨rfl, k _ fun H0 => ?_⟩
  cases h1 <;> exact .bl _
theorem rd_notN : RD K (fun v w H Q => w = .non ∧ Q (.bl (!decide (v = .non))) H) x .none (.bool (match x with | .none => false | _ => true)) := fun H v w h1 h2 Q k => by
  cases h2
  refine ⟨rfl, k _ fun H0 => ?_⟩
  cases h1 <;> exact .bl _
theorem rd_notB {a b : Bool} : RD K rNotB (.bool a) (.bool b) (.bool (!decide (a = b))) := fun H v w h1 h2 Q k => by
  cases h1
  cases h2
  exact ⟨a, b, rfl, rfl, k _ fun _ => .bl _⟩

/-! ### and, or, not -/
theorem ex_not {a : Expr} {b : Bool} {pos : Pos} (ha : EX X F a Γ Γ1 (.bool b)) : EX X F (.UnaryOp .Not a pos) Γ Γ1 (.bool (!b)) :=
  ex_of (pe_not peW) ⟨ha.sub, fun H0 σ H S Q k => ha.run H0 σ H S _ fun v A0 A sa S1 hv => by cases hv; exact ⟨b, rfl, k _ A0 A sa S1 (.bl _)⟩⟩
theorem ex_one {op : BoolOp} {a : Expr} {pos : Pos} (ha : EX X F a Γ Γ1 x) : EX X F (.BoolOp op [a] pos) Γ Γ1 x := ex_of (pe_one peW) ha
theorem ex_andT {a b : Expr} {rest : List Expr} {pos : Pos} (ha : EX X F a Γ Γ1 (.bool true)) (hb : EX X F (.BoolOp .And (b :: rest) pos) Γ1 Γ2 x) : EX X F (.BoolOp .And (a :: b :: rest) pos) Γ Γ2 x :=
  ex_of (pe_and peW peW) ⟨hb.sub.trans ha.sub, fun H0 σ H S Q k => ha.run H0 σ H S _ fun v A0 A sa S1 hv => by
    cases hv
    exact ⟨true, rfl, iteT (hb.run A0 σ A S1 Q fun w B0 B sb S2 hw => k w B0 B (sa.trans sb (sub_old ha.sub)) S2 hw)⟩⟩
theorem ex_andF {a b : Expr} {rest : List Expr} {pos : Pos} (ha : EX X F a Γ Γ1 (.bool false)) : EX X F (.BoolOp .And (a :: b :: rest) pos) Γ Γ1 (.bool false) :=
  ex_of (pe_and peW peW) ⟨ha.sub, fun H0 σ H S Q k => ha.run H0 σ H S _ fun v A0 A sa S1 hv => by
    cases hv
    exact ⟨false, rfl, iteF (k _ A0 A sa S1 (.bl false))⟩⟩
theorem tx_val {e : Expr} {b : Bool} (h : EX X F e Γ Γ1 (.bool b)) (he : ∀ whole, isTrue e X.env whole = (do let v ← whole; standAt e.pos; holding [v] (truthy v)) := by intro _; rfl) : TX X F e Γ Γ1 b :=
  tx_of (pt_val peW he) ⟨h.sub, fun H0 σ H S Q k => h.run H0 σ H S _ fun v A0 A sa S1 hv => by cases hv; exact ⟨b, rfl, k A0 A sa S1⟩⟩
theorem tx_not {e : Expr} {b : Bool} {pos : Pos} (h : TX X F e Γ Γ1 b) : TX X F (.UnaryOp .Not e pos) Γ Γ1 (!b) := tx_of (pt_not ptW) ⟨h.sub, fun H0 σ H S Q k => h.run H0 σ H S _ fun A0 A sa S1 => k A0 A sa S1⟩
theorem tx_w {e : Expr} {b : Bool} (h : WX' X F e Γ Γ1 b) : TX X F e Γ Γ1 b := tx_of (pwW.pt) h
theorem wx_and1 {a : Expr} {b : Bool} {pos : Pos} (h : TX X F a Γ Γ1 b) : WX' X F (.BoolOp .And [a] pos) Γ Γ1 b := wx_of (pw_and1 ptW) h
theorem wx_or1 {a : Expr} {b : Bool} {pos : Pos} (h : TX X F a Γ Γ1 b) : WX' X F (.BoolOp .Or [a] pos) Γ Γ1 b := wx_of (pw_or1 ptW) h
theorem wx_andT {a b : Expr} {rest : List Expr} {c : Bool} {pos : Pos} (h : TX X F a Γ Γ1 true) (h2 : WX' X F (.BoolOp .And (b :: rest) pos) Γ1 Γ2 c) : WX' X F (.BoolOp .And (a :: b :: rest) pos) Γ Γ2 c :=
  wx_of (pw_and ptW pwW) ⟨h2.sub.trans h.sub, fun H0 σ H S Q k => h.run H0 σ H S _ fun A0 A sa S1 => iteT (h2.run A0 σ A S1 Q fun B0 B sb S2 => k B0 B (sa.trans sb (sub_old h.sub)) S2)⟩
theorem wx_andF {a b : Expr} {rest : List Expr} {pos : Pos} (h : TX X F a Γ Γ1 false) : WX' X F (.BoolOp .And (a :: b :: rest) pos) Γ Γ1 false :=
  wx_of (pw_and ptW pwW) ⟨h.sub, fun H0 σ H S Q k => h.run H0 σ H S _ fun A0 A sa S1 => iteF (k A0 A sa S1)⟩
theorem wx_orT {a b : Expr} {rest : List Expr} {pos : Pos} (h : TX X F a Γ Γ1 true) : WX' X F (.BoolOp .Or (a :: b :: rest) pos) Γ Γ1 true :=
  wx_of (pw_or ptW pwW) ⟨h.sub, fun H0 σ H S Q k => h.run H0 σ H S _ fun A0 A sa S1 => iteT (k A0 A sa S1)⟩
theorem wx_orF {a b : Expr} {rest : List Expr} {c : Bool} {pos : Pos} (h : TX X F a Γ Γ1 false) (h2 : WX' X F (.BoolOp .Or (b :: rest) pos) Γ1 Γ2 c) : WX' X F (.BoolOp .Or (a :: b :: rest) pos) Γ Γ2 c :=
  wx_of (pw_or ptW pwW) ⟨h2.sub.trans h.sub, fun H0 σ H S Q k => h.run H0 σ H S _ fun A0 A sa S1 => iteF (h2.run A0 σ A S1 Q fun B0 B sb S2 => k B0 B (sa.trans sb (sub_old h.sub)) S2)⟩

/-! ### arguments, displays -/
theorem ea_nil {z : Bool} : EA X F z [] Γ Γ [] := ea_of pa_nil ⟨Sub.refl, fun H0 σ H S Q k => k [] H0 H Step.refl S .nil fun _ => .nil⟩
theorem ea_cons {z : Bool} {e : Expr} {es : List Expr} {xs : List PD} (h : EX X F e Γ Γ1 x) (h2 : EA X F z es Γ1 Γ2 xs) (hs : starEach (e :: es) X.env = (false, eval e X.env) :: starEach es X.env := by rfl) : EA X F z (e :: es) Γ Γ2 (x :: xs) :=
  ea_of (pa_cons peW paW hs) ⟨h2.sub.trans h.sub, fun H0 σ H S Q k => h.run H0 σ H S _ fun v A0 A sa S1 hv => h2.run A0 σ A S1 _ fun vs B0 B sb S2 hvs hz => k _ B0 B (sa.trans sb (sub_old h.sub)) S2 (.cons (dp_ex S2.ex _ _ (dp_ex sb.im _ _ hv)) hvs) fun q => .cons (dp_ex sb.im _ _ hv) (hz q)⟩
/-- an own list as an argument, to be read -/
theorem ea_consO {e : Expr} {es : List Expr} {xs : List PD} {n : Str} {pos : Pos} {a : Addr} {ys : List PD} (i : Nat) (h2 : EA X F false es Γ Γ2 xs) (hG : Γ[i]? = some (.own a ys) := by rfl) (hG2 : Γ2[i]? = some (.own a ys) := by rfl) (hN : X.N[i]? = some n := by rfl) (hv : Vis X.env.scope n := by first | exact Or.inl rfl | exact Or.inr (Or.inl rfl) | exact Or.inr (Or.inr rfl))
    (hd : (n == ("__debug__" : Str)) = false := by decide) (hcd : (n == ("__classdict__" : Str)) = false := by decide) (hs : starEach (.Name n pos :: es) X.env = (false, eval (.Name n pos) X.env) :: starEach es X.env := by rfl) : EA X F false (.Name n pos :: es) Γ Γ2 (.list ys :: xs) :=
  ea_of (pa_cons (pe_var hN hv hd hcd) paW hs) ⟨h2.sub, fun H0 σ H S Q k => by
    obtain ⟨p1, p2, vs, p3, p4⟩ := S.own i a ys hG
    refine ⟨_, p1, h2.run H0 σ H S _ fun ws B0 B sb S2 hws _ => k _ B0 B sb S2 (.cons ?_ hws) fun q => nomatch q⟩
    obtain ⟨q1, q2, us, q3, q4⟩ := S2.own i a ys hG2
    exact .lst (.inl (.inl q3)) (dpa_ex S2.ex _ _ q4)⟩
/-- a new list as an argument, to be read -/
theorem ea_consL {e : Expr} {es : List Expr} {xs ys : List PD} (h : EL X F e Γ Γ1 ys) (h2 : EA X F false es Γ1 Γ2 xs) (hs : starEach (e :: es) X.env = (false, eval e X.env) :: starEach es X.env := by rfl) : EA X F false (e :: es) Γ Γ2 (.list ys :: xs) :=
  ea_of (pa_cons peW paW hs) ⟨h2.sub.trans h.sub, fun H0 σ H S Q k => h.run H0 σ H S _ fun p A0 A vs sa S1 fp hp h0 no hA hvs => h2.run A0 σ A S1 _ fun ws B0 B sb S2 hws _ => k _ B0 B (sa.trans sb (sub_old h.sub)) S2 (.cons (.lst (.inl (.inl (sb.fr p _ no hA))) (dpa_ex S2.ex _ _ (dpa_ex sb.im _ _ hvs))) hws) fun q => nomatch q⟩
theorem lay_tup {H0 H : Hp} {σ : L2.St} {p : Addr} {vs : List V} {xs : List PD} (S : StD K F H0 H σ Γ) (hp : H p = none) (hv : DpAll K H0 vs xs) {ow : Addr → Prop} :
    Step ow H0 H (upd H0 p (.tup vs)) (upd H p (.tup vs)) ∧ StD K F (upd H0 p (.tup vs)) (upd H p (.tup vs)) σ Γ ∧ Dp K (upd H0 p (.tup vs)) (.ref p) (.tuple xs) := by
  have h0 : H0 p = none := Evl.fresh_back S.ex hp
  have e0 : Ex H0 (upd H0 p (.tup vs)) := Evl.Ex.new h0
  have e1 : Ex H (upd H p (.tup vs)) := Evl.Ex.new hp
  have no : ∀ b xs', H b = some (.lst xs') → H0 b = none → upd H0 p (.tup vs) b = none := fun b xs' hb z => by
    rw [upd_ne (ne_of_none hb hp)]
    exact z
  refine ⟨Step.grow e1 _ e0 no, S.grow e1 e0 (fun b o hb => ?_) no, .tup (.inl (.inl upd_same)) (dpa_ex e0 _ _ hv)⟩
  by_cases z : b = p
  · subst z
    rw [upd_same] at hb
    rw [upd_same]
    exact hb
  · rw [upd_ne z] at hb
    rw [upd_ne z]
    exact S.ex b o hb
theorem ex_tup {es : List Expr} {xs : List PD} {x1 : Nat} {pos : Pos} (h : EA X F true es Γ Γ1 xs) (hl : xs.length ≤ 100000 := by exact Nat.le_of_ble_eq_true rfl) : EX X F (.Tuple es x1 pos) Γ Γ1 (.tuple xs) :=
  ex_of (pe_tup paW) ⟨h.sub, fun H0 σ H S Q k => h.run H0 σ H S _ fun vs A0 A sa S1 hvs hz => ⟨Evl.sz_of (by rw [dpa_len hvs]; exact hl), fun p hp => by
    obtain ⟨s2, S2, d⟩ := lay_tup (ow := IsOwn Γ1) S1 hp (hz rfl)
    exact k _ _ _ (sa.trans s2 (sub_old h.sub)) S2 d⟩⟩
theorem not_own {H0 H : Hp} {σ : L2.St} {p : Addr} (S : StD K F H0 H σ Γ) (hp : H p = none) : ¬ IsOwn Γ p := fun ⟨i, xs, e⟩ => by
  obtain ⟨_, _, vs, q, _⟩ := S.own i p xs e
  rw [hp] at q
  cases q
theorem lay_lst {H0 H : Hp} {σ : L2.St} {p : Addr} {vs : List V} (S : StD K F H0 H σ Γ) (hp : H p = none) {ow : Addr → Prop} :
    Step ow H0 H H0 (upd H p (.lst vs)) ∧ StD K F H0 (upd H p (.lst vs)) σ Γ :=
  ⟨Step.grow (Evl.Ex.new hp) _ (fun _ _ h => h) (fun _ _ _ z => z), S.grow (Evl.Ex.new hp) (fun _ _ h => h) (fun b o hb => Evl.Ex.new hp b o (S.ex b o hb)) (fun _ _ _ z => z)⟩
theorem el_lst {es : List Expr} {xs : List PD} {pos : Pos} (h : EA X F true es Γ Γ1 xs) (hl : xs.length ≤ 100000 := by exact Nat.le_of_ble_eq_true rfl) : EL X F (.List es pos) Γ Γ1 xs :=
  el_of (pe_lst paW) ⟨h.sub, fun H0 σ H S Q k => h.run H0 σ H S _ fun vs A0 A sa S1 hvs hz => ⟨Evl.sz_of (by rw [dpa_len hvs]; exact hl), fun p hp => by
    obtain ⟨s2, S2⟩ := lay_lst (ow := IsOwn Γ1) (vs := vs) S1 hp
    have hpH : H p = none := by
      cases q : H p with
      | none => rfl
      | some o => exact absurd hp (sa.dm p (by rw [q]; exact fun z => nomatch z))
    exact k p _ _ vs (sa.trans s2 (sub_old h.sub)) S2 (S1.fre p hp) hpH (Evl.fresh_back S1.ex hp) (not_own S1 hp) upd_same (hz rfl)⟩⟩
end
end Dl


set_option maxRecDepth 100000
set_option maxHeartbeats 2000000
namespace Dl
open PySem PySem.Spec PyProof.Rows L2
theorem bools_of {K : PySem.W.Frag} {H : Hp} : ∀ (bs : List Bool) (vs : List V), DpAll K H vs (bs.map PyData.bool) → vs = bs.map V.bl
  | [], _, h => by cases h; rfl
  | b :: bs, _, h => by
    cases h with
    | cons g1 g2 =>
      cases g1
      rw [bools_of bs _ g2]
      rfl
section
variable {X : Cx} {F : Addr → Prop} {Γ Γ1 Γ2 : Gm} {x y z : PD} {a b : Expr} {pos : Pos}
/-! ### items -/
theorem atI_of {α : Type} {vs : List α} {i : Int} {v : α} (h0 : 0 ≤ i) (h : vs[i.toNat]? = some v) : atI vs i = some v := by
  have e : i = ((i.toNat : Nat) : Int) := by omega
  rw [e]
  exact atI_nat h
theorem ex_ixT {ds : List PD} {i : Int} (ha : EX X F a Γ Γ1 (.tuple ds)) (hb : EX X F b Γ1 Γ2 (.int i)) (h : ds[i.toNat]? = some x := by rfl) (h0 : 0 ≤ i := by decide) (hs : PlainIx b := by exact fun _ _ => rfl) : EX X F (.Subscript a b pos) Γ Γ2 x :=
  ex_of (pe_ix ix_tup peW peW hs) ⟨hb.sub.trans ha.sub, fun H0 σ H S Q k => ha.run H0 σ H S _ fun v A0 A sa S1 hv => hb.run A0 σ A S1 _ fun w B0 B sb S2 hw => by
    cases hw
    cases dp_ex sb.im _ _ hv with
    | @tup p xs _ hp hd =>
      obtain ⟨u, e, q⟩ := dpa_get hd h
      exact ⟨p, xs, i, u, rfl, rfl, Evl.ex_t S2.ex hp, atI_of h0 e, k u B0 B (sa.trans sb (sub_old ha.sub)) S2 q⟩⟩
theorem ex_ixL {ds : List PD} {i : Int} (ha : EX X F a Γ Γ1 (.list ds)) (hb : EX X F b Γ1 Γ2 (.int i)) (h : ds[i.toNat]? = some x := by rfl) (h0 : 0 ≤ i := by decide) (hs : PlainIx b := by exact fun _ _ => rfl) : EX X F (.Subscript a b pos) Γ Γ2 x :=
  ex_of (pe_ix ix_list peW peW hs) ⟨hb.sub.trans ha.sub, fun H0 σ H S Q k => ha.run H0 σ H S _ fun v A0 A sa S1 hv => hb.run A0 σ A S1 _ fun w B0 B sb S2 hw => by
    cases hw
    cases dp_ex sb.im _ _ hv with
    | @lst p xs _ hp hd =>
      obtain ⟨u, e, q⟩ := dpa_get hd h
      exact ⟨p, xs, i, u, rfl, rfl, Evl.ex_l S2.ex hp, atI_of h0 e, k u B0 B (sa.trans sb (sub_old ha.sub)) S2 q⟩⟩
/-- an item of a new list -/
theorem ex_ixN {ds : List PD} {i : Int} (ha : EL X F a Γ Γ1 ds) (hb : EX X F b Γ1 Γ2 (.int i)) (h : ds[i.toNat]? = some x := by rfl) (h0 : 0 ≤ i := by decide) (hs : PlainIx b := by exact fun _ _ => rfl) : EX X F (.Subscript a b pos) Γ Γ2 x :=
  ex_of (pe_ix ix_list peW peW hs) ⟨hb.sub.trans ha.sub, fun H0 σ H S Q k => ha.run H0 σ H S _ fun p A0 A vs sa S1 fp hp h0' no hA hd => hb.run A0 σ A S1 _ fun w B0 B sb S2 hw => by
    cases hw
    obtain ⟨u, e, q⟩ := dpa_get (dpa_ex sb.im _ _ hd) h
    exact ⟨p, vs, i, u, rfl, rfl, .inl (.inl (sb.fr p _ no hA)), atI_of h0 e, k u B0 B (sa.trans sb (sub_old ha.sub)) S2 q⟩⟩
/-- an item of an own list -/
theorem ex_ixO {ds : List PD} {i : Int} {o : Addr} {n : Str} {p1 : Pos} (j : Nat) (hb : EX X F b Γ Γ2 (.int i)) (hG : Γ[j]? = some (.own o ds) := by rfl) (hG2 : Γ2[j]? = some (.own o ds) := by rfl) (h : ds[i.toNat]? = some x := by rfl) (h0 : 0 ≤ i := by decide) (hs : PlainIx b := by exact fun _ _ => rfl)
    (hN : X.N[j]? = some n := by rfl) (hv : Vis X.env.scope n := by first | exact Or.inl rfl | exact Or.inr (Or.inl rfl) | exact Or.inr (Or.inr rfl)) (hd : (n == ("__debug__" : Str)) = false := by decide) (hcd : (n == ("__classdict__" : Str)) = false := by decide) : EX X F (.Subscript (.Name n p1) b pos) Γ Γ2 x :=
  ex_of (pe_ix ix_list (pe_var hN hv hd hcd) peW hs) ⟨hb.sub, fun H0 σ H S Q k => by
    obtain ⟨q1, _⟩ := S.own j o ds hG
    refine ⟨_, q1, hb.run H0 σ H S _ fun w B0 B sb S2 hw => ?_⟩
    cases hw
    obtain ⟨_, _, vs, r3, r4⟩ := S2.own j o ds hG2
    obtain ⟨u, e, q⟩ := dpa_get r4 h
    exact ⟨o, vs, i, u, rfl, rfl, .inl (.inl r3), atI_of h0 e, k u B0 B sb S2 q⟩⟩
/-- t[1:] of four -/
theorem ex_tail4 {d1 d2 d3 d4 : PD} {p1 p2 p3 : Pos} {k1 : Nat} (ha : EX X F a Γ Γ1 (.tuple [d1, d2, d3, d4])) : EX X F (.Subscript a (.Slice (some (.Constant (.int 1) k1 p1)) none none p2) p3) Γ Γ1 (.tuple [d2, d3, d4]) :=
  ex_of (pe_slice sl_tup peW (po_some pe_int) po_none) ⟨ha.sub, fun H0 σ H S Q k => ha.run H0 σ H S _ fun v A0 A sa S1 hv => by
    cases hv with
    | @tup p xs _ hp hd =>
      cases hd with
      | cons g1 hd =>
        cases hd with
        | cons g2 hd =>
          cases hd with
          | cons g3 hd =>
            cases hd with
            | cons g4 hd =>
              cases hd
              refine ⟨1, rfl, p, _, rfl, Evl.ex_t S1.ex hp, fun h => absurd h.1 (by show ¬ (HT.sIx 4 0 (some 1) = 0); decide), fun q hq => ?_⟩
              obtain ⟨s2, S2, d⟩ := lay_tup (ow := IsOwn Γ1) S1 hq (.cons g2 (.cons g3 (.cons g4 .nil)))
              exact k _ _ _ (sa.trans s2 (sub_old ha.sub)) S2 d⟩
/-- two tuples, neither empty -/
theorem ex_cat {ds es : List PD} (ha : EX X F a Γ Γ1 (.tuple ds)) (hb : EX X F b Γ1 Γ2 (.tuple es)) (hd : ds ≠ [] := by exact fun z => nomatch z) (he : es ≠ [] := by exact fun z => nomatch z) (hl : ds.length + es.length ≤ 100000 := by exact Nat.le_of_ble_eq_true rfl) : EX X F (.BinOp a .Add b pos) Γ Γ2 (.tuple (ds ++ es)) :=
  ex_of (pe_op op_catA peW peW) ⟨hb.sub.trans ha.sub, fun H0 σ H S Q k => ha.run H0 σ H S _ fun v A0 A sa S1 hv => hb.run A0 σ A S1 _ fun w B0 B sb S2 hw => by
    cases dp_ex sb.im _ _ hv with
    | @tup p xs _ hp hxs =>
      cases hw with
      | @tup q ys _ hq hys =>
        have l1 := dpa_len hxs
        have l2 := dpa_len hys
        have n1 : xs ≠ [] := fun z => hd (by rw [z] at l1; exact List.length_eq_zero_iff.mp l1.symm)
        have n2 : ys ≠ [] := fun z => he (by rw [z] at l2; exact List.length_eq_zero_iff.mp l2.symm)
        refine ⟨p, q, xs, ys, rfl, rfl, Evl.ex_t S2.ex hp, Evl.ex_t S2.ex hq, Evl.sz_of (by rw [l1, l2]; exact hl), fun z => absurd z n1, fun _ z => absurd z n2, fun _ _ r hr => ?_⟩
        obtain ⟨s3, S3, d⟩ := lay_tup (ow := IsOwn Γ2) S2 hr (dpa_app hxs hys)
        exact k _ _ _ ((sa.trans sb (sub_old ha.sub)).trans s3 (sub_old (hb.sub.trans ha.sub))) S3 d⟩

/-! ### calls of what Python brings -/
theorem ex_len {ds : List PD} {p1 : Pos} (m : X.mg "len" = none) (ha : EX X F a Γ Γ1 x) (hx : x = .tuple ds ∨ x = .list ds) (hg : Gl X "len" := by rfl) (he : starEach [a] X.env = (false, eval a X.env) :: starEach [] X.env := by rfl) : EX X F (.Call (.Name "len" p1) [a] [] pos) Γ Γ1 (.int (ds.length : Int)) :=
  ex_of (pe_callB call_len_seq hg m boot_len (pa_cons peW pa_nil he) (he := he)) ⟨ha.sub, fun H0 σ H S Q k => ha.run H0 σ H S _ fun v A0 A sa S1 hv => by
    rcases hx with rfl | rfl
    · cases hv with
      | @tup p xs _ hp hd =>
        refine ⟨p, xs, rfl, .inr (Evl.ex_t S1.ex hp), ?_⟩
        rw [dpa_len hd]
        exact k _ A0 A sa S1 (.int _)
    · cases hv with
      | @lst p xs _ hp hd =>
        refine ⟨p, xs, rfl, .inl (Evl.ex_l S1.ex hp), ?_⟩
        rw [dpa_len hd]
        exact k _ A0 A sa S1 (.int _)⟩
theorem ex_abs {n : Int} {p1 : Pos} (m : X.mg "abs" = none) (ha : EX X F a Γ Γ1 (.int n)) (hg : Gl X "abs" := by rfl) (he : starEach [a] X.env = (false, eval a X.env) :: starEach [] X.env := by rfl) : EX X F (.Call (.Name "abs" p1) [a] [] pos) Γ Γ1 (.int (n.natAbs : Int)) :=
  ex_of (pe_callB call_abs hg m (by decide +kernel) (pa_cons peW pa_nil he) (he := he)) ⟨ha.sub, fun H0 σ H S Q k => ha.run H0 σ H S _ fun v A0 A sa S1 hv => by
    cases hv
    refine ⟨n, rfl, ?_⟩
    have e : (if n < 0 then -n else n) = (n.natAbs : Int) := by split <;> omega
    rw [e]
    exact k _ A0 A sa S1 (.int _)⟩
theorem ex_tuple {ds : List PD} {p1 : Pos} (m : X.mg "tuple" = none) (ha : EL X F a Γ Γ1 ds) (hg : Gl X "tuple" := by rfl) (he : starEach [a] X.env = (false, eval a X.env) :: starEach [] X.env := by rfl) : EX X F (.Call (.Name "tuple" p1) [a] [] pos) Γ Γ1 (.tuple ds) :=
  ex_of (pe_callTy call_tuple_of hg m boot_tuple (pa_cons peW pa_nil he) (he := he)) ⟨ha.sub, fun H0 σ H S Q k => ha.run H0 σ H S _ fun p A0 A vs sa S1 fp hp h0 no hA hd => ⟨p, vs, rfl, .inl ⟨.inl (.inl hA), fun l hl => by
    obtain ⟨s2, S2, d⟩ := lay_tup (ow := IsOwn Γ1) S1 hl hd
    exact k _ _ _ (sa.trans s2 (sub_old ha.sub)) S2 d⟩⟩⟩
theorem ex_all {bs : List Bool} {p1 : Pos} (m : X.mg "all" = none) (hc : X.calm = true) (ha : EL X F a Γ Γ1 (bs.map PyData.bool)) (hg : Gl X "all" := by rfl) (he : starEach [a] X.env = (false, eval a X.env) :: starEach [] X.env := by rfl) : EX X F (.Call (.Name "all" p1) [a] [] pos) Γ Γ1 (.bool (bs.all id)) :=
  ex_of (pe_callB (cr_all hc) hg m (by decide +kernel) (pa_cons peW pa_nil he) (he := he)) ⟨ha.sub, fun H0 σ H S Q k => ha.run H0 σ H S _ fun p A0 A vs sa S1 fp hp h0 no hA hd => by
    have e := bools_of bs vs hd
    subst e
    exact ⟨p, bs, rfl, .inl (.inl hA), k _ A0 A sa S1 (.bl _)⟩⟩
/-- list(x): a new list -/
theorem el_list {ds : List PD} {p1 : Pos} (m : X.mg "list" = none) (ha : EX X F a Γ Γ1 x) (hx : x = .tuple ds ∨ x = .list ds) (hg : Gl X "list" := by rfl) (he : starEach [a] X.env = (false, eval a X.env) :: starEach [] X.env := by rfl) : EL X F (.Call (.Name "list" p1) [a] [] pos) Γ Γ1 ds :=
  el_of (pe_callTy call_list_of hg m boot_list (pa_cons peW pa_nil he) (he := he)) ⟨ha.sub, fun H0 σ H S Q k => ha.run H0 σ H S _ fun v A0 A sa S1 hv => by
    have go : ∀ (vs : List V) (l : Addr), A l = none → DpAll X.K A0 vs ds → Q (.ref l) (upd A l (.lst vs)) := fun vs l hl hd => by
      obtain ⟨s2, S2⟩ := lay_lst (ow := IsOwn Γ1) (vs := vs) S1 hl
      have hpH : H l = none := by
        cases q : H l with
        | none => rfl
        | some o => exact absurd hl (sa.dm l (by rw [q]; exact fun z => nomatch z))
      exact k l _ _ vs (sa.trans s2 (sub_old ha.sub)) S2 (S1.fre l hl) hpH (Evl.fresh_back S1.ex hl) (not_own S1 hl) upd_same hd
    rcases hx with rfl | rfl
    · cases hv with
      | @tup p xs _ hp hd => exact ⟨p, xs, rfl, .inr (Evl.ex_t S1.ex hp), fun l hl => go xs l hl hd⟩
    · cases hv with
      | @lst p xs _ hp hd => exact ⟨p, xs, rfl, .inl (Evl.ex_l S1.ex hp), fun l hl => go xs l hl hd⟩⟩
/-- which built-in type a datum has -/
def tyD : PD → String
  | .none => "NoneType"
  | .bool _ => "bool"
  | .int _ => "int"
  | .str _ => "str"
  | .list _ => "list"
  | .tuple _ => "tuple"
  | .dict _ => "dict"
theorem tyx_of {K : PySem.W.Frag} {H : Hp} {v : V} {d : PD} (h : Dp K H v d) : TyX K H v (.type (tyD d)) := by
  cases h with
  | non => exact .base .non
  | bl b => exact .base (.bl b)
  | int i => exact .base (.int i)
  | str x => exact .base (.str x)
  | lst hs _ =>
    rcases hs with (hs | ⟨o, hs⟩) | ⟨o, its, n, e, c, _⟩
    · exact .base (.lst hs)
    · exact .base (.frz hs)
    · exact .kList e c
  | tup hs _ =>
    rcases hs with (hs | ⟨o, hs⟩) | ⟨o, its, n, e, c, _⟩
    · exact .base (.tup hs)
    · exact .fTuple hs
    · exact .kTuple e c
theorem ex_isi {T : Str} {t : String} {r : Bool} {p1 p2 : Pos} (m : X.mg "isinstance" = none) (mt : X.mg T = none) (bt : bootBuiltins T = some (.type t)) (ha : EX X F a Γ Γ1 x) (hk : kitB (tyD x) t = some r) (hg : Gl X "isinstance" := by rfl) (hgt : Gl X T := by rfl)
    (he : starEach [a, .Name T p2] X.env = (false, eval a X.env) :: starEach [.Name T p2] X.env := by rfl) (he2 : starEach [.Name T p2] X.env = (false, eval (.Name T p2) X.env) :: starEach [] X.env := by rfl) (hpl : (backTo pos (starEach [.Name T p2] X.env)).any (·.1) = false := by rfl) (hn : T ≠ "__name__" := by decide) (hdb : (T == ("__debug__" : Str)) = false := by decide) :
    EX X F (.Call (.Name "isinstance" p1) [a, .Name T p2] [] pos) Γ Γ1 (.bool r) :=
  ex_of (pe_callB call_isi hg m boot_isinstance (pa_cons peW (pa_cons (pe_bltn (v := .ty t) hgt mt bt rfl hn hdb) pa_nil he2) he) (he := he) (hpl := hpl)) ⟨ha.sub, fun H0 σ H S Q k => ha.run H0 σ H S _ fun v A0 A sa S1 hv =>
    ⟨v, .ty t, .type (tyD x), .type t, r, rfl, .ty t, tyx_of (dp_ex S1.ex _ _ hv), kit_ty hk, k _ A0 A sa S1 (.bl r)⟩⟩

/-! ### calls of the program's own defs -/
inductive Rs where
  | ok (d : PD)
  | err (c : Addr)
def RsD (K : PySem.W.Frag) (H : Hp) (Q : VK) (E : XK) : Rs → Prop
  | .ok d => NoL d = true ∧ ∀ v H', Ex H H' → Dp K H' v d → Q v H'
  | .err c => ∀ H', Ex H H' → E (.ref c) none H'
/-- a def that makes data of data -/
def spD (K : PySem.W.Frag) (R : List PD → Rs → Prop) : Sp := fun vs H Q E => ∃ xs o, DpAll K H vs xs ∧ R xs o ∧ RsD K H Q E o
structure Cal (P : Program) (w : World) (K : PySem.W.Frag) (mg : Str → Option Value) (base : Heap) (CX : CXT) (k : Nat) (n : Str) (ps : List Str) (sp : Sp) : Prop where
  ex : ∃ f fd, mg n = some (.ref f) ∧ PySem.W.keepIn K (.ref f) = true ∧ Binds K fd ps [] ∧ FnOk P w K mg base CX k f fd ps sp
theorem ev_call {K : PySem.W.Frag} {R : List PD → Rs → Prop} {ta : TA} {xs : List PD} {z : Bool} {E : XK} (ha : EvA K F z ta Γ Γ1 xs) (hR : R xs (.ok x)) (hn : NoL x = true) : EvE K F (tCall (spD K R) [] E ta) Γ Γ1 x :=
  ⟨ha.sub, fun H0 σ H S Q k => ha.run H0 σ H S _ fun vs A0 A sa S1 hvs _ => by
    rw [List.append_nil]
    refine ⟨xs, .ok x, hvs, hR, hn, fun v A' e hv => ?_⟩
    obtain ⟨s2, S2⟩ := thaw_step (ow := IsOwn Γ1) S1 e
    exact k v _ A' (sa.trans s2 (sub_old ha.sub)) S2 (thaw_dp e hn hv)⟩
theorem ex_call {n : Str} {ps : List Str} {k : Nat} {R : List PD → Rs → Prop} {e : Expr} {es : List Expr} {xs : List PD} {z : Bool} {p1 : Pos} (C : Cal X.prog X.w X.K X.mg X.base CX0 k n ps (spD X.K R)) (hr : Room k X.A) (ha : EA X F z (e :: es) Γ Γ1 xs) (hR : R xs (.ok x)) (hn : NoL x = true := by rfl) (hg : Gl X n := by rfl)
    (hdb : (n == ("__debug__" : Str)) = false := by decide) (he : starEach (e :: es) X.env = (false, eval e X.env) :: starEach es X.env := by rfl) (hpl : (backTo pos (starEach es X.env)).any (·.1) = false := by rfl) : EX X F (.Call (.Name n p1) (e :: es) [] pos) Γ Γ1 x := by
  obtain ⟨f, fd, hm, hk, hb, Fn⟩ := C.ex
  exact ex_of (pe_call Fn hr hg hm hk hb .nil pass0 paW hdb he hpl) (ev_call ha hR hn)
end
end Dl


set_option maxRecDepth 100000
set_option maxHeartbeats 2000000
namespace Dl
open PySem PySem.Spec PyProof.Rows L2
/-! ### what is walked -/
/-- the frozen part may grow with what is laid -/
structure Lay (H0 H H0' H' : Hp) : Prop where
  im : Ex H0 H0'
  gr : Ex H H'
  ex : Ex H0' H'
  ls : ∀ b xs, H b = some (.lst xs) → H0 b = none → H0' b = none
theorem Lay.refl {H0 H : Hp} (e : Ex H0 H) : Lay H0 H H0 H := ⟨fun _ _ h => h, fun _ _ h => h, e, fun _ _ _ z => z⟩
theorem Lay.step {H0 H H0' H' : Hp} (h : Lay H0 H H0' H') {ow : Addr → Prop} : Step ow H0 H H0' H' := Step.grow h.gr _ h.im h.ls
def Wk (K : PySem.W.Frag) (J : It) (A0 : Hp) (ds : List PD) : Prop := ∀ H0 H, Ex A0 H0 → Ex H0 H → J.stop ds.length H ∧
  ∀ i x, ds[i]? = some x → J.go i H ∧ ∀ v H', J.yld i H v H' → ∃ H0', Lay H0 H H0' H' ∧ Dp K H0' v x
structure EvI (K : PySem.W.Frag) (F : Addr → Prop) (wi : TI) (Γ Γ' : Gm) (ds : List PD) : Prop where
  sub : Sub Γ' Γ
  run : ∀ H0 σ H, StD K F H0 H σ Γ → ∀ R : It → Hp → Prop, (∀ J H0' H', Step (IsOwn Γ) H0 H H0' H' → StD K F H0' H' σ Γ' → Wk K J H0' ds → R J H') → wi σ H R
/-- an iterable with a reading of its own -/
structure IX (X : Cx) (F : Addr → Prop) (tg e : Expr) (Γ Γ' : Gm) (ds : List PD) : Prop where
  ex : ∃ wi, PI X tg e wi ∧ EvI X.K F wi Γ Γ' ds
section
variable {K : PySem.W.Frag} {X : Cx} {F : Addr → Prop} {Γ Γ1 Γ2 : Gm} {x y z : PD} {a b tg : Expr} {pos : Pos}
theorem get_tup {H : Hp} {p : Addr} {xs ys : List V} {ds : List PD} (h1 : SqT K H p xs) (h : Dp K H (.ref p) (.tuple ds)) : True := trivial
theorem wk_tup {A0 : Hp} {p : Addr} {xs : List V} {ds : List PD} (hp : SqT K A0 p xs) (hd : DpAll K A0 xs ds) : Wk K (Itt K p) A0 ds := fun H0 H e1 e2 => by
  have q : SqT K H p xs := Evl.ex_t e2 (Evl.ex_t e1 hp)
  refine ⟨⟨xs, q, Nat.le_of_eq (dpa_len hd)⟩, fun i x hx => ?_⟩
  obtain ⟨v, hv, dv⟩ := dpa_get hd hx
  refine ⟨⟨xs, v, q, hv⟩, fun v' H' ⟨e, y⟩ => ?_⟩
  subst e
  have ev := y xs q
  rw [hv] at ev
  cases ev
  exact ⟨H0, Lay.refl e2, dp_ex e1 _ _ dv⟩
theorem wk_lst {A0 : Hp} {p : Addr} {xs : List V} {ds : List PD} (hp : SqL K A0 p xs) (hd : DpAll K A0 xs ds) : Wk K (Itl K p) A0 ds := fun H0 H e1 e2 => by
  have q : SqL K H p xs := Evl.ex_l e2 (Evl.ex_l e1 hp)
  refine ⟨⟨xs, q, Nat.le_of_eq (dpa_len hd)⟩, fun i x hx => ?_⟩
  obtain ⟨v, hv, dv⟩ := dpa_get hd hx
  refine ⟨⟨xs, v, q, hv⟩, fun v' H' ⟨e, y⟩ => ?_⟩
  subst e
  have ev := y xs q
  rw [hv] at ev
  cases ev
  exact ⟨H0, Lay.refl e2, dp_ex e1 _ _ dv⟩
theorem ix_tupD {ds : List PD} (h : EX X F a Γ Γ1 (.tuple ds)) : IX X F tg a Γ Γ1 ds := ⟨_, pi_tup peW, h.sub, fun H0 σ H S R k => h.run H0 σ H S _ fun v A0 A sa S1 hv => by
  cases hv with
  | @tup p xs _ hp hd => exact ⟨p, rfl, ⟨xs, Evl.ex_t S1.ex hp⟩, k _ A0 A sa S1 (wk_tup hp hd)⟩⟩
theorem ix_lstD {ds : List PD} (h : EX X F a Γ Γ1 (.list ds)) : IX X F tg a Γ Γ1 ds := ⟨_, pi_list peW, h.sub, fun H0 σ H S R k => h.run H0 σ H S _ fun v A0 A sa S1 hv => by
  cases hv with
  | @lst p xs _ hp hd => exact ⟨p, rfl, ⟨xs, Evl.ex_l S1.ex hp⟩, k _ A0 A sa S1 (wk_lst hp hd)⟩⟩
/-- the frozen part takes a new list in -/
theorem freeze_new {H0 H : Hp} {σ : L2.St} {p : Addr} {vs : List V} {xs : List PD} (S : StD K F H0 H σ Γ) (h0 : H0 p = none) (hp : H p = some (.lst vs)) (no : ¬ IsOwn Γ p) (hd : DpAll K H0 vs xs) :
    Ex H0 (upd H0 p (.lst vs)) ∧ StD K F (upd H0 p (.lst vs)) H σ Γ ∧ SqL K (upd H0 p (.lst vs)) p vs ∧ DpAll K (upd H0 p (.lst vs)) vs xs := by
  have e0 : Ex H0 (upd H0 p (.lst vs)) := Evl.Ex.new h0
  refine ⟨e0, ⟨S.len, fun b o hb => ?_, fun i x hx => ?_, fun i a ys hy => ?_, S.inj, S.fre⟩, .inl (.inl upd_same), dpa_ex e0 _ _ hd⟩
  · by_cases z : b = p
    · subst z
      rw [upd_same] at hb
      cases hb
      exact hp
    · rw [upd_ne z] at hb
      exact S.ex b o hb
  · obtain ⟨v, q, r⟩ := S.dat i x hx
    exact ⟨v, q, dp_ex e0 _ _ r⟩
  · obtain ⟨q1, q2, ws, q3, q4⟩ := S.own i a ys hy
    refine ⟨q1, ?_, ws, q3, dpa_ex e0 _ _ q4⟩
    rw [upd_ne (fun (z : a = p) => no ⟨i, ys, by rw [← z]; exact hy⟩)]
    exact q2
/-- over a list that was made just then -/
theorem ix_new {ds : List PD} (h : EL X F a Γ Γ1 ds) : IX X F tg a Γ Γ1 ds := ⟨_, pi_list peW, h.sub, fun H0 σ H S R k => h.run H0 σ H S _ fun p A0 A vs sa S1 fp hp h0 no hA hd => by
  obtain ⟨e0, S2, q, d⟩ := freeze_new S1 h0 hA no hd
  refine ⟨p, rfl, ⟨vs, .inl (.inl hA)⟩, k _ _ A ⟨sa.im.trans e0, sa.fr, sa.dm, fun b xs hn hb z => ?_⟩ S2 (wk_lst q d)⟩
  rw [upd_ne (fun e => by rw [e, hp] at hb; cases hb)]
  exact sa.ls b xs hn hb z⟩
/-- over range(n) -/
theorem wk_rng {A0 : Hp} {lo : Int} {n : Nat} : Wk K (Itr lo n) A0 ((List.range n).map fun i => .int (lo + (i : Nat))) := fun H0 H e1 e2 => by
  refine ⟨by show n ≤ _; rw [List.length_map, List.length_range]; exact Nat.le_refl n, fun i x hx => ?_⟩
  rw [List.getElem?_map] at hx
  by_cases l : i < n
  · rw [List.getElem?_range l] at hx
    cases hx
    refine ⟨l, fun v H' ⟨e, y⟩ => ?_⟩
    subst e y
    exact ⟨H0, Lay.refl e2, .int _⟩
  · rw [List.getElem?_eq_none (by rw [List.length_range]; omega)] at hx
    cases hx
theorem ix_rng1 {n : Int} {p1 : Pos} (m : X.mg "range" = none) (ha : EX X F a Γ Γ1 (.int n)) (hn : 0 ≤ n ∧ n ≤ 100000) (hg : Gl X "range" := by rfl) (he : starEach [a] X.env = (false, eval a X.env) :: starEach [] X.env := by rfl) (hs : starEach [a] X.env = [(false, eval a X.env)] := by rfl) :
    IX X F tg (.Call (.Name "range" p1) [a] [] pos) Γ Γ1 ((List.range n.toNat).map fun i => .int ((i : Nat) : Int)) := ⟨_, pi_range1 hg m (pa_cons peW pa_nil he) hs, ha.sub, fun H0 σ H S R k => ha.run H0 σ H S _ fun v A0 A sa S1 hv => by
  cases hv
  refine ⟨n, rfl, by omega, by omega, k _ A0 A sa S1 ?_⟩
  have := wk_rng (K := X.K) (A0 := A0) (lo := 0) (n := n.toNat)
  simp only [Int.zero_add] at this
  exact this⟩
theorem ix_zip {ds es : List PD} {elts : List Expr} {kk : Nat} {tp p1 : Pos} (m : X.mg "zip" = none) (ha : EX X F a Γ Γ1 x) (hb : EX X F b Γ1 Γ2 y) (hx : (x = .tuple ds ∧ y = .tuple es) ∨ (x = .list ds ∧ y = .list es)) (hl : ds.length = es.length) (hg : Gl X "zip" := by rfl)
    (he : starEach [a, b] X.env = (false, eval a X.env) :: starEach [b] X.env := by rfl) (he2 : starEach [b] X.env = (false, eval b X.env) :: starEach [] X.env := by rfl) (hpl : (backTo pos (starEach [b] X.env)).any (·.1) = false := by rfl) :
    IX X F (.Tuple elts kk tp) (.Call (.Name "zip" p1) [a, b] [] pos) Γ Γ2 (List.zipWith (fun x y => .tuple [x, y]) ds es) := ⟨_, RZ.pi_zipA hg m (pa_cons peW (pa_cons peW pa_nil he2) he) he hpl, hb.sub.trans ha.sub, fun H0 σ H S R k => ha.run H0 σ H S _ fun v A0 A sa S1 hv => hb.run A0 σ A S1 _ fun w B0 B sb S2 hw => by
  have st := sa.trans sb (sub_old ha.sub)
  have hv' := dp_ex sb.im _ _ hv
  rcases hx with ⟨rfl, rfl⟩ | ⟨rfl, rfl⟩
  · cases hv' with
    | @tup p xs _ hp hxs =>
      cases hw with
      | @tup q ys _ hq hys =>
        refine ⟨p, q, xs, ys, rfl, .inr ⟨Evl.ex_t S2.ex hp, Evl.ex_t S2.ex hq, k _ B0 B st S2 fun C0 C e1 e2 => ?_⟩⟩
        have g1 : SqT X.K C p xs := Evl.ex_t e2 (Evl.ex_t e1 hp)
        have g2 : SqT X.K C q ys := Evl.ex_t e2 (Evl.ex_t e1 hq)
        have l1 := dpa_len hxs
        have l2 := dpa_len hys
        refine ⟨⟨xs, ys, g1, g2, .inl (by rw [List.length_zipWith]; omega)⟩, fun i d hd => ?_⟩
        have hi : i < ds.length := by
          have := (List.getElem?_eq_some_iff.mp hd).1
          rw [List.length_zipWith] at this
          omega
        obtain ⟨v1, hv1, dv1⟩ := dpa_get hxs (List.getElem?_eq_getElem hi)
        obtain ⟨v2, hv2, dv2⟩ := dpa_get hys (List.getElem?_eq_getElem (by omega : i < es.length))
        refine ⟨⟨xs, ys, v1, v2, g1, g2, hv1, hv2⟩, fun v C' ⟨T, x1, x2, e, nT, eC, f1, f2⟩ => ?_⟩
        subst e eC
        have ex1 := f1 xs g1
        rw [hv1] at ex1
        cases ex1
        have ex2 := f2 ys g2
        rw [hv2] at ex2
        cases ex2
        have n0 : C0 T = none := Evl.fresh_back e2 nT
        refine ⟨upd C0 T (.tup [v1, v2]), ⟨Evl.Ex.new n0, Evl.Ex.new nT, fun c o hc => ?_, fun c zs hc z => ?_⟩, ?_⟩
        · by_cases z : c = T
          · subst z; rw [upd_same] at hc; rw [upd_same]; exact hc
          · rw [upd_ne z] at hc; rw [upd_ne z]; exact e2 c o hc
        · rw [upd_ne (ne_of_none hc nT)]; exact z
        · rw [List.getElem?_zipWith, List.getElem?_eq_getElem hi, List.getElem?_eq_getElem (by omega : i < es.length)] at hd
          cases hd
          exact .tup (.inl (.inl upd_same)) (.cons (dp_ex (Evl.Ex.new n0) _ _ (dp_ex e1 _ _ dv1)) (.cons (dp_ex (Evl.Ex.new n0) _ _ (dp_ex e1 _ _ dv2)) .nil))
  · cases hv' with
    | @lst p xs _ hp hxs =>
      cases hw with
      | @lst q ys _ hq hys =>
        refine ⟨p, q, xs, ys, rfl, .inl ⟨Evl.ex_l S2.ex hp, Evl.ex_l S2.ex hq, k _ B0 B st S2 fun C0 C e1 e2 => ?_⟩⟩
        have g1 : SqL X.K C p xs := Evl.ex_l e2 (Evl.ex_l e1 hp)
        have g2 : SqL X.K C q ys := Evl.ex_l e2 (Evl.ex_l e1 hq)
        have l1 := dpa_len hxs
        have l2 := dpa_len hys
        refine ⟨⟨xs, ys, g1, g2, .inl (by rw [List.length_zipWith]; omega)⟩, fun i d hd => ?_⟩
        have hi : i < ds.length := by
          have := (List.getElem?_eq_some_iff.mp hd).1
          rw [List.length_zipWith] at this
          omega
        obtain ⟨v1, hv1, dv1⟩ := dpa_get hxs (List.getElem?_eq_getElem hi)
        obtain ⟨v2, hv2, dv2⟩ := dpa_get hys (List.getElem?_eq_getElem (by omega : i < es.length))
        refine ⟨⟨xs, ys, v1, v2, g1, g2, hv1, hv2⟩, fun v C' ⟨T, x1, x2, e, nT, eC, f1, f2⟩ => ?_⟩
        subst e eC
        have ex1 := f1 xs g1
        rw [hv1] at ex1
        cases ex1
        have ex2 := f2 ys g2
        rw [hv2] at ex2
        cases ex2
        have n0 : C0 T = none := Evl.fresh_back e2 nT
        refine ⟨upd C0 T (.tup [v1, v2]), ⟨Evl.Ex.new n0, Evl.Ex.new nT, fun c o hc => ?_, fun c zs hc z => ?_⟩, ?_⟩
        · by_cases z : c = T
          · subst z; rw [upd_same] at hc; rw [upd_same]; exact hc
          · rw [upd_ne z] at hc; rw [upd_ne z]; exact e2 c o hc
        · rw [upd_ne (ne_of_none hc nT)]; exact z
        · rw [List.getElem?_zipWith, List.getElem?_eq_getElem hi, List.getElem?_eq_getElem (by omega : i < es.length)] at hd
          cases hd
          exact .tup (.inl (.inl upd_same)) (.cons (dp_ex (Evl.Ex.new n0) _ _ (dp_ex e1 _ _ dv1)) (.cons (dp_ex (Evl.Ex.new n0) _ _ (dp_ex e1 _ _ dv2)) .nil))⟩

/-! ### targets -/
/-- the slots at vs alone are written, the heap stays -/
def EvG (K : PySem.W.Frag) (F : Addr → Prop) (g : TG) (vs : List Nat) (x : PD) (Γ Γ' : Gm) : Prop := ∀ H0 σ H v, StD K F H0 H σ Γ → Dp K H0 v x → ∀ Q : L2.St → Hp → Prop, (∀ σ', StD K F H0 H σ' Γ' → σ'.length = σ.length → (∀ i, i ∉ vs → σ'[i]? = σ[i]?) → Q σ' H) → g v σ H Q
def GX (X : Cx) (F : Addr → Prop) (tg : Expr) (vs : List Nat) (x : PD) (Γ Γ' : Gm) : Prop := ∃ g, PG X tg g ∧ EvG X.K F g vs x Γ Γ' ∧ Sub Γ' Γ
theorem eg_name {j : Nat} : EvG K F (gName j) [j] x Γ (Γ.set j (.d x)) := fun H0 σ H v S hv Q k => k _ (S.set hv) (List.length_set ..) fun i hi => List.getElem?_set_ne (fun z => hi (by rw [z]; exact List.mem_cons_self))
/-- several names: the slots js take the data ds -/
def setsG (Γ : Gm) : List Nat → List PD → Gm
  | j :: js, d :: ds => setsG (Γ.set j (.d d)) js ds
  | _, _ => Γ
def gNames : List Nat → TGs
  | [] => gNil
  | j :: js => gCons (gName j) (gNames js)
theorem egs_names : ∀ (js : List Nat) (ds : List PD) (Γ : Gm) (H0 : Hp) (σ : L2.St) (H : Hp) (vs : List V), js.length = ds.length → StD K F H0 H σ Γ → DpAll K H0 vs ds → ∀ Q : L2.St → Hp → Prop, (∀ σ', StD K F H0 H σ' (setsG Γ js ds) → σ'.length = σ.length → (∀ i, i ∉ js → σ'[i]? = σ[i]?) → Q σ' H) → gNames js vs σ H Q
  | [], [], Γ, H0, σ, H, vs, _, S, hv, Q, k => by
    cases hv
    exact ⟨rfl, k σ S rfl fun _ _ => rfl⟩
  | [], d :: ds, _, _, _, _, _, l, _, _, _, _ => by cases l
  | j :: js, [], _, _, _, _, _, l, _, _, _, _ => by cases l
  | j :: js, d :: ds, Γ, H0, σ, H, vs, l, S, hv, Q, k => by
    cases hv with
    | cons h1 h2 =>
      refine ⟨_, _, rfl, egs_names js ds (Γ.set j (.d d)) H0 (σ.set j _) H _ (by rw [List.length_cons, List.length_cons] at l; omega) (S.set h1) h2 Q fun σ' S' l' hi => k σ' S' (by rw [l', List.length_set]) fun i hn => ?_⟩
      rw [hi i (fun z => hn (List.mem_cons_of_mem _ z))]
      exact List.getElem?_set_ne (fun z => hn (by rw [z]; exact List.mem_cons_self))
theorem sub_sets : ∀ (js : List Nat) (ds : List PD) (Γ : Gm), Sub (setsG Γ js ds) Γ
  | [], _, _ => Sub.refl
  | j :: js, [], _ => Sub.refl
  | j :: js, d :: ds, Γ => (sub_sets js ds (Γ.set j (.d d))).trans Sub.setD
theorem eg_tup {js : List Nat} {ds : List PD} (hl : js.length = ds.length) : EvG K F (gTup K js.length (gNames js)) js (.tuple ds) Γ (setsG Γ js ds) := fun H0 σ H v S hv Q k => by
  cases hv with
  | @tup p xs _ hp hd => exact ⟨p, xs, rfl, Evl.ex_t S.ex hp, by rw [dpa_len hd, hl], egs_names js ds Γ H0 σ H xs hl S hd Q k⟩
theorem eg_lst {js : List Nat} {ds : List PD} (hl : js.length = ds.length) : EvG K F (gLst K js.length (gNames js)) js (.list ds) Γ (setsG Γ js ds) := fun H0 σ H v S hv Q k => by
  cases hv with
  | @lst p xs _ hp hd => exact ⟨p, xs, rfl, Evl.ex_l S.ex hp, by rw [dpa_len hd, hl], egs_names js ds Γ H0 σ H xs hl S hd Q k⟩
theorem gx_name {n : Str} {p1 : Pos} (j : Nat) (hN : X.N.Nodup) (hi : X.N[j]? = some n := by rfl) (hx : Loc X.env.scope n := by first | exact .inl rfl | exact .inr rfl) (hf : X.fn n = true ∨ X.env.scope.names.lookup n = some .local := by first | exact .inl rfl | exact .inr rfl) : GX X F (.Name n p1) [j] x Γ (Γ.set j (.d x)) :=
  ⟨_, pg_name hN hi hx hf, eg_name, Sub.setD⟩
/-- names one after another -/
structure PNs (X : Cx) (es : List Expr) (js : List Nat) : Prop where
  h : PGs X es (gNames js)
theorem pns_nil : PNs X [] [] := ⟨pgs_nil⟩
theorem pns_cons {n : Str} {p1 : Pos} {es : List Expr} {js : List Nat} (j : Nat) (hN : X.N.Nodup) (h : PNs X es js) (hi : X.N[j]? = some n := by rfl) (hx : Loc X.env.scope n := by first | exact .inl rfl | exact .inr rfl) (hf : X.fn n = true ∨ X.env.scope.names.lookup n = some .local := by first | exact .inl rfl | exact .inr rfl)
    (hs : (assignEach (.Name n p1 :: es) X.env).map (·.2) = assign (.Name n p1) X.env :: (assignEach es X.env).map (·.2) := by rfl) : PNs X (.Name n p1 :: es) (j :: js) := ⟨pgs_cons (pg_name hN hi hx hf) h.h hs⟩
theorem gx_tup {es : List Expr} {js : List Nat} {ds : List PD} {kk : Nat} {p1 : Pos} (hc : X.calm = true) (h : PNs X es js) (hl : js.length = ds.length := by rfl) (hn : (assignEach es X.env).length = js.length := by rfl) (hst : (assignEach es X.env).findIdx? (·.1) = none := by rfl) : GX X F (.Tuple es kk p1) js (.tuple ds) Γ (setsG Γ js ds) :=
  ⟨_, pg_tup hc h.h hn hst, eg_tup hl, sub_sets js ds Γ⟩
theorem gx_lst {es : List Expr} {js : List Nat} {ds : List PD} {kk : Nat} {p1 : Pos} (hc : X.calm = true) (h : PNs X es js) (hl : js.length = ds.length := by rfl) (hn : (assignEach es X.env).length = js.length := by rfl) (hst : (assignEach es X.env).findIdx? (·.1) = none := by rfl) : GX X F (.Tuple es kk p1) js (.list ds) Γ (setsG Γ js ds) :=
  ⟨_, pg_lst hc h.h hn hst, eg_lst hl, sub_sets js ds Γ⟩
end
end Dl


set_option maxRecDepth 100000
set_option maxHeartbeats 2000000
namespace Dl
open PySem PySem.Spec PyProof.Rows L2
/-! ### comprehensions -/
def setNo (Γ : Gm) : List Nat → Gm
  | [] => Γ
  | v :: vs => (setNo Γ vs).set v .no
theorem sub_setNo (Γ : Gm) : ∀ vs, Sub (setNo Γ vs) Γ
  | [] => Sub.refl
  | v :: vs => Sub.setNo.trans (sub_setNo Γ vs)
theorem std_wipe {K : PySem.W.Frag} {F : Addr → Prop} {H0 H : Hp} {σ : L2.St} {Γ : Gm} (S : StD K F H0 H σ Γ) : ∀ vs, StD K F H0 H (wipe σ vs) (setNo Γ vs)
  | [] => S
  | v :: vs => (std_wipe S vs).drop
theorem wipe_get {σ : L2.St} {i : Nat} : ∀ {vs : List Nat}, i ∈ vs → i < σ.length → (wipe σ vs)[i]? = some none
  | [], h, _ => by cases h
  | v :: vs, h, l => by
    unfold wipe
    by_cases z : v = i
    · subst z
      exact List.getElem?_set_self (by rw [wipe_length]; exact l)
    · rw [List.getElem?_set_ne z]
      rcases List.mem_cons.mp h with q | q
      · exact absurd q.symm z
      · exact wipe_get q l
theorem wipe_same {σ σ2 : L2.St} {vs : List Nat} (l : σ2.length = σ.length) (h : ∀ i, i ∉ vs → σ2[i]? = σ[i]?) : wipe σ2 vs = wipe σ vs := by
  refine List.ext_getElem? fun i => ?_
  by_cases m : i ∈ vs
  · by_cases q : i < σ.length
    · rw [wipe_get m q, wipe_get m (by omega)]
    · rw [List.getElem?_eq_none (by rw [wipe_length]; omega), List.getElem?_eq_none (by rw [wipe_length]; omega)]
  · rw [wipe_out m, wipe_out m]
    exact h i m
/-- back from the block: what is known of the def's own slots -/
theorem std_back {K : PySem.W.Frag} {F : Addr → Prop} {H0 H : Hp} {σ σ2 : L2.St} {vs : List Nat} {Γ : Gm} (S : StD K F H0 H σ2 Γ) (l : σ2.length = σ.length) (h : ∀ i, i ∉ vs → σ2[i]? = σ[i]?) : StD K F H0 H σ (setNo Γ vs) := by
  have S1 := std_wipe S vs
  have no : ∀ i, i ∈ vs → i < Γ.length → (setNo Γ vs)[i]? = some .no := fun i hi => by
    clear S1 S h
    induction vs with
    | nil => cases hi
    | cons v vs ih =>
      intro l'
      show ((setNo Γ vs).set v .no)[i]? = some .no
      have len : ∀ ws, (setNo Γ ws).length = Γ.length := fun ws => by
        induction ws with
        | nil => rfl
        | cons w ws ih2 => show ((setNo Γ ws).set w .no).length = _; rw [List.length_set, ih2]
      by_cases z : v = i
      · subst z
        exact List.getElem?_set_self (by rw [len]; exact l')
      · rw [List.getElem?_set_ne z]
        rcases List.mem_cons.mp hi with q | q
        · exact absurd q.symm z
        · exact ih q l'
  have lenN : (setNo Γ vs).length = Γ.length := by
    have := S1.len
    rw [wipe_length, S.len] at this
    exact this.symm
  have at_ : ∀ (i : Nat) sl, sl ≠ Sl.no → (setNo Γ vs)[i]? = some sl → i ∉ vs := fun i sl hs e hi => by
    have l2 := (List.getElem?_eq_some_iff.mp e).1
    rw [no i hi (by omega)] at e
    exact hs (Option.some.inj e).symm
  exact ⟨by rw [lenN, ← S.len, l], S1.ex, fun i x hx => by
    obtain ⟨v, q, r⟩ := S1.dat i x hx
    have m := at_ i (.d x) (fun z => nomatch z) hx
    rw [wipe_out m, h i m] at q
    exact ⟨v, q, r⟩, fun i a xs hx => by
    obtain ⟨q, r⟩ := S1.own i a xs hx
    have m := at_ i (.own a xs) (fun z => nomatch z) hx
    rw [wipe_out m, h i m] at q
    exact ⟨q, r⟩, S1.inj, S1.fre⟩
inductive LcX (K : PySem.W.Frag) (F : Addr → Prop) (g : TG) (tt : TT) (te : TE) (vs : List Nat) : Gm → List PD → Gm → List PD → Prop
  | nil {Γ : Gm} : LcX K F g tt te vs Γ [] Γ []
  | cons {Γ Γt Γu Γ2 : Gm} {x y : PD} {xs ys : List PD} : EvG K F g vs x (setNo Γ vs) Γt → Sub Γt (setNo Γ vs) → EvT K F tt Γt Γt true → EvE K F te Γt Γu y → LcX K F g tt te vs (setNo Γu vs) xs Γ2 ys → LcX K F g tt te vs Γ (x :: xs) Γ2 (y :: ys)
  | skip {Γ Γt Γ2 : Gm} {x : PD} {xs ys : List PD} : EvG K F g vs x (setNo Γ vs) Γt → Sub Γt (setNo Γ vs) → EvT K F tt Γt Γt false → LcX K F g tt te vs (setNo Γt vs) xs Γ2 ys → LcX K F g tt te vs Γ (x :: xs) Γ2 ys
theorem LcX.sub {K : PySem.W.Frag} {F : Addr → Prop} {g : TG} {tt : TT} {te : TE} {vs : List Nat} {Γ Γ2 : Gm} {xs ys : List PD} (h : LcX K F g tt te vs Γ xs Γ2 ys) : Sub Γ2 Γ := by
  induction h with
  | nil => exact Sub.refl
  | cons h1 h2 h3 h4 h5 ih => exact ((ih.trans (sub_setNo _ _)).trans h4.sub).trans (h2.trans (sub_setNo _ _))
  | skip h1 h2 h3 h5 ih => exact (ih.trans (sub_setNo _ _)).trans (h2.trans (sub_setNo _ _))
/-- where the comprehension stands -/
structure LcI (K : PySem.W.Frag) (F : Addr → Prop) (g : TG) (tt : TT) (te : TE) (vs : List Nat) (σ : L2.St) (A0 A : Hp) (Γ1 Γ2 : Gm) (D : Addr) (ds ys : List PD) (i : Nat) (H : Hp) : Prop where
  ex : ∃ (H0 : Hp) (Γ : Gm) (acc : List V) (done rest : List PD), StD K F H0 H σ Γ ∧ Step (IsOwn Γ1) A0 A H0 H ∧ H D = some (.lst acc) ∧ H0 D = none ∧ ¬ IsOwn Γ D ∧ DpAll K H0 acc done ∧ LcX K F g tt te vs Γ (ds.drop i) Γ2 rest ∧ ys = done ++ rest ∧ Sub Γ Γ1 ∧ done.length ≤ i
section
variable {K : PySem.W.Frag} {X : Cx} {F : Addr → Prop} {Γ Γ1 Γ2 : Gm} {x y z : PD} {a b tg : Expr} {pos : Pos}
theorem lc_run {wi : TI} {g : TG} {tt : TT} {te : TE} {vs : List Nat} {ds ys : List PD} (hi : EvI K F wi Γ Γ1 ds) (h : LcX K F g tt te vs Γ1 ds Γ2 ys) (hl : ds.length ≤ 50000) : EvL K F (tLc wi g tt te vs) Γ Γ2 ys := by
  refine ⟨h.sub.trans hi.sub, fun H0 σ H S Q k => hi.run H0 σ H S _ fun J A0 A sa S1 wk D hD => ?_⟩
  have hpH : H D = none := by
    cases q : H D with
    | none => rfl
    | some o => exact absurd hD (sa.dm D (by rw [q]; exact fun z => nomatch z))
  have h0D : A0 D = none := Evl.fresh_back S1.ex hD
  have fD : F D := S1.fre D hD
  obtain ⟨s2, S2⟩ := lay_lst (ow := IsOwn Γ1) (vs := []) S1 hD
  refine ⟨fun i m H' => m = ds.length - i ∧ i ≤ ds.length ∧ LcI K F g tt te vs σ A0 A Γ1 Γ2 D ds ys i H', ⟨ds.length, by omega, Nat.zero_le _, ⟨A0, Γ1, [], [], ys, S2, s2, upd_same, h0D, not_own S1 hD, .nil, h, rfl, Sub.refl, Nat.le_refl _⟩⟩, ?_⟩
  rintro i m B ⟨rfl, hile, ⟨B0, Γi, acc, done, rest, SB, st, hBD, hB0, no, hacc, lx, ey, sb, dl⟩⟩
  have wki := wk B0 B st.im SB.ex
  by_cases hlt : i < ds.length
  · right
    have hx : ds[i]? = some ds[i] := List.getElem?_eq_getElem hlt
    obtain ⟨hgo, hy⟩ := wki.2 i _ hx
    refine ⟨hgo, fun H' => LcI K F g tt te vs σ A0 A Γ1 Γ2 D ds ys (i + 1) H', fun H' hI => ⟨_, by omega, rfl, hlt, hI⟩, fun v B' hyv => ?_⟩
    obtain ⟨C0, ly, hv⟩ := hy v B' hyv
    have S3 : StD K F C0 B' σ Γi := SB.grow ly.gr ly.im ly.ex ly.ls
    have hC0 : C0 D = none := ly.ls D acc hBD hB0
    have hB'D : B' D = some (.lst acc) := ly.gr D _ hBD
    have e : ds.drop i = ds[i] :: ds.drop (i + 1) := List.drop_eq_getElem_cons hlt
    have Sw := std_wipe S3 vs
    have accl := dpa_len hacc
    generalize ds.drop i = dr at lx e
    subst e
    cases lx with
    | @cons _ Γt Γu _ _ y _ rest' hg hs ht he hr =>
      refine hg C0 _ B' v Sw hv _ fun σ2 S4 l4 i4 => ⟨?_, ?_⟩
      · rw [wipe_same (σ := wipe σ vs) (by rw [l4]) i4]
        exact wipe_same (by rw [wipe_length]) fun j hj => wipe_out hj
      · refine ht.run C0 σ2 B' S4 _ fun D0 D1 s5 S5 => iteT (he.run D0 σ2 D1 S5 _ fun w E0 E1 s6 S6 hw => ?_)
        have ot : ∀ b, IsOwn Γt b → IsOwn Γi b := fun b hb => sub_setNo _ _ b (hs b hb)
        have nt : ¬ IsOwn Γt D := fun z => no (ot D z)
        have hD1 : D1 D = some (.lst acc) := s5.fr D _ nt hB'D
        have hE1 : E1 D = some (.lst acc) := s6.fr D _ nt hD1
        have hE0 : E0 D = none := s6.ls D acc nt hD1 (s5.ls D acc nt hB'D hC0)
        have imE : Ex B0 E0 := (ly.im.trans s5.im).trans s6.im
        have S7 : StD K F E0 E1 σ (setNo Γu vs) := std_back S6 (by rw [l4, wipe_length]) fun j hj => by rw [i4 j hj]; exact wipe_out hj
        have su : Sub (setNo Γu vs) Γi := (sub_setNo _ _).trans (he.sub.trans fun b hb => ot b hb)
        have nu : ¬ IsOwn (setNo Γu vs) D := fun z => no (su D z)
        have stE : Step (IsOwn Γ1) A0 A E0 E1 := ((st.trans ly.step (ow1 := IsOwn Γ1) fun b hb => .inl hb).trans s5 fun b hb => .inl (sb b (ot b hb))).trans s6 fun b hb => .inl (sb b (ot b hb))
        refine ⟨acc, hE1, Evl.sz_lt (by omega), E0, setNo Γu vs, acc ++ [w], done ++ [y], rest', ?_, ?_, upd_same, hE0, nu, dpa_app (dpa_ex imE _ _ hacc) (dpa_one hw), hr, by rw [ey, List.append_assoc]; rfl, su.trans sb, by rw [List.length_append]; show done.length + 1 ≤ i + 1; omega⟩
        · exact ⟨S7.len, fun b o hb => by rw [upd_ne (ne_of_none hb hE0)]; exact S7.ex b o hb, S7.dat, fun j a xs hj => by
            obtain ⟨q1, q2, ws, q3, q4⟩ := S7.own j a xs hj
            exact ⟨q1, q2, ws, by rw [upd_ne (fun (z : a = D) => nu ⟨j, xs, by rw [← z]; exact hj⟩)]; exact q3, q4⟩, S7.inj, fun b hb => S7.fre b (by
            by_cases z : b = D
            · rw [z, upd_same] at hb; cases hb
            · rw [upd_ne z] at hb; exact hb)⟩
        · exact ⟨stE.im, fun b o hn hb => by rw [upd_ne (ne_of_none hb hD)]; exact stE.fr b o hn hb, fun b hb => by
            by_cases z : b = D
            · rw [z, upd_same]; exact fun z => nomatch z
            · rw [upd_ne z]; exact stE.dm b hb, stE.ls⟩
    | @skip _ Γt _ _ _ _ hg hs ht hr =>
      refine hg C0 _ B' v Sw hv _ fun σ2 S4 l4 i4 => ⟨?_, ?_⟩
      · rw [wipe_same (σ := wipe σ vs) (by rw [l4]) i4]
        exact wipe_same (by rw [wipe_length]) fun j hj => wipe_out hj
      · refine ht.run C0 σ2 B' S4 _ fun D0 D1 s5 S5 => iteF ?_
        have ot : ∀ b, IsOwn Γt b → IsOwn Γi b := fun b hb => sub_setNo _ _ b (hs b hb)
        have nt : ¬ IsOwn Γt D := fun z => no (ot D z)
        have hD1 : D1 D = some (.lst acc) := s5.fr D _ nt hB'D
        have hD0 : D0 D = none := s5.ls D acc nt hB'D hC0
        have S7 : StD K F D0 D1 σ (setNo Γt vs) := std_back S5 (by rw [l4, wipe_length]) fun j hj => by rw [i4 j hj]; exact wipe_out hj
        have su : Sub (setNo Γt vs) Γi := (sub_setNo _ _).trans fun b hb => ot b hb
        exact ⟨D0, setNo Γt vs, acc, done, rest, S7, (st.trans ly.step (ow1 := IsOwn Γ1) fun b hb => .inl hb).trans s5 fun b hb => .inl (sb b (ot b hb)), hD1, hD0, fun z => no (su D z), dpa_ex (ly.im.trans s5.im) _ _ hacc, hr, ey, su.trans sb, by omega⟩
  · left
    have hie : i = ds.length := by omega
    subst hie
    refine ⟨wki.1, ?_⟩
    rw [List.drop_length] at lx
    cases lx
    rw [List.append_nil] at ey
    subst ey
    exact k D B0 B acc (sa.trans st (sub_old hi.sub)) SB fD hpH hB0 no hBD hacc
end
end Dl


set_option maxRecDepth 100000
set_option maxHeartbeats 2000000
namespace Dl
open PySem PySem.Spec PyProof.Rows L2
/-! ### comprehensions as expressions -/
def teU (X : Cx) (elt : Expr) (scope : Scope) : TE := fun σ H Q => ∀ (s : Shared) (H' : Hp) (C : Addr) (cl : List (Str × Addr)) (fp : List Addr), wpE (X.blk s H' scope (compEnvC scope cl C X.env) fp) elt σ H Q
def ttU (X : Cx) (e : Expr) (scope : Scope) : TT := fun σ H Q => ∀ (s : Shared) (H' : Hp) (C : Addr) (cl : List (Str × Addr)) (fp : List Addr), wpT (X.blk s H' scope (compEnvC scope cl C X.env) fp) e σ H Q
section
variable {K : PySem.W.Frag} {X : Cx} {F : Addr → Prop} {Γ Γ1 Γ2 : Gm} {x y z : PD} {a b tg elt : Expr} {pos : Pos} {scope : Scope}
theorem ev_U (sub : Sub Γ1 Γ) (h : ∀ (s : Shared) (H' : Hp) (C : Addr) (cl : List (Str × Addr)) (fp : List Addr), EX (X.blk s H' scope (compEnvC scope cl C X.env) fp) F elt Γ Γ1 y) : EvE X.K F (teU X elt scope) Γ Γ1 y :=
  ⟨sub, fun H0 σ H S Q k s H' C cl fp => (h s H' C cl fp).run H0 σ H S Q k⟩
theorem et_U {c : Bool} (sub : Sub Γ1 Γ) (h : ∀ (s : Shared) (H' : Hp) (C : Addr) (cl : List (Str × Addr)) (fp : List Addr), TX (X.blk s H' scope (compEnvC scope cl C X.env) fp) F elt Γ Γ1 c) : EvT X.K F (ttU X elt scope) Γ Γ1 c :=
  ⟨sub, fun H0 σ H S Q k s H' C cl fp => (h s H' C cl fp).run H0 σ H S Q k⟩
theorem et_yes : EvT K F tYes Γ Γ true := ⟨Sub.refl, fun H0 σ H S Q k => k H0 H Step.refl S⟩
theorem el_lc {own : List (Str × Nat)} {g : TG} {ds ys : List PD} (hc : X.calm = true) (hN : X.N.Nodup) (hi : IX X F tg a Γ Γ1 ds) (ok : BlkOk X.N X.env.scope scope own)
    (hg : ∀ (s : Shared) (H : Hp) (C : Addr) (cl : List (Str × Addr)) (fp : List Addr), PG (X.blk s H scope (compEnvC scope cl C X.env) fp) tg g)
    (h : LcX X.K F g tYes (teU X elt scope) (own.map (·.2)) Γ1 ds Γ2 ys) (hl : ds.length ≤ 50000 := by exact Nat.le_of_ble_eq_true rfl) (hs : ∀ x, foldedSetIterable a X.env x = pure x := by intro _; rfl) : EL X F (.ListComp elt [⟨tg, a, [], 0⟩] scope pos) Γ Γ2 ys := by
  obtain ⟨wi, hpi, hw⟩ := hi.ex
  exact el_of (pe_lc hc hN hpi ok hg (fun _ _ _ _ _ => pts_nil) (fun s H' C cl fp => ⟨fun pins s' σ H Q I hq => hq s H' C cl fp pins s' I⟩) hs) (lc_run hw h hl)
theorem el_lcIf {own : List (Str × Nat)} {g : TG} {ds ys : List PD} (hc : X.calm = true) (hN : X.N.Nodup) (hi : IX X F tg a Γ Γ1 ds) (ok : BlkOk X.N X.env.scope scope own)
    (hg : ∀ (s : Shared) (H : Hp) (C : Addr) (cl : List (Str × Addr)) (fp : List Addr), PG (X.blk s H scope (compEnvC scope cl C X.env) fp) tg g)
    (h : LcX X.K F g (ttU X b scope) (teU X elt scope) (own.map (·.2)) Γ1 ds Γ2 ys) (hl : ds.length ≤ 50000 := by exact Nat.le_of_ble_eq_true rfl) (hs : ∀ x, foldedSetIterable a X.env x = pure x := by intro _; rfl) : EL X F (.ListComp elt [⟨tg, a, [b], 0⟩] scope pos) Γ Γ2 ys := by
  obtain ⟨wi, hpi, hw⟩ := hi.ex
  exact el_of (pe_lc hc hN hpi ok hg (fun s H' C cl fp => pts_one ⟨fun pins s' σ H Q I hq => hq s H' C cl fp pins s' I⟩) (fun s H' C cl fp => ⟨fun pins s' σ H Q I hq => hq s H' C cl fp pins s' I⟩) hs) (lc_run hw h hl)
/-- all turns alike: what each gives -/
theorem lcx_map {g : TG} {te : TE} {vs : List Nat} (f : PD → PD) (hz : setNo Γ vs = Γ) : ∀ (ds : List PD), (∀ d, d ∈ ds → ∃ Γt, EvG K F g vs d Γ Γt ∧ Sub Γt Γ ∧ EvE K F te Γt Γt (f d) ∧ setNo Γt vs = Γ) → LcX K F g tYes te vs Γ ds Γ (ds.map f)
  | [], _ => .nil
  | d :: ds, h => by
    obtain ⟨Γt, h1, h2, h3, h4⟩ := h d List.mem_cons_self
    refine .cons (Γt := Γt) (Γu := Γt) (by rw [hz]; exact h1) (by rw [hz]; exact h2) et_yes h3 ?_
    rw [h4]
    exact lcx_map f hz ds fun e he => h e (List.mem_cons_of_mem _ he)

/-! ### big steps: statements -/
inductive Out where
  | nx (Γ : Gm)
  | ret (d : PD)
  | retL (xs : List PD)
  | retM (a : Addr) (ys : List PD) (d : PD)
  | retN (a : Addr) (ys xs : List PD)
  | bk (Γ : Gm)
  | ct (Γ : Gm)
  | ex (c : Addr)
def CtD (K : PySem.W.Frag) (F : Addr → Prop) (D : Ends) (E : XK) (ow : Addr → Prop) (H0 H : Hp) : Out → Prop
  | .nx Γ' => ∀ σ' H0' H', Step ow H0 H H0' H' → StD K F H0' H' σ' Γ' → D.nx σ' H'
  | .bk Γ' => ∀ σ' H0' H', Step ow H0 H H0' H' → StD K F H0' H' σ' Γ' → D.bk σ' H'
  | .ct Γ' => ∀ σ' H0' H', Step ow H0 H H0' H' → StD K F H0' H' σ' Γ' → D.ct σ' H'
  | .ret d => ∀ v H0' H', Step ow H0 H H0' H' → Dp K H0' v d → Ex H0' H' → D.rt v H'
  | .retL xs => ∀ a H0' H' vs, Step ow H0 H H0' H' → F a → H0' a = none → H' a = some (.lst vs) → DpAll K H0' vs xs → Ex H0' H' → D.rt (.ref a) H'
  | .retM a ys d => ∀ v H0' H' us, Step ow H0 H H0' H' → Dp K H0' v d → H' a = some (.lst us) → DpAll K H0' us ys → Ex H0' H' → D.rt v H'
  | .retN a ys xs => ∀ p H0' H' vs us, Step ow H0 H H0' H' → F p → H0' p = none → H' p = some (.lst vs) → DpAll K H0' vs xs → p ≠ a → H0' a = none → H' a = some (.lst us) → DpAll K H0' us ys → Ex H0' H' → D.rt (.ref p) H'
  | .ex c => ∀ H0' H', Step ow H0 H H0' H' → E (.ref c) none H'
def OSub : Out → Gm → Prop
  | .nx Γ', Γ => Sub Γ' Γ
  | .bk Γ', Γ => Sub Γ' Γ
  | .ct Γ', Γ => Sub Γ' Γ
  | _, _ => True
theorem OSub.trans {o : Out} (h : OSub o Γ1) (h2 : Sub Γ1 Γ) : OSub o Γ := by
  cases o <;> first | exact Sub.trans h h2 | trivial
theorem CtD.on {F : Addr → Prop} {D : Ends} {E : XK} {ow ow1 : Addr → Prop} {A0 A B0 B : Hp} {o : Out} (h : CtD K F D E ow A0 A o) (st : Step ow A0 A B0 B) (ho : ∀ b, ow1 b → ow b ∨ A b = none) : CtD K F D E ow1 B0 B o := by
  cases o with
  | nx Γ' => exact fun σ' H0' H' s S => h σ' H0' H' (st.trans s ho) S
  | bk Γ' => exact fun σ' H0' H' s S => h σ' H0' H' (st.trans s ho) S
  | ct Γ' => exact fun σ' H0' H' s S => h σ' H0' H' (st.trans s ho) S
  | ret d => exact fun v H0' H' s S e => h v H0' H' (st.trans s ho) S e
  | retL xs => exact fun a H0' H' vs s f n q r e => h a H0' H' vs (st.trans s ho) f n q r e
  | retM a ys d => exact fun v H0' H' us s => h v H0' H' us (st.trans s ho)
  | retN a ys xs => exact fun p H0' H' vs us s => h p H0' H' vs us (st.trans s ho)
  | ex c => exact fun H0' H' s => h H0' H' (st.trans s ho)
structure SR (K : PySem.W.Frag) (F : Addr → Prop) (E : XK) (t : TS) (Γ : Gm) (o : Out) : Prop where
  sub : OSub o Γ
  run : ∀ (D : Ends) H0 σ H, StD K F H0 H σ Γ → CtD K F D E (IsOwn Γ) H0 H o → t D σ H
abbrev SX (X : Cx) (F : Addr → Prop) (E : XK) (st : List Stmt) (Γ : Gm) (o : Out) : Prop := SR X.K F E (wpS X st) Γ o
abbrev S1 (X : Cx) (F : Addr → Prop) (E : XK) (st : Stmt) (Γ : Gm) (o : Out) : Prop := SR X.K F E (wp1 X st) Γ o
variable {E : XK} {o : Out}
theorem s1_of {st : Stmt} {t : TS} (h : PS X st t) (q : SR X.K F E t Γ o) : S1 X F E st Γ o := ⟨q.sub, fun D H0 σ H S k pins s I => h.run pins s σ H D I (q.run D H0 σ H S k)⟩
theorem sx_of {st : List Stmt} {t : TS} (h : PSs X st t) (q : SR X.K F E t Γ o) : SX X F E st Γ o := ⟨q.sub, fun D H0 σ H S k pins s I => h.run pins s σ H D I (q.run D H0 σ H S k)⟩
theorem sx_nil : SX X F E [] Γ (.nx Γ) := sx_of pss_nil ⟨Sub.refl, fun D H0 σ H S k => k σ H0 H Step.refl S⟩
theorem sx_cons {st : Stmt} {rest : List Stmt} (h : S1 X F E st Γ (.nx Γ1)) (h2 : SX X F E rest Γ1 o) : SX X F E (st :: rest) Γ o :=
  sx_of (pss_cons psW pssW) ⟨h2.sub.trans h.sub, fun D H0 σ H S k => h.run { D with nx := wpS X rest D } H0 σ H S fun σ' A0 A sa S1 => h2.run D A0 σ' A S1 (CtD.on k sa fun b hb => .inl (h.sub b hb))⟩
def Out.isNx : Out → Bool
  | .nx _ => true
  | _ => false
/-- what follows is not come to -/
theorem sx_stop {st : Stmt} {rest : List Stmt} (h : S1 X F E st Γ o) (hn : o.isNx = false := by rfl) : SX X F E (st :: rest) Γ o :=
  sx_of (pss_cons psW (u := fun _ _ _ => False) ⟨fun _ _ _ _ _ _ z => False.elim z⟩) ⟨h.sub, fun D H0 σ H S k => h.run { D with nx := fun _ _ => False } H0 σ H S (by
    cases o with
    | nx _ => cases hn
    | _ => exact k)⟩
theorem sx_one {st : Stmt} (h : S1 X F E st Γ o) : SX X F E [st] Γ o := sx_of (pss_one psW) h
theorem s1_set {n : Str} {e : Expr} {p1 : Pos} (i : Nat) (hN : X.N.Nodup) (h : EX X F e Γ Γ1 x) (hi : X.N[i]? = some n := by rfl) (hx : Loc X.env.scope n := by first | exact .inl rfl | exact .inr rfl) (hs : swapsWith e (some (.Name n p1)) pos.line X.env = pure false := by rfl)
    (hf : X.fn n = true ∨ X.env.scope.names.lookup n = some .local := by first | exact .inl rfl | exact .inr rfl) : S1 X F E (.Assign [.Name n p1] e pos) Γ (.nx (Γ1.set i (.d x))) :=
  s1_of (ps_set hN hi hx peW hs hf) ⟨Sub.setD.trans h.sub, fun D H0 σ H S k => h.run H0 σ H S _ fun v A0 A sa S1 hv => k _ A0 A sa (S1.set hv)⟩
theorem s1_asg {tg e : Expr} {vs : List Nat} (h : EX X F e Γ Γ1 x) (hg : GX X F tg vs x Γ1 Γ2) (hs : swapsWithSole [tg] e pos.line X.env = pure false := by rfl) (hw : swappedStores [tg] e X.env = pure none := by rfl) (h1 : (assignEach [tg] X.env).map (·.2) = [assign tg X.env] := by rfl) :
    S1 X F E (.Assign [tg] e pos) Γ (.nx Γ2) := by
  obtain ⟨g, pg, eg, sb⟩ := hg
  exact s1_of (ps_asg peW pg hs hw h1) ⟨Sub.trans sb h.sub, fun D H0 σ H S k => h.run H0 σ H S _ fun v A0 A sa S1 hv => eg A0 σ A v S1 hv _ fun σ' S2 _ _ => k σ' A0 A sa S2⟩
/-- a, b = x, y -/
theorem s1_par {n m : Str} {px py pt pt2 : Pos} {kt k2 : Nat} (i j : Nat) (hc : X.calm = true) (hN : X.N.Nodup) (ha : EA X F true [a, b] Γ Γ1 [x, y]) (hi : X.N[i]? = some n := by rfl) (hj : X.N[j]? = some m := by rfl) (hij : i ≠ j := by decide) (hx : X.env.scope.names.lookup n = some .local := by rfl) (hy : X.env.scope.names.lookup m = some .local := by rfl)
    (hw : swappedStores [.Tuple [.Name n px, .Name m py] kt pt] (.Tuple [a, b] k2 pt2) X.env = pure (some [n, m]) := by rfl) (hs : swapsWithSole [.Tuple [.Name n px, .Name m py] kt pt] (.Tuple [a, b] k2 pt2) pos.line X.env = pure false := by rfl) :
    S1 X F E (.Assign [.Tuple [.Name n px, .Name m py] kt pt] (.Tuple [a, b] k2 pt2) pos) Γ (.nx ((Γ1.set i (.d x)).set j (.d y))) :=
  s1_of (ps_par hc hN hi hj hij hx hy paW hw hs) ⟨Sub.setD.trans (Sub.setD.trans ha.sub), fun D H0 σ H S k => ha.run H0 σ H S _ fun vs A0 A sa S1 _ hz => by
    cases hz rfl with
    | cons h1 h2 =>
      cases h2 with
      | cons h2 h3 =>
        cases h3
        exact ⟨_, _, rfl, k _ A0 A sa ((S1.set h1).set h2)⟩⟩
theorem s1_ifT {c : Expr} {th el : List Stmt} (h : TX X F c Γ Γ1 true) (h2 : SX X F E th Γ1 o) : S1 X F E (.If c th el pos) Γ o :=
  s1_of (ps_if ptW pssW (u := fun _ _ _ => False) ⟨fun _ _ _ _ _ _ z => False.elim z⟩) ⟨h2.sub.trans h.sub, fun D H0 σ H S k => h.run H0 σ H S _ fun A0 A sa S1 => iteT (h2.run D A0 σ A S1 (CtD.on k sa fun b hb => .inl (h.sub b hb)))⟩
theorem s1_ifF {c : Expr} {th el : List Stmt} (h : TX X F c Γ Γ1 false) (h2 : SX X F E el Γ1 o) : S1 X F E (.If c th el pos) Γ o :=
  s1_of (ps_if ptW (t := fun _ _ _ => False) ⟨fun _ _ _ _ _ _ z => False.elim z⟩ pssW) ⟨h2.sub.trans h.sub, fun D H0 σ H S k => h.run H0 σ H S _ fun A0 A sa S1 => iteF (h2.run D A0 σ A S1 (CtD.on k sa fun b hb => .inl (h.sub b hb)))⟩
theorem s1_ret {e : Expr} (h : EX X F e Γ Γ1 x) : S1 X F E (.Return (some e) pos) Γ (.ret x) :=
  s1_of (ps_ret peW) ⟨trivial, fun D H0 σ H S k => h.run H0 σ H S _ fun v A0 A sa S1 hv => k v A0 A sa hv S1.ex⟩
theorem s1_retO {n : Str} {p1 : Pos} {a : Addr} {xs : List PD} (i : Nat) (fa : F a) (hG : Γ[i]? = some (.own a xs) := by rfl) (hN : X.N[i]? = some n := by rfl) (hv : Vis X.env.scope n := by first | exact Or.inl rfl | exact Or.inr (Or.inl rfl) | exact Or.inr (Or.inr rfl)) (hd : (n == ("__debug__" : Str)) = false := by decide)
    (hcd : (n == ("__classdict__" : Str)) = false := by decide) : S1 X F E (.Return (some (.Name n p1)) pos) Γ (.retL xs) :=
  s1_of (ps_ret (pe_var hN hv hd hcd)) ⟨trivial, fun D H0 σ H S k => by
    obtain ⟨q1, q2, vs, q3, q4⟩ := S.own i a xs hG
    exact ⟨_, q1, k a H0 H vs Step.refl fa q2 q3 q4 S.ex⟩⟩
/-- handed back; an own list is so at the end -/
theorem s1_retM {e : Expr} {a : Addr} {ys : List PD} (i : Nat) (h : EX X F e Γ Γ1 x) (hG : Γ1[i]? = some (.own a ys) := by rfl) : S1 X F E (.Return (some e) pos) Γ (.retM a ys x) :=
  s1_of (ps_ret peW) ⟨trivial, fun D H0 σ H S k => h.run H0 σ H S _ fun v A0 A sa S1 hv => by
    obtain ⟨q1, q2, vs, q3, q4⟩ := S1.own i a ys hG
    exact k v A0 A vs sa hv q3 q4 S1.ex⟩
theorem s1_retN {n : Str} {p1 : Pos} {a p : Addr} {xs ys : List PD} (i j : Nat) (fa : F p) (hG : Γ[i]? = some (.own p xs) := by rfl) (hG2 : Γ[j]? = some (.own a ys) := by rfl) (hij : i ≠ j := by decide) (hN : X.N[i]? = some n := by rfl) (hv : Vis X.env.scope n := by first | exact Or.inl rfl | exact Or.inr (Or.inl rfl) | exact Or.inr (Or.inr rfl)) (hd : (n == ("__debug__" : Str)) = false := by decide)
    (hcd : (n == ("__classdict__" : Str)) = false := by decide) : S1 X F E (.Return (some (.Name n p1)) pos) Γ (.retN a ys xs) :=
  s1_of (ps_ret (pe_var hN hv hd hcd)) ⟨trivial, fun D H0 σ H S k => by
    obtain ⟨q1, q2, vs, q3, q4⟩ := S.own i p xs hG
    obtain ⟨r1, r2, us, r3, r4⟩ := S.own j a ys hG2
    refine ⟨_, q1, k p H0 H vs us Step.refl fa q2 q3 q4 (fun z => hij ?_) r2 r3 r4 S.ex⟩
    subst z
    exact S.inj i j p xs ys hG hG2⟩
theorem s1_expr {e : Expr} (h : EX X F e Γ Γ1 x) (hs : swapsWith e none pos.line X.env = pure false := by rfl) : S1 X F E (.Expr e pos) Γ (.nx Γ1) :=
  s1_of (ps_expr peW hs) ⟨h.sub, fun D H0 σ H S k => h.run H0 σ H S _ fun v A0 A sa S1 _ => k σ A0 A sa S1⟩
/-- a new list of the def's own -/
theorem sx_own {st : Stmt} {rest : List Stmt} {t : TE} {xs : List PD} (i : Nat) (hp : PS X st (tAsg t (gName i))) (h : EvL X.K F t Γ Γ1 xs) (h2 : ∀ a, F a → ¬ IsOwn Γ1 a → SX X F E rest (Γ1.set i (.own a xs)) o) (ho : OSub o Γ) : SX X F E (st :: rest) Γ o :=
  sx_of (pss_cons hp pssW) ⟨ho, fun D H0 σ H S k => h.run H0 σ H S _ fun p A0 A vs sa S1 fp hpn h0 no hA hd =>
    (h2 p fp no).run D A0 _ A (S1.setOwn h0 hA (fun b o _ e => e) hd fun j ys e => absurd ⟨j, ys, e⟩ no) (CtD.on k sa fun b ⟨j, ys, e⟩ => by
      by_cases z : i = j
      · subst z
        by_cases l : i < Γ1.length
        · rw [List.getElem?_set_self (by exact l)] at e
          cases e
          exact .inr hpn
        · rw [List.getElem?_eq_none (by rw [List.length_set]; omega)] at e; cases e
      · rw [List.getElem?_set_ne z] at e
        exact .inl (h.sub b ⟨j, ys, e⟩))⟩
theorem sx_setL {n : Str} {e : Expr} {p1 : Pos} {rest : List Stmt} {xs : List PD} (i : Nat) (hN : X.N.Nodup) (h : EL X F e Γ Γ1 xs) (h2 : ∀ a, F a → ¬ IsOwn Γ1 a → SX X F E rest (Γ1.set i (.own a xs)) o) (ho : OSub o Γ := by trivial) (hi : X.N[i]? = some n := by rfl) (hx : Loc X.env.scope n := by first | exact .inl rfl | exact .inr rfl)
    (hs : swapsWith e (some (.Name n p1)) pos.line X.env = pure false := by rfl) (hf : X.fn n = true ∨ X.env.scope.names.lookup n = some .local := by first | exact .inl rfl | exact .inr rfl) : SX X F E (.Assign [.Name n p1] e pos :: rest) Γ o :=
  sx_own i (ps_set hN hi hx peW hs hf) h h2 ho
/-- name = [.. for ..] -/
theorem sx_setLc {n : Str} {p1 spos : Pos} {rest : List Stmt} {own : List (Str × Nat)} {g : TG} {ds ys : List PD} (i : Nat) (hc : X.calm = true) (hN : X.N.Nodup) (hi : IX X F tg a Γ Γ1 ds) (ok : BlkOk X.N X.env.scope scope own)
    (hg : ∀ (s : Shared) (H : Hp) (C : Addr) (cl : List (Str × Addr)) (fp : List Addr), PG (X.blk s H scope (compEnvC scope cl C X.env) fp) tg g)
    (h : LcX X.K F g tYes (teU X elt scope) (own.map (·.2)) Γ1 ds Γ2 ys) (h2 : ∀ a, F a → ¬ IsOwn Γ2 a → SX X F E rest (Γ2.set i (.own a ys)) o) (ho : OSub o Γ := by trivial) (hl : ds.length ≤ 50000 := by exact Nat.le_of_ble_eq_true rfl) (hs : ∀ x, foldedSetIterable a X.env x = pure x := by intro _; rfl)
    (hy : X.N[i]? = some n := by rfl) (hyl : X.env.scope.names.lookup n = some .local := by rfl) (hsw : swapsWith (.ListComp elt [⟨tg, a, [], 0⟩] scope pos) (some (.Name n p1)) spos.line X.env = pure true := by exact sw_true rfl rfl rfl (by decide +kernel)) : SX X F E (.Assign [.Name n p1] (.ListComp elt [⟨tg, a, [], 0⟩] scope pos) spos :: rest) Γ o := by
  obtain ⟨wi, hpi, hw⟩ := hi.ex
  exact sx_own i (ps_setLc hc hN hy hyl hsw hpi ok hg (fun _ _ _ _ _ => pts_nil) (fun s H' C cl fp => ⟨fun pins s' σ H Q I hq => hq s H' C cl fp pins s' I⟩) hs) (lc_run hw h hl) h2 ho
end
end Dl


set_option maxRecDepth 100000
set_option maxHeartbeats 2000000
namespace Dl
open PySem PySem.Spec PyProof.Rows L2
/-! ### loops -/
def Out.isEnd : Out → Bool
  | .ret _ => true
  | .retL _ => true
  | .retM _ _ _ => true
  | .retN _ _ _ => true
  | .ex _ => true
  | _ => false
inductive ForX (K : PySem.W.Frag) (F : Addr → Prop) (E : XK) (g : TG) (vs : List Nat) (tb : TS) : Gm → List PD → Out → Prop
  | nil {Γ : Gm} : ForX K F E g vs tb Γ [] (.nx Γ)
  | next {Γ Γt Γ1 : Gm} {x : PD} {xs : List PD} {o : Out} : EvG K F g vs x Γ Γt → Sub Γt Γ → SR K F E tb Γt (.nx Γ1) → ForX K F E g vs tb Γ1 xs o → ForX K F E g vs tb Γ (x :: xs) o
  | cont {Γ Γt Γ1 : Gm} {x : PD} {xs : List PD} {o : Out} : EvG K F g vs x Γ Γt → Sub Γt Γ → SR K F E tb Γt (.ct Γ1) → ForX K F E g vs tb Γ1 xs o → ForX K F E g vs tb Γ (x :: xs) o
  | brk {Γ Γt Γ1 : Gm} {x : PD} {xs : List PD} : EvG K F g vs x Γ Γt → Sub Γt Γ → SR K F E tb Γt (.bk Γ1) → ForX K F E g vs tb Γ (x :: xs) (.nx Γ1)
  | stop {Γ Γt : Gm} {x : PD} {xs : List PD} {o : Out} : EvG K F g vs x Γ Γt → Sub Γt Γ → SR K F E tb Γt o → o.isEnd = true → ForX K F E g vs tb Γ (x :: xs) o
theorem ForX.sub {K : PySem.W.Frag} {F : Addr → Prop} {E : XK} {g : TG} {vs : List Nat} {tb : TS} {Γ : Gm} {xs : List PD} {o : Out} (h : ForX K F E g vs tb Γ xs o) : OSub o Γ := by
  induction h with
  | nil => exact Sub.refl
  | next h1 h2 h3 h4 ih => exact ih.trans (Sub.trans h3.sub h2)
  | cont h1 h2 h3 h4 ih => exact ih.trans (Sub.trans h3.sub h2)
  | brk h1 h2 h3 => exact Sub.trans h3.sub h2
  | stop h1 h2 h3 h4 => exact h3.sub.trans h2
inductive WhlX (K : PySem.W.Frag) (F : Addr → Prop) (E : XK) (tc : TT) (tb : TS) : Nat → Gm → Out → Prop
  | done {n : Nat} {Γ Γ1 : Gm} : EvT K F tc Γ Γ1 false → WhlX K F E tc tb n Γ (.nx Γ1)
  | step {n : Nat} {Γ Γ1 Γ2 : Gm} {o : Out} : EvT K F tc Γ Γ1 true → SR K F E tb Γ1 (.nx Γ2) → WhlX K F E tc tb n Γ2 o → WhlX K F E tc tb (n + 1) Γ o
theorem WhlX.sub {K : PySem.W.Frag} {F : Addr → Prop} {E : XK} {tc : TT} {tb : TS} {n : Nat} {Γ : Gm} {o : Out} (h : WhlX K F E tc tb n Γ o) : OSub o Γ := by
  induction h with
  | done h => exact h.sub
  | step h1 h2 h3 ih => exact ih.trans (Sub.trans h2.sub h1.sub)
section
variable {K : PySem.W.Frag} {X : Cx} {F : Addr → Prop} {Γ Γ1 Γ2 : Gm} {x y z : PD} {a b tg : Expr} {pos : Pos} {E : XK} {o : Out}
theorem sr_for {wi : TI} {g : TG} {vs : List Nat} {tb : TS} {ds : List PD} (hi : EvI K F wi Γ Γ1 ds) (h : ForX K F E g vs tb Γ1 ds o) : SR K F E (tFor wi g tb) Γ o := by
  refine ⟨h.sub.trans hi.sub, fun D H0 σ H S k0 => hi.run H0 σ H S _ fun J A0 A sa S1 wk => ?_⟩
  have k := CtD.on k0 sa (ow1 := IsOwn Γ1) fun b hb => .inl (hi.sub b hb)
  refine ⟨fun i m σ' H' => m = ds.length - i ∧ i ≤ ds.length ∧ ∃ (B0 : Hp) (Γi : Gm), StD K F B0 H' σ' Γi ∧ Step (IsOwn Γ1) A0 A B0 H' ∧ ForX K F E g vs tb Γi (ds.drop i) o ∧ Sub Γi Γ1, ⟨ds.length, by omega, Nat.zero_le _, A0, Γ1, S1, Step.refl, h, Sub.refl⟩, ?_⟩
  rintro i m σ1 B ⟨rfl, hile, B0, Γi, SB, st, fx, sb⟩
  have wki := wk B0 B st.im SB.ex
  by_cases hlt : i < ds.length
  · right
    have hx : ds[i]? = some ds[i] := List.getElem?_eq_getElem hlt
    obtain ⟨hgo, hy⟩ := wki.2 i _ hx
    refine ⟨hgo, fun σ' H' => ∃ (C0 : Hp) (Γj : Gm), StD K F C0 H' σ' Γj ∧ Step (IsOwn Γ1) A0 A C0 H' ∧ ForX K F E g vs tb Γj (ds.drop (i + 1)) o ∧ Sub Γj Γ1, fun σ' H' hI => ⟨_, by omega, rfl, hlt, hI⟩, fun v B' hyv => ?_⟩
    obtain ⟨C0, ly, hv⟩ := hy v B' hyv
    have S3 : StD K F C0 B' σ1 Γi := SB.grow ly.gr ly.im ly.ex ly.ls
    have e : ds.drop i = ds[i] :: ds.drop (i + 1) := List.drop_eq_getElem_cons hlt
    have st3 : Step (IsOwn Γ1) A0 A C0 B' := st.trans ly.step (ow1 := IsOwn Γ1) fun b hb => .inl hb
    generalize ds.drop i = dr at fx e
    subst e
    cases fx with
    | @next _ Γt Γu _ _ _ hg hs hb hr =>
      refine hg C0 _ B' v S3 hv _ fun σ2 S4 _ _ => hb.run _ C0 σ2 B' S4 fun σ' D0 D1 s5 S5 => ⟨D0, Γu, S5, st3.trans s5 fun b q => .inl (sb b (hs b q)), hr, Sub.trans hb.sub (Sub.trans hs sb)⟩
    | @cont _ Γt Γu _ _ _ hg hs hb hr =>
      refine hg C0 _ B' v S3 hv _ fun σ2 S4 _ _ => hb.run _ C0 σ2 B' S4 fun σ' D0 D1 s5 S5 => ⟨D0, Γu, S5, st3.trans s5 fun b q => .inl (sb b (hs b q)), hr, Sub.trans hb.sub (Sub.trans hs sb)⟩
    | @brk _ Γt Γu _ _ hg hs hb =>
      refine hg C0 _ B' v S3 hv _ fun σ2 S4 _ _ => hb.run _ C0 σ2 B' S4 fun σ' D0 D1 s5 S5 => k σ' D0 D1 (st3.trans s5 fun b q => .inl (sb b (hs b q))) S5
    | @stop _ Γt _ _ _ hg hs hb he =>
      refine hg C0 _ B' v S3 hv _ fun σ2 S4 _ _ => hb.run _ C0 σ2 B' S4 ?_
      have k2 := CtD.on k st3 (ow1 := IsOwn Γt) fun b q => .inl (sb b (hs b q))
      cases o with
      | nx _ => cases he
      | bk _ => cases he
      | ct _ => cases he
      | _ => exact k2
  · left
    have hie : i = ds.length := by omega
    subst hie
    refine ⟨wki.1, ?_⟩
    rw [List.drop_length] at fx
    cases fx
    exact k σ1 B0 B st SB
theorem s1_for {body : List Stmt} {vs : List Nat} {g : TG} {ds : List PD} (hp : PassesOwn (model X.prog X.w) X.A X.env X.xe) (hc : X.calm = true) (hi : IX X F tg a Γ Γ1 ds) (hg : PG X tg g) (h : ForX X.K F E g vs (wpS X body) Γ1 ds o) (hs : ∀ x, foldedSetIterable a X.env x = pure x := by intro _; rfl) : S1 X F E (.For tg a body [] pos) Γ o := by
  obtain ⟨wi, hpi, hw⟩ := hi.ex
  exact s1_of (ps_for hp hc hpi hg pssW hs) (sr_for hw h)
theorem sr_while {tc : TT} {tb : TS} {n : Nat} (h : WhlX K F E tc tb n Γ o) : SR K F E (tWhile tc tb) Γ o := by
  refine ⟨h.sub, fun D A0 σ A S k => ?_⟩
  refine ⟨fun m σ' H' => ∃ (B0 : Hp) (Γi : Gm), StD K F B0 H' σ' Γi ∧ Step (IsOwn Γ) A0 A B0 H' ∧ WhlX K F E tc tb m Γi o ∧ Sub Γi Γ, ⟨n, A0, Γ, S, Step.refl, h, Sub.refl⟩, ?_⟩
  rintro m σ1 B ⟨B0, Γi, SB, st, wx, sb⟩
  cases wx with
  | done ht => exact ht.run B0 σ1 B SB _ fun C0 C s3 S3 => iteF (k σ1 C0 C (st.trans s3 fun b q => .inl (sb b q)) S3)
  | @step m _ Γu Γv _ ht hb hr =>
    refine ht.run B0 σ1 B SB _ fun C0 C s3 S3 => iteT ?_
    have st3 := st.trans s3 fun b q => .inl (sb b q)
    exact ⟨fun σ' H' => ∃ (D0 : Hp) (Γj : Gm), StD K F D0 H' σ' Γj ∧ Step (IsOwn Γ) A0 A D0 H' ∧ WhlX K F E tc tb m Γj o ∧ Sub Γj Γ, fun σ' H' hI => ⟨m, Nat.lt_succ_self _, hI⟩,
      hb.run _ C0 σ1 C S3 fun σ' D0 D1 s5 S5 => ⟨D0, Γv, S5, st3.trans s5 fun b q => .inl (sb b (ht.sub b q)), hr, Sub.trans hb.sub (Sub.trans ht.sub sb)⟩⟩
theorem s1_while {c : Expr} {body : List Stmt} {n : Nat} (hp : PassesOwn (model X.prog X.w) X.A X.env X.xe) (h : WhlX X.K F E (wpT X c) (wpS X body) n Γ o) : S1 X F E (.While c body [] pos) Γ o :=
  s1_of (ps_while hp ptW pssW) (sr_while h)

/-! ### own lists change -/
theorem std_own {H0 H H' : Hp} {σ : L2.St} {i : Nat} {p : Addr} {xs ys : List PD} {vs : List V} (S : StD K F H0 H σ Γ) (hG : Γ[i]? = some (.own p xs)) (e : H' p = some (.lst vs)) (k : ∀ b o, b ≠ p → H b = some o → H' b = some o) (hd : DpAll K H0 vs ys) (dm : ∀ b, H b ≠ none → H' b ≠ none) :
    StD K F H0 H' σ (Γ.set i (.own p ys)) ∧ Step (IsOwn Γ) H0 H H0 H' := by
  obtain ⟨q1, q2, ws, q3, q4⟩ := S.own i p xs hG
  have S2 := S.setOwn (i := i) q2 e k hd fun j zs hj => S.inj j i p zs xs hj hG
  have es : σ.set i (some (.ref p)) = σ := by
    refine List.ext_getElem? fun j => ?_
    by_cases z : i = j
    · subst z
      rw [q1]
      have l : i < σ.length := (List.getElem?_eq_some_iff.mp q1).1
      exact List.getElem?_set_self l
    · exact List.getElem?_set_ne z
  rw [es] at S2
  exact ⟨S2, fun _ _ h => h, fun b o hn hb => k b o (fun z => hn ⟨i, xs, by rw [z]; exact hG⟩) hb, dm, fun _ _ _ _ z => z⟩
/-- own.append(e) -/
theorem s1_app {n : Str} {e : Expr} {p1 apos cpos : Pos} {p : Addr} {xs : List PD} (i : Nat) (h : EX X F e Γ Γ1 x) (hG : Γ[i]? = some (.own p xs) := by rfl) (hG1 : Γ1[i]? = some (.own p xs) := by rfl) (hl : xs.length ≤ 50000 := by exact Nat.le_of_ble_eq_true rfl) (hN : X.N[i]? = some n := by rfl) (hv : Vis X.env.scope n := by first | exact Or.inl rfl | exact Or.inr (Or.inl rfl) | exact Or.inr (Or.inr rfl))
    (hd : (n == ("__debug__" : Str)) = false := by decide) (hcd : (n == ("__classdict__" : Str)) = false := by decide) (hs : swapsWith (.Call (.Attribute (.Name n p1) "append" apos) [e] [] cpos) none pos.line X.env = pure false := by rfl)
    (hbase : attributeBase (.Name n p1) "append" X.env (eval (.Name n p1) X.env) = eval (.Name n p1) X.env := by rfl)
    (hfew : ((backTo cpos (starEach [e] X.env)).all (fun x => !x.1) && (backToKw cpos (keywordEach [] X.env)).all (fun x => x.1.isSome) && decide (([e] : List Expr).length + ([] : List Keyword).length + (if ([] : List Keyword).isEmpty then 0 else 1) < 30)) = true := by rfl)
    (hline : (apos.endLine == cpos.line) = true := by rfl) (hst : starEach [e] X.env = (false, eval e X.env) :: starEach [] X.env := by rfl) (hplain : (backTo cpos (starEach [] X.env)).any (·.1) = false := by rfl) :
    S1 X F E (.Expr (.Call (.Attribute (.Name n p1) "append" apos) [e] [] cpos) pos) Γ (.nx (Γ1.set i (.own p (xs ++ [x])))) :=
  s1_of (ps_expr (pe_bm PySem.F.plainAttrs_list PySem.F.slot_list_append PySem.F.type_list_append mt_append (pe_var hN hv hd hcd) (pa_cons peW pa_nil hst) hbase hfew hline hst hplain) hs) ⟨(Sub.setOwn hG1).trans h.sub, fun D H0 σ H S k => by
    obtain ⟨q1, q2, ws, q3, q4⟩ := S.own i p xs hG
    refine ⟨_, q1, .inl ⟨rfl, ws, .inl (.inl q3)⟩, h.run H0 σ H S _ fun v A0 A sa S1 hv => ?_⟩
    obtain ⟨r1, r2, us, r3, r4⟩ := S1.own i p xs hG1
    refine ⟨p, us, v, rfl, rfl, r3, Evl.sz_lt (by rw [dpa_len r4]; omega), ?_⟩
    obtain ⟨S2, s2⟩ := std_own (H' := upd A p (.lst (us ++ [v]))) S1 hG1 upd_same (fun b o hb e => by rw [upd_ne hb]; exact e) (dpa_app r4 (dpa_one hv)) fun b hb => by
      by_cases z : b = p
      · rw [z, upd_same]; exact fun z => nomatch z
      · rw [upd_ne z]; exact hb
    exact k σ A0 _ (sa.trans s2 (sub_old h.sub)) S2⟩
/-- own[b] = e -/
theorem s1_setO {n : Str} {e b : Expr} {p1 p2 : Pos} {p : Addr} {xs : List PD} {j : Int} (i : Nat) (h : EX X F e Γ Γ1 x) (hb : EX X F b Γ1 Γ1 (.int j)) (hG : Γ1[i]? = some (.own p xs) := by rfl) (hj : 0 ≤ j ∧ j.toNat < xs.length) (hN : X.N[i]? = some n := by rfl) (hv : Vis X.env.scope n := by first | exact Or.inl rfl | exact Or.inr (Or.inl rfl) | exact Or.inr (Or.inr rfl))
    (hd : (n == ("__debug__" : Str)) = false := by decide) (hcd : (n == ("__classdict__" : Str)) = false := by decide)
    (ha : ∀ v, assign (.Subscript (.Name n p1) b p2) X.env v = (do
      let ov ← holding [v] (eval (.Name n p1) X.env)
      let iv ← holding [v, ov] (eval b X.env)
      standAt p2
      holding [v, ov, iv] (setItem ov iv v)
      release [v, ov, iv] []) := by intro _; rfl)
    (hs : swapsWithSole [.Subscript (.Name n p1) b p2] e pos.line X.env = pure false := by rfl) (hw : swappedStores [.Subscript (.Name n p1) b p2] e X.env = pure none := by rfl) (h1 : (assignEach [.Subscript (.Name n p1) b p2] X.env).map (·.2) = [assign (.Subscript (.Name n p1) b p2) X.env] := by rfl) :
    S1 X F E (.Assign [.Subscript (.Name n p1) b p2] e pos) Γ (.nx (Γ1.set i (.own p (xs.set j.toNat x)))) :=
  s1_of (ps_asg peW (pg_sub (pe_var hN hv hd hcd) peW set_list ha) hs hw h1) ⟨(Sub.setOwn hG).trans h.sub, fun D H0 σ H S k => h.run H0 σ H S _ fun v A0 A sa S1 hv => by
    obtain ⟨q1, q2, ws, q3, q4⟩ := S1.own i p xs hG
    refine ⟨_, q1, hb.run A0 σ A S1 _ fun w B0 B sb S2 hw => ?_⟩
    cases hw
    obtain ⟨r1, r2, us, r3, r4⟩ := S2.own i p xs hG
    have e : ixN us.length j = some j.toNat := by
      have e2 : j = ((j.toNat : Nat) : Int) := by omega
      rw [e2]
      exact Evl.ixN_nat (by rw [dpa_len r4]; exact hj.2)
    refine ⟨p, us, j, j.toNat, rfl, rfl, r3, e, ?_⟩
    obtain ⟨S3, s3⟩ := std_own (H' := upd B p (.lst (us.set j.toNat v))) S2 hG upd_same (fun b o hb e => by rw [upd_ne hb]; exact e) (dpa_set r4 (dp_ex sb.im _ _ hv)) fun b hb => by
      by_cases z : b = p
      · rw [z, upd_same]; exact fun z => nomatch z
      · rw [upd_ne z]; exact hb
    exact k σ B0 _ ((sa.trans sb (sub_old h.sub)).trans s3 (sub_old (hb.sub.trans h.sub))) S3⟩
/-- an own list is changed no more -/
theorem sx_freeze {st : List Stmt} {p : Addr} {xs : List PD} (i : Nat) (hG : Γ[i]? = some (.own p xs)) (h : SX X F E st (Γ.set i (.d (.list xs))) o) : SX X F E st Γ o :=
  ⟨h.sub.trans Sub.setD, fun D H0 σ H S k => by
    obtain ⟨H1, e1, e2, _, S2⟩ := S.freeze hG
    refine h.run D H1 σ H S2 (CtD.on k ⟨e1, fun _ _ _ h => h, fun _ h => h, fun b zs hn hb z => ?_⟩ fun b q => .inl (Sub.setD b q))
    rw [e2 b (fun q => hn ⟨i, xs, by rw [q]; exact hG⟩)]
    exact z⟩
/-! ### raise -/
theorem s1_raise {C : Addr} {n m : Str} {j : Nat} {p1 p2 p3 : Pos} {bmB : List Value} {B newId initId : String} (hc : X.calm = true) (tk : Takes X (fun cls d _ H => E cls d H)) (Fb : ExcBaseFacts B newId initId bmB) (q : PySem.W.excIn X.K C bmB newId = true) (gC : X.mg n = some (.ref C)) (kC : PySem.W.keepIn X.K (.ref C) = true) (r : Raises X (.ref C))
    (hg : Gl X n := by rfl) (hdb : (n == ("__debug__" : Str)) = false := by decide) : S1 X F E (.Raise (some (.Call (.Name n p1) [.Constant (.str m) j p2] [] p3)) none pos) Γ (.ex C) :=
  s1_of (ps_raise hc tk (pmk_own Fb q gC kC r hg hdb)) ⟨trivial, fun D H0 σ H S k => k H0 H Step.refl⟩
end
/-! ### defs -/
def startG (N : List Str) (xs : List PD) : Gm := xs.map Sl.d ++ List.replicate (N.length - xs.length) Sl.no
theorem start_std {K : PySem.W.Frag} {H : Hp} {N : List Str} {vs : List V} {xs : List PD} (h : DpAll K H vs xs) : StD K (fun b => H b = none) H H (L2.start N vs) (startG N xs) := by
  have l := dpa_len h
  have no : ∀ (i : Nat) (a : Addr) (ys : List PD), (startG N xs)[i]? = some (.own a ys) → False := fun i a ys e => by
    unfold startG at e
    by_cases q : i < (xs.map Sl.d).length
    · rw [List.getElem?_append_left q, List.getElem?_map] at e
      cases z : xs[i]? with
      | none => rw [z] at e; cases e
      | some w => rw [z] at e; cases e
    · rw [List.getElem?_append_right (by omega)] at e
      have := List.mem_of_getElem? e
      have := List.eq_of_mem_replicate this
      cases this
  refine ⟨by unfold L2.start startG; simp [l], fun _ _ h => h, fun i x e => ?_, fun i a ys e => (no i a ys e).elim, fun i j a ys zs e _ => (no i a ys e).elim, fun b h => h⟩
  unfold startG at e
  by_cases q : i < (xs.map Sl.d).length
  · rw [List.getElem?_append_left q, List.getElem?_map] at e
    have hx : xs[i]? = some x := by
      cases z : xs[i]? with
      | none => rw [z] at e; cases e
      | some w => rw [z] at e; cases e; rfl
    obtain ⟨v, hv, dv⟩ := dpa_get h hx
    refine ⟨v, ?_, dv⟩
    unfold L2.start
    rw [List.getElem?_append_left (by rw [List.length_map]; exact (List.getElem?_eq_some_iff.mp hv).1), List.getElem?_map, hv]
    rfl
  · rw [List.getElem?_append_right (by omega)] at e
    have := List.mem_of_getElem? e
    have := List.eq_of_mem_replicate this
    cases this
/-- what a body's end hands back -/
def Fin : Out → Rs → Prop
  | .ret d, .ok e => d = e
  | .nx _, .ok e => e = .none
  | .ex c, .err e => c = e
  | _, _ => False
structure DefF (P : Program) (w : World) (K : PySem.W.Frag) (mg : Str → Option Value) (n nm : Str) (st : Stmt) : Prop where
  ex : ∃ f fd, FunD K nm nm (defArgs st) (defBody st) (defScope st) [] [] f fd ∧ mg n = some (.ref f)
section
variable {P : Program} {w : World} {K : PySem.W.Frag} {mg : Str → Option Value} {base : Heap} {n nm : Str} {st : Stmt} {N ps : List Str} {k : Nat} {R : List PD → Rs → Prop}
theorem fin_of {X : Cx} {H : Hp} {vs : List V} {xs : List PD} {Q : VK} {E : XK} {body : List Stmt} {o : Out} {r : Rs} (eK : X.K = K) (hv : DpAll K H vs xs) (hk : RsD K H Q E r) (hf : Fin o r) (h : SX X (fun b => H b = none) E body (startG N xs) o) : wpS X body { nx := fun _ H' => Q .non H', rt := Q } (L2.start N vs) H := by
  subst eK
  refine h.run _ H _ H (start_std hv) ?_
  have no : ∀ b, ¬ IsOwn (startG N xs) b := fun b ⟨i, ys, e⟩ => by
    unfold startG at e
    have m := List.mem_of_getElem? e
    rcases List.mem_append.mp m with m | m
    · obtain ⟨_, _, z⟩ := List.mem_map.mp m
      cases z
    · cases List.eq_of_mem_replicate m
  have ex : ∀ {H0' H' : Hp}, Step (IsOwn (startG N xs)) H H H0' H' → Ex H H' := fun s b o hb => s.fr b o (no b) hb
  cases o with
  | nx Γ =>
    cases r with
    | ok e =>
      have : e = .none := hf
      subst this
      exact fun σ' H0' H' s S => hk.2 .non H' (ex s) .non
    | err c => exact hf.elim
  | ret d =>
    cases r with
    | ok e =>
      have : d = e := hf
      subst this
      exact fun v H0' H' s hd he => hk.2 v H' (ex s) (dp_ex he _ _ hd)
    | err c => exact hf.elim
  | ex c =>
    cases r with
    | ok e => exact hf.elim
    | err c' =>
      have : c = c' := hf
      subst this
      exact fun H0' H' s => hk H' (ex s)
  | retL _ => exact hf.elim
  | retM _ _ _ => exact hf.elim
  | retN _ _ _ => exact hf.elim
  | bk _ => exact hf.elim
  | ct _ => exact hf.elim
/-- A DEF THAT RAISES NOTHING -/
theorem cal_of (D : DefF P w K mg n nm st) (S : FnScope N ps (defScope st)) (len : ∀ xs r, R xs r → xs.length = ps.length)
    (hb : ∀ (kV doc pm : Value) (an : Option Addr) (cdv ct : Value) (us : List Value), us.length = ps.length → bindArgs (PySem.W.fnOf nm nm (defArgs st) (defBody st) (defScope st) .none kV doc pm an cdv ct) ⟨us, []⟩ = pure (ps.zip us))
    (body : ∀ (f : Addr) (cdv : Value) (A : Around) (outer : List Env) (s : Shared) (H : Hp) (E : XK) (xs : List PD) (r : Rs), Room k (A.deeper (envOfC nm (defScope st) s.heap.objs.size f cdv)) → R xs r →
      ∃ o, Fin o r ∧ SX (cxOf CX0 P w K mg base N nm (defScope st) f cdv A outer s H E).nox (fun b => H b = none) E (defBody st) (startG N xs) o) : Cal P w K mg base CX0 (k + 1) n ps (spD K R) := by
  obtain ⟨f, fd, Fd, hm⟩ := D.ex
  refine ⟨f, fd, hm, Fd.kp, Fd.bindsN hb, Fd.ok S (fun vs H Q E h => ?_) fun cdv A outer s H vs Q E hr h => ?_⟩
  · obtain ⟨xs, o, h1, h2, _⟩ := h
    rw [dpa_len h1]
    exact len xs o h2
  · obtain ⟨xs, r, h1, h2, h3⟩ := h
    obtain ⟨o, hf, hs⟩ := body f cdv A outer s H E xs r hr h2
    exact ⟨_, PSs.nox pssW, fin_of rfl h1 h3 hf hs⟩
/-- A DEF THAT MAY RAISE -/
theorem cal_ofX (D : DefF P w K mg n nm st) (S : FnScope N ps (defScope st)) (len : ∀ xs r, R xs r → xs.length = ps.length)
    (hb : ∀ (kV doc pm : Value) (an : Option Addr) (cdv ct : Value) (us : List Value), us.length = ps.length → bindArgs (PySem.W.fnOf nm nm (defArgs st) (defBody st) (defScope st) .none kV doc pm an cdv ct) ⟨us, []⟩ = pure (ps.zip us))
    (body : ∀ (f : Addr) (cdv : Value) (A : Around) (outer : List Env) (s : Shared) (H : Hp) (E : XK) (xs : List PD) (r : Rs), Room k (A.deeper (envOfC nm (defScope st) s.heap.objs.size f cdv)) → R xs r →
      ∃ o, Fin o r ∧ SX (cxOf (L2.CX P w) P w K mg base N nm (defScope st) f cdv A outer s H E) (fun b => H b = none) E (defBody st) (startG N xs) o) : Cal P w K mg base (L2.CX P w) (k + 1) n ps (spD K R) := by
  obtain ⟨f, fd, Fd, hm⟩ := D.ex
  refine ⟨f, fd, hm, Fd.kp, Fd.bindsN hb, Fd.ok S (fun vs H Q E h => ?_) fun cdv A outer s H vs Q E hr h => ?_⟩
  · obtain ⟨xs, o, h1, h2, _⟩ := h
    rw [dpa_len h1]
    exact len xs o h2
  · obtain ⟨xs, r, h1, h2, h3⟩ := h
    obtain ⟨o, hf, hs⟩ := body f cdv A outer s H E xs r hr h2
    exact ⟨_, pssW, fin_of rfl h1 h3 hf hs⟩
end
end Dl


set_option maxRecDepth 100000
set_option maxHeartbeats 2000000
namespace Rs
open PySem PySem.Spec PyProof.Rows L2 Dl
/-! ### the text (printed by wip/gen_head.py) -/
def top (i : Nat) : Stmt := PySem.Challenge.pw_roundsides_k89_whole_chords_of_chords.main.body.getD i (.Pass ⟨0, 0, 0, 0⟩)
abbrev s_is_number : Stmt := top 11
abbrev s_common_of : Stmt := top 12
abbrev s_turned_sign : Stmt := top 13
abbrev s_determinant_of : Stmt := top 15
abbrev s_kept_six : Stmt := top 16
abbrev s_are_six : Stmt := top 17
abbrev s_is_curve : Stmt := top 18
abbrev s_look_at_curve : Stmt := top 19
abbrev s_is_fraction : Stmt := top 21
abbrev s_fraction_of : Stmt := top 22
abbrev s_frac_sum : Stmt := top 23
abbrev s_frac_less : Stmt := top 24
abbrev s_frac_times : Stmt := top 25
abbrev s_frac_by : Stmt := top 26
abbrev s_look_at_two : Stmt := top 28
abbrev s_slopes_of : Stmt := top 29
abbrev s_numbers_of : Stmt := top 30
abbrev s_whole_discriminant : Stmt := top 31
abbrev s_is_pair_of : Stmt := top 32
abbrev s_is_pair : Stmt := top 33
abbrev s_look_at_pair : Stmt := top 34
abbrev s_cubic_by_pairs : Stmt := top 35
abbrev s_product_of : Stmt := top 37
abbrev s_discriminant_of : Stmt := top 38
abbrev s_look_at_cubic : Stmt := top 39
abbrev s_slope_at : Stmt := top 43
abbrev s_turned : Stmt := top 44
abbrev s_sum_of : Stmt := top 45
abbrev s_times_of : Stmt := top 46
abbrev s_chord_curve : Stmt := top 49
abbrev s_quotient : Stmt := top 56
abbrev s_powers_of : Stmt := top 57
abbrev s_summed : Stmt := top 58
abbrev s_lesser_two : Stmt := top 59
abbrev s_greater_two : Stmt := top 60
abbrev s_cubic_by_rings : Stmt := top 61
abbrev s_count_cubic : Stmt := top 63
abbrev s_whole_six : Stmt := top 64
abbrev s_cubic_curves : Stmt := top 65
abbrev s__law_cell : Stmt := top 67
abbrev s__law_take : Stmt := top 68
abbrev s__law_shared : Stmt := top 69
abbrev s__law_kept : Stmt := top 70
abbrev s__law_worth : Stmt := top 71
abbrev s__law_both : Stmt := top 72
abbrev s__law_det : Stmt := top 73
abbrev s__law_dual : Stmt := top 74
abbrev s__law_numbers : Stmt := top 75
abbrev s__law_apart : Stmt := top 76
abbrev s__law_is_pair : Stmt := top 77
abbrev s__law_shears : Stmt := top 78
abbrev s__law_moved_curve : Stmt := top 80
abbrev s__law_laid : Stmt := top 81
abbrev s__law_curves : Stmt := top 82
abbrev s__law_ring : Stmt := top 83
abbrev s__law_chord : Stmt := top 84
abbrev s_law : Stmt := top 85
def dd (x n : Str) (st : Stmt) : He.DefD := ⟨(x, none), n, n, defArgs st, defBody st, defScope st, [], []⟩
def fn : List He.DefD := [
  dd "is_number" "is_number" s_is_number,
  dd "common_of" "common_of" s_common_of,
  dd "turned_sign" "turned_sign" s_turned_sign,
  dd "determinant_of" "determinant_of" s_determinant_of,
  dd "kept_six" "kept_six" s_kept_six,
  dd "are_six" "are_six" s_are_six,
  dd "is_curve" "is_curve" s_is_curve,
  dd "look_at_curve" "look_at_curve" s_look_at_curve,
  dd "is_fraction" "is_fraction" s_is_fraction,
  dd "fraction_of" "fraction_of" s_fraction_of,
  dd "frac_sum" "frac_sum" s_frac_sum,
  dd "frac_less" "frac_less" s_frac_less,
  dd "frac_times" "frac_times" s_frac_times,
  dd "frac_by" "frac_by" s_frac_by,
  dd "look_at_two" "look_at_two" s_look_at_two,
  dd "slopes_of" "slopes_of" s_slopes_of,
  dd "numbers_of" "numbers_of" s_numbers_of,
  dd "whole_discriminant" "whole_discriminant" s_whole_discriminant,
  dd "is_pair_of" "is_pair_of" s_is_pair_of,
  dd "is_pair" "is_pair" s_is_pair,
  dd "look_at_pair" "look_at_pair" s_look_at_pair,
  dd "cubic_by_pairs" "cubic_by" s_cubic_by_pairs,
  dd "product_of" "product_of" s_product_of,
  dd "discriminant_of" "discriminant_of" s_discriminant_of,
  dd "look_at_cubic" "look_at_cubic" s_look_at_cubic,
  dd "slope_at" "slope_at" s_slope_at,
  dd "turned" "turned" s_turned,
  dd "sum_of" "sum_of" s_sum_of,
  dd "times_of" "times_of" s_times_of,
  dd "chord_curve" "chord_curve" s_chord_curve,
  dd "quotient" "quotient" s_quotient,
  dd "powers_of" "powers_of" s_powers_of,
  dd "summed" "summed" s_summed,
  dd "lesser_two" "lesser_two" s_lesser_two,
  dd "greater_two" "greater_two" s_greater_two,
  dd "cubic_by_rings" "cubic_by" s_cubic_by_rings,
  dd "count_cubic" "count_cubic" s_count_cubic,
  dd "whole_six" "whole_six" s_whole_six,
  dd "cubic_curves" "cubic_curves" s_cubic_curves,
  dd "_law_cell" "_law_cell" s__law_cell,
  dd "_law_take" "_law_take" s__law_take,
  dd "_law_shared" "_law_shared" s__law_shared,
  dd "_law_kept" "_law_kept" s__law_kept,
  dd "_law_worth" "_law_worth" s__law_worth,
  dd "_law_both" "_law_both" s__law_both,
  dd "_law_det" "_law_det" s__law_det,
  dd "_law_dual" "_law_dual" s__law_dual,
  dd "_law_numbers" "_law_numbers" s__law_numbers,
  dd "_law_apart" "_law_apart" s__law_apart,
  dd "_law_is_pair" "_law_is_pair" s__law_is_pair,
  dd "_law_shears" "_law_shears" s__law_shears,
  dd "_law_moved_curve" "_law_moved_curve" s__law_moved_curve,
  dd "_law_laid" "_law_laid" s__law_laid,
  dd "_law_curves" "_law_curves" s__law_curves,
  dd "_law_ring" "_law_ring" s__law_ring,
  dd "_law_chord" "_law_chord" s__law_chord,
  dd "law" "law" s_law]
def fa : List He.Fa := [
  .glo "is_number",
  .glo "common_of",
  .glo "turned_sign",
  .glo "determinant_of",
  .glo "kept_six",
  .glo "are_six",
  .glo "is_curve",
  .glo "look_at_curve",
  .glo "is_fraction",
  .glo "fraction_of",
  .glo "frac_sum",
  .glo "frac_less",
  .glo "frac_times",
  .glo "frac_by",
  .glo "look_at_two",
  .glo "slopes_of",
  .glo "numbers_of",
  .glo "whole_discriminant",
  .glo "is_pair_of",
  .glo "is_pair",
  .glo "look_at_pair",
  .glo "cubic_by_pairs",
  .glo "product_of",
  .glo "discriminant_of",
  .glo "look_at_cubic",
  .glo "slope_at",
  .glo "turned",
  .glo "sum_of",
  .glo "times_of",
  .glo "chord_curve",
  .glo "quotient",
  .glo "powers_of",
  .glo "summed",
  .glo "lesser_two",
  .glo "greater_two",
  .glo "cubic_by_rings",
  .glo "count_cubic",
  .glo "whole_six",
  .glo "cubic_curves",
  .glo "_law_cell",
  .glo "_law_take",
  .glo "_law_shared",
  .glo "_law_kept",
  .glo "_law_worth",
  .glo "_law_both",
  .glo "_law_det",
  .glo "_law_dual",
  .glo "_law_numbers",
  .glo "_law_apart",
  .glo "_law_is_pair",
  .glo "_law_shears",
  .glo "_law_moved_curve",
  .glo "_law_laid",
  .glo "_law_curves",
  .glo "_law_ring",
  .glo "_law_chord",
  .glo "law",
  .free "isinstance",
  .free "int",
  .free "bool",
  .free "abs",
  .free "tuple",
  .free "len",
  .free "all",
  .free "zip",
  .free "range",
  .free "list",
  .glo "RoundError",
  .glo "NoBottom",
  .glo "NoFraction",
  .glo "NoCurve",
  .glo "NoPair",
  .glo "NoCubic",
  .glo "NoChord",
  .glo "NoSides",
  .glo "TooMany",
  .exc "RoundError",
  .exc "NoBottom",
  .exc "NoFraction",
  .exc "NoCurve",
  .exc "NoPair",
  .exc "NoCubic",
  .exc "NoChord",
  .exc "NoSides",
  .exc "TooMany",
  .exm "NoChord" "NoChord" true,
  .exm "NoCubic" "RoundError" true,
  .exm "NoPair" "RoundError" true,
  .int "MOST_STEPS" 12,
  .glo "NOTHING_spots",
  .glo "NOTHING_rings",
  .glo "ONE",
  .glo "TWO",
  .glo "FOUR",
  .glo "FIRST",
  .glo "COUNTS"]
def loose1 : List Str := [("RoundError" : Str), ("NoBottom" : Str), ("NoFraction" : Str), ("NoCurve" : Str), ("NoPair" : Str), ("NoCubic" : Str), ("NoChord" : Str), ("NoSides" : Str), ("TooMany" : Str), ("is_number" : Str), ("common_of" : Str), ("turned_sign" : Str), ("determinant_of" : Str), ("kept_six" : Str), ("are_six" : Str), ("is_curve" : Str), ("look_at_curve" : Str), ("is_fraction" : Str), ("fraction_of" : Str), ("frac_sum" : Str)]
def loose2 : List Str := [("frac_less" : Str), ("frac_times" : Str), ("frac_by" : Str), ("look_at_two" : Str), ("slopes_of" : Str), ("numbers_of" : Str), ("whole_discriminant" : Str), ("is_pair_of" : Str), ("is_pair" : Str), ("look_at_pair" : Str), ("cubic_by" : Str), ("cubic_by_pairs" : Str), ("product_of" : Str), ("discriminant_of" : Str), ("look_at_cubic" : Str), ("NOTHING_spots" : Str), ("FIRST" : Str), ("slope_at" : Str), ("turned" : Str), ("sum_of" : Str)]
def loose3 : List Str := [("times_of" : Str), ("MOST_STEPS" : Str), ("chord_curve" : Str), ("NOTHING_rings" : Str), ("ONE" : Str), ("TWO" : Str), ("FOUR" : Str), ("COUNTS" : Str), ("quotient" : Str), ("powers_of" : Str), ("summed" : Str), ("lesser_two" : Str), ("greater_two" : Str), ("cubic_by_rings" : Str), ("count_cubic" : Str), ("whole_six" : Str), ("cubic_curves" : Str), ("_law_cell" : Str), ("_law_take" : Str), ("_law_shared" : Str)]
def loose4 : List Str := [("_law_kept" : Str), ("_law_worth" : Str), ("_law_both" : Str), ("_law_det" : Str), ("_law_dual" : Str), ("_law_numbers" : Str), ("_law_apart" : Str), ("_law_is_pair" : Str), ("_law_shears" : Str), ("_law_moved" : Str), ("_law_moved_curve" : Str), ("_law_laid" : Str), ("_law_curves" : Str), ("_law_ring" : Str), ("_law_chord" : Str)]
def iLaw : Nat := 85
/-- names that Python brings -/
structure Bi (mg : Str → Option Value) : Prop where
  isinstance : mg "isinstance" = none
  int : mg "int" = none
  bool : mg "bool" = none
  abs : mg "abs" = none
  tuple : mg "tuple" = none
  len : mg "len" = none
  all : mg "all" = none
  zip : mg "zip" = none
  range : mg "range" = none
  list : mg "list" = none
theorem kb_ii : kitB "int" "int" = some true := by decide +kernel
theorem kb_ib : kitB "int" "bool" = some false := by decide +kernel
theorem kb_tt : kitB "tuple" "tuple" = some true := by decide +kernel
section
variable {X : Cx} {F : Addr → Prop} {Γ Γ1 Γ2 : Gm} {x y z : PD} {a b : Expr} {pos p1 p2 : Pos} {n : Int} {ds : List PD}
theorem ex_isInt (m : X.mg "isinstance" = none) (mt : X.mg "int" = none) (ha : EX X F a Γ Γ1 (.int n)) (hg : Gl X "isinstance" := by rfl) (hgt : Gl X "int" := by rfl)
    (he : starEach [a, .Name "int" p2] X.env = (false, eval a X.env) :: starEach [.Name "int" p2] X.env := by rfl) (he2 : starEach [.Name "int" p2] X.env = (false, eval (.Name "int" p2) X.env) :: starEach [] X.env := by rfl) (hpl : (backTo pos (starEach [.Name "int" p2] X.env)).any (·.1) = false := by rfl) :
    EX X F (.Call (.Name "isinstance" p1) [a, .Name "int" p2] [] pos) Γ Γ1 (.bool true) := ex_isi m mt boot_int ha kb_ii hg hgt he he2 hpl
theorem ex_notBool (m : X.mg "isinstance" = none) (mt : X.mg "bool" = none) (ha : EX X F a Γ Γ1 (.int n)) (hg : Gl X "isinstance" := by rfl) (hgt : Gl X "bool" := by rfl)
    (he : starEach [a, .Name "bool" p2] X.env = (false, eval a X.env) :: starEach [.Name "bool" p2] X.env := by rfl) (he2 : starEach [.Name "bool" p2] X.env = (false, eval (.Name "bool" p2) X.env) :: starEach [] X.env := by rfl) (hpl : (backTo pos (starEach [.Name "bool" p2] X.env)).any (·.1) = false := by rfl) :
    EX X F (.Call (.Name "isinstance" p1) [a, .Name "bool" p2] [] pos) Γ Γ1 (.bool false) := ex_isi m mt boot_bool ha kb_ib hg hgt he he2 hpl
theorem ex_isTup (m : X.mg "isinstance" = none) (mt : X.mg "tuple" = none) (ha : EX X F a Γ Γ1 (.tuple ds)) (hg : Gl X "isinstance" := by rfl) (hgt : Gl X "tuple" := by rfl)
    (he : starEach [a, .Name "tuple" p2] X.env = (false, eval a X.env) :: starEach [.Name "tuple" p2] X.env := by rfl) (he2 : starEach [.Name "tuple" p2] X.env = (false, eval (.Name "tuple" p2) X.env) :: starEach [] X.env := by rfl) (hpl : (backTo pos (starEach [.Name "tuple" p2] X.env)).any (·.1) = false := by rfl) :
    EX X F (.Call (.Name "isinstance" p1) [a, .Name "tuple" p2] [] pos) Γ Γ1 (.bool true) := ex_isi m mt boot_tuple ha kb_tt hg hgt he he2 hpl
end
section
variable {K : PySem.W.Frag} {X : Cx} {F : Addr → Prop} {Γ Γ1 Γ2 : Gm} {x y z : PD} {a b : Expr} {pos p1 p2 : Pos} {i j : Int}
theorem rd_eqI : RD K rEq (.int i) (.int j) (.bool (decide (i = j))) := fun H v w h1 h2 Q k => by
  cases h1
  cases h2
  refine ⟨rfl, k _ fun _ => ?_⟩
  have e : decide (V.int i = V.int j) = decide (i = j) := by
    by_cases c : i = j
    · rw [decide_eq_true c, c]; exact decide_eq_true rfl
    · rw [decide_eq_false c]; exact decide_eq_false fun z => c (V.int.inj z)
  rw [e]
  exact .bl _
theorem rd_neI : RD K rNe (.int i) (.int j) (.bool (!decide (i = j))) := fun H v w h1 h2 Q k => by
  cases h1
  cases h2
  refine ⟨rfl, k _ fun _ => ?_⟩
  have e : decide (V.int i = V.int j) = decide (i = j) := by
    by_cases c : i = j
    · rw [decide_eq_true c, c]; exact decide_eq_true rfl
    · rw [decide_eq_false c]; exact decide_eq_false fun z => c (V.int.inj z)
  rw [e]
  exact .bl _
/-- bounds, by search -/
class BdI (x : Int) (n : outParam Nat) : Prop where
  h : Bd x n
theorem bd_mono {x : Int} {n m : Nat} (h : Bd x n) (l : n ≤ m) : Bd x m := Nat.lt_of_lt_of_le h (Nat.pow_le_pow_right (by decide) l)
instance {x y : Int} {n m : Nat} [h1 : BdI x n] [h2 : BdI y m] : BdI (x * y) (n + m) := ⟨by
  unfold Bd
  rw [Int.natAbs_mul, Nat.pow_add]
  exact Nat.mul_lt_mul'' h1.h h2.h⟩
theorem bd_add2 {x y z : Int} {n m : Nat} (h1 : Bd x n) (h2 : Bd y m) (e : z.natAbs ≤ x.natAbs + y.natAbs) : Bd z (max n m + 1) := by
  have a := bd_mono h1 (Nat.le_max_left n m)
  have b := bd_mono h2 (Nat.le_max_right n m)
  unfold Bd at *
  rw [Nat.pow_succ]
  omega
instance {x y : Int} {n m : Nat} [h1 : BdI x n] [h2 : BdI y m] : BdI (x + y) (max n m + 1) := ⟨bd_add2 h1.h h2.h (by omega)⟩
instance {x y : Int} {n m : Nat} [h1 : BdI x n] [h2 : BdI y m] : BdI (x - y) (max n m + 1) := ⟨bd_add2 h1.h h2.h (by omega)⟩
instance : BdI 0 1 := ⟨show (0 : Int).natAbs < 2 ^ 1 by decide⟩
instance : BdI 1 1 := ⟨show (1 : Int).natAbs < 2 ^ 1 by decide⟩
instance : BdI 2 2 := ⟨show (2 : Int).natAbs < 2 ^ 2 by decide⟩
instance : BdI 3 2 := ⟨show (3 : Int).natAbs < 2 ^ 2 by decide⟩
instance : BdI 4 3 := ⟨show (4 : Int).natAbs < 2 ^ 3 by decide⟩
instance : BdI 18 5 := ⟨show (18 : Int).natAbs < 2 ^ 5 by decide⟩
instance : BdI 27 5 := ⟨show (27 : Int).natAbs < 2 ^ 5 by decide⟩
def MulOk (i j : Int) : Prop := ∃ n m, Bd i n ∧ Bd j m ∧ (n + 1) + (m + 1) ≤ 1000000
theorem mulOk {n m : Nat} [bi : BdI i n] [bj : BdI j m] (h : (n + 1) + (m + 1) ≤ 1000000) : MulOk i j := ⟨n, m, bi.h, bj.h, h⟩
theorem ex_mulI (ha : EX X F a Γ Γ1 (.int i)) (hb : EX X F b Γ1 Γ2 (.int j)) (h : MulOk i j := by exact mulOk (by decide)) : EX X F (.BinOp a .Mult b pos) Γ Γ2 (.int (i * j)) := by
  obtain ⟨n, m, h1, h2, h3⟩ := h
  exact ex_mul ha hb h1 h2 h3
end
section
variable {K : PySem.W.Frag} {X : Cx} {F : Addr → Prop} {Γ Γ1 Γ2 : Gm} {x y z : PD} {a b tg : Expr} {pos p1 p2 : Pos} {i j : Int} {E : XK} {o : Out} {st rest : List Stmt}
theorem s1_whileE {c : Expr} {body : List Stmt} (hp : PassesOwn (model X.prog X.w) X.A X.env X.xe) (h : ∃ n, WhlX X.K F E (wpT X c) (wpS X body) n Γ o) : S1 X F E (.While c body [] pos) Γ o := by
  obtain ⟨n, h⟩ := h
  exact s1_while hp h
theorem sx_forE {body : List Stmt} {vs : List Nat} {g : TG} {ds : List PD} (Pq : Gm → Prop) (hp : PassesOwn (model X.prog X.w) X.A X.env X.xe) (hc : X.calm = true) (hi : IX X F tg a Γ Γ1 ds) (hg : PG X tg g) (h : ∃ Γ', Pq Γ' ∧ ForX X.K F E g vs (wpS X body) Γ1 ds (.nx Γ'))
    (h2 : ∀ Γ', Pq Γ' → SX X F E rest Γ' o) (hs : ∀ x, foldedSetIterable a X.env x = pure x := by intro _; rfl) : SX X F E (.For tg a body [] pos :: rest) Γ o := by
  obtain ⟨Γ', p, f⟩ := h
  exact sx_cons (s1_for hp hc hi hg f hs) (h2 Γ' p)
/-- a loop that folds -/
theorem forx_fold {S : Type} {g : TG} {vs : List Nat} {tb : TS} (G : S → Gm → Prop) (f : S → PD → S) : ∀ (ds : List PD) (s : S) (Γ : Gm), G s Γ → (∀ (s : S) (x : PD) (Γ : Gm), x ∈ ds → G s Γ → ∃ Γt Γ1, EvG K F g vs x Γ Γt ∧ Sub Γt Γ ∧ SR K F E tb Γt (.nx Γ1) ∧ G (f s x) Γ1) →
    ∃ Γ', G (ds.foldl f s) Γ' ∧ ForX K F E g vs tb Γ ds (.nx Γ')
  | [], s, Γ, h, _ => ⟨Γ, h, .nil⟩
  | x :: ds, s, Γ, h, st => by
    obtain ⟨Γt, Γ1, h1, h2, h3, h4⟩ := st s x Γ List.mem_cons_self h
    obtain ⟨Γ', h5, h6⟩ := forx_fold G f ds (f s x) Γ1 h4 fun s y Γ hy => st s y Γ (List.mem_cons_of_mem _ hy)
    exact ⟨Γ', h5, .next h1 h2 h3 h6⟩
theorem forx_foldP {S : Type} {Pq : Gm → Prop} {g : TG} {vs : List Nat} {tb : TS} (G : S → Gm → Prop) (f : S → PD → S) {ds : List PD} {s : S} {Γ : Gm} (h0 : G s Γ) (st : ∀ (s : S) (x : PD) (Γ : Gm), x ∈ ds → G s Γ → ∃ Γt Γ1, EvG K F g vs x Γ Γt ∧ Sub Γt Γ ∧ SR K F E tb Γt (.nx Γ1) ∧ G (f s x) Γ1)
    (he : ∀ Γ', G (ds.foldl f s) Γ' → Pq Γ') : ∃ Γ', Pq Γ' ∧ ForX K F E g vs tb Γ ds (.nx Γ') := by
  obtain ⟨Γ', h1, h2⟩ := forx_fold G f ds s Γ h0 st
  exact ⟨Γ', he Γ' h1, h2⟩
end
abbrev DF (P : Program) (w : World) (K : PySem.W.Frag) (mg : Str → Option Value) (n : Str) (st : Stmt) : Prop := DefF P w K mg n n st
end Rs


set_option maxRecDepth 100000
set_option maxHeartbeats 0
namespace Rs
open PySem PySem.Spec PyProof.Rows L2 Dl
abbrev RowR : PySem.W.OpenRow := PySem.W.OpenLaw.row PySem.Challenge.rw_roundsides_k89_whole_chords_of_chords
/-- the tables of the top: pairs of whole numbers -/
def tup2 (K : PySem.W.Frag) (a : Addr) (i j : Int) : Bool := match K.lookup a with
  | some ⟨.type c, _, .seq its _, _⟩ => decide (c = "tuple") && (decide (its.size ≤ sizeLine) && He.relAll [.int i, .int j] its.toList)
  | _ => false
def item (K : PySem.W.Frag) (a : Addr) (i : Nat) : Addr := match K.lookup a with
  | some ⟨_, _, .seq its _, _⟩ => (match its.toList[i]? with
    | some (.ref b) => b
    | _ => 0)
  | _ => 0
def exB (K : PySem.W.Frag) : Bool :=
  tup2 K (He.ga K "NOTHING_spots") 0 1 && (tup2 K (He.ga K "NOTHING_rings") 0 1 && (tup2 K (He.ga K "ONE") 1 1 && (tup2 K (He.ga K "TWO") 2 1 && (tup2 K (He.ga K "FOUR") 4 1 &&
  (He.tupB K "FIRST" [.adr (fun K => item K (He.ga K "FIRST") 0), .adr (fun K => item K (He.ga K "FIRST") 1)] && (tup2 K (item K (He.ga K "FIRST") 0) 0 1 && (tup2 K (item K (He.ga K "FIRST") 1) 1 1 &&
  (He.tupB K "COUNTS" [.int 3, .int 4, .int 5, .int 6, .int 7, .int 8, .int 9, .int 10, .int 12] && seerB K))))))))
abbrev AlR : Type := He.AlD × Bool
def frR (g : Addr → Option Obj) : PySem.W.Frag := He.frG g (He.asD g 4 ++ [cStatics, sysModules])
def obsR (g : Addr → Option Obj) : AlR := (He.obsD fa fn (frR g), exB (frR g))
def hk : PySem.W.Hook where
  α := AlR
  obs := fun s => obsR s.heap.get?
  val := fun _ => (He.valD fn, true)
  says := fun _ h => ∃ K : PySem.W.Frag, K.In h ∧ He.SaysD fa fn K ∧ exB K = true
  of := fun _ _ e => ⟨_, He.frG_in, congrArg (fun z : AlR => z.1) e, congrArg (fun z : AlR => z.2) e⟩
  keeps := fun _ _ _ ⟨K, hK, c⟩ k => ⟨K, PySem.W.Frag.In.keeps hK k, c⟩
def ob (s : PySem.W.SharedT) : AlR := obsR (HandSHeadRun.getT s)
theorem ob_eq (s : PySem.W.SharedT) : ob s = hk.obs s.abs := by
  have e : HandSHeadRun.getT s = s.abs.heap.get? := funext (HandSHeadRun.getT_eq s)
  show obsR _ = obsR _
  rw [e]
theorem run (w : World) : HandSHeadRun.RunEq RowR (PySem.W.view RowR.prog [iLaw]) hk ob 30000 (loose1 ++ (loose2 ++ (loose3 ++ loose4))) w := by
  intro os
  kernel_rfl
end Rs


set_option maxRecDepth 100000
set_option maxHeartbeats 4000000
namespace Rs
open PySem PySem.Spec PyProof.Rows L2 Dl
section
variable {P : Program} {w : World} {K : PySem.W.Frag} {mg : Str → Option Value} {base : Heap}
def R_is_number (xs : List PD) (r : Rs) : Prop := ∃ n : Int, xs = [.int n] ∧ r = .ok (.bool true)
theorem sc_is_number : FnScope ["thing"] ["thing"] (defScope s_is_number) := ⟨rfl, rfl, rfl, by decide +kernel, rfl, by decide +kernel, by decide +kernel⟩
theorem c_is_number (D : DF P w K mg "is_number" s_is_number) (B : Bi mg) : Cal P w K mg base CX0 40 "is_number" ["thing"] (spD K R_is_number) := by
  refine cal_of D sc_is_number (fun xs r ⟨n, h, _⟩ => by rw [h]; rfl) (fun _ _ _ _ _ _ us hl => match us, hl with | [_], _ => rfl) fun f cdv A outer s H E xs r hr h => ?_
  obtain ⟨n, rfl, rfl⟩ := h
  refine ⟨.ret (.bool true), rfl, ?_⟩
  exact sx_stop (s1_ret (ex_andT (ex_isInt B.isinstance B.int (ex_var 0)) (ex_one (ex_not (ex_notBool B.isinstance B.bool (ex_var 0))))))
end
end Rs


set_option maxRecDepth 100000
set_option maxHeartbeats 4000000
namespace Rs
open PySem PySem.Spec PyProof.Rows L2 Dl
theorem while_gcd {K : PySem.W.Frag} {F : Addr → Prop} {E : XK} {tc : TT} {tb : TS} (x n : Sl) (test : ∀ r g : Nat, EvT K F tc [x, .d (.int g), n, .d (.int r)] [x, .d (.int g), n, .d (.int r)] (!decide ((r : Int) = 0)))
    (step : ∀ r g : Nat, r ≠ 0 → SR K F E tb [x, .d (.int g), n, .d (.int r)] (.nx [x, .d (.int r), n, .d (.int ((g : Int) % (r : Int)))])) : ∀ r g : Nat, ∃ k, WhlX K F E tc tb k [x, .d (.int g), n, .d (.int r)] (.nx [x, .d (.int (Nat.gcd g r : Nat)), n, .d (.int 0)]) := by
  intro r
  induction r using Nat.strongRecOn with
  | _ r ih =>
    intro g
    by_cases h : r = 0
    · subst h
      have t := test 0 g
      refine ⟨0, ?_⟩
      rw [Nat.gcd_zero_right]
      exact .done t
    · have t := test r g
      have e : (!decide ((r : Int) = 0)) = true := by rw [decide_eq_false (by omega)]; rfl
      rw [e] at t
      obtain ⟨k, hk⟩ := ih (g % r) (Nat.mod_lt _ (Nat.pos_of_ne_zero h)) r
      refine ⟨k + 1, .step t (step r g h) ?_⟩
      have e2 : Nat.gcd r (g % r) = Nat.gcd g r := by rw [Nat.gcd_comm g r, Nat.gcd_rec r g, Nat.gcd_comm]
      rw [e2] at hk
      exact hk
section
variable {P : Program} {w : World} {K : PySem.W.Frag} {mg : Str → Option Value} {base : Heap}
/-! ### common_of -/
def R_common (xs : List PD) (r : Rs) : Prop := ∃ ns : List Int, xs = [.tuple (ns.map PyData.int)] ∧ r = .ok (.int (gcdL ns : Int))
theorem sc_common : FnScope ["numbers", "found", "number", "rest"] ["numbers"] (defScope s_common_of) := ⟨rfl, rfl, rfl, by decide +kernel, rfl, by decide +kernel, by decide +kernel⟩
theorem c_common (D : DF P w K mg "common_of" s_common_of) (B : Bi mg) : Cal P w K mg base CX0 40 "common_of" ["numbers"] (spD K R_common) := by
  refine cal_of D sc_common (fun xs r ⟨n, h, _⟩ => by rw [h]; rfl) (fun _ _ _ _ _ _ us hl => match us, hl with | [_], _ => rfl) fun f cdv A outer s H E xs r hr h => ?_
  obtain ⟨ns, rfl, rfl⟩ := h
  refine ⟨.ret (.int (gcdL ns : Int)), rfl, ?_⟩
  have nd := sc_common.nd
  refine sx_cons (s1_set 1 nd ex_int) ?_
  refine sx_forE (vs := [2]) (fun Γ => ∃ s2 s3, Γ = [.d (.tuple (ns.map PyData.int)), .d (.int (gcdL ns : Int)), s2, s3]) PassesOwn.never rfl (ix_tupD (ex_var 0)) (pg_name (i := 2) nd rfl (.inl rfl)) ?_ (fun Γ' hΓ => ?_)
  · refine forx_foldP (S := Nat) (fun g Γ => ∃ s2 s3, Γ = [.d (.tuple (ns.map PyData.int)), .d (.int (g : Int)), s2, s3]) (fun g x => match x with | .int n => Nat.gcd g n.natAbs | _ => g) (s := 0) ⟨.no, .no, rfl⟩ ?_ ?_
    · rintro g x Γ hx ⟨s2, s3, rfl⟩
      obtain ⟨n, _, rfl⟩ := List.mem_map.mp hx
      refine ⟨_, [.d (.tuple (ns.map PyData.int)), .d (.int (Nat.gcd g n.natAbs : Nat)), .d (.int n), .d (.int 0)], eg_name, Sub.setD, ?_, ⟨_, _, rfl⟩⟩
      refine sx_cons (s1_set 3 nd (ex_abs B.abs (ex_var 2))) ?_
      refine sx_one (s1_whileE PassesOwn.never (while_gcd _ _ (fun r g => ?_) (fun r g hr => ?_) n.natAbs g))
      · exact tx_cmp op_ne rd_neI (ex_var 3) ex_int
      · exact sx_one (s1_par 1 3 rfl nd (ea_cons (ex_var 3) (ea_cons (ex_mod (ex_var 1) (ex_var 3) (by omega)) ea_nil)))
    · rintro Γ' ⟨s2, s3, e⟩
      refine ⟨s2, s3, ?_⟩
      rw [e, List.foldl_map]
      rfl
  · obtain ⟨s2, s3, rfl⟩ := hΓ
    exact sx_stop (s1_ret (ex_var 1))
end
end Rs


set_option maxRecDepth 100000
set_option maxHeartbeats 4000000
namespace Rs
open PySem PySem.Spec PyProof.Rows L2 Dl
theorem ex_is {X : Cx} {F : Addr → Prop} {Γ Γ1 : Gm} {x y : PD} {a : Expr} (h : EX X F a Γ Γ1 y) (e : y = x) : EX X F a Γ Γ1 x := e ▸ h
theorem tx_is {X : Cx} {F : Addr → Prop} {Γ Γ1 : Gm} {x y : Bool} {a : Expr} (h : TX X F a Γ Γ1 y) (e : y = x) : TX X F a Γ Γ1 x := e ▸ h
theorem nol_ints : ∀ ns : List Int, NoL (.tuple (ns.map PyData.int)) = true
  | [] => rfl
  | n :: ns => nol_ints ns
/-- the room of a leaf is room for // of great numbers -/
theorem wd_of {P : Program} {w : World} {K : PySem.W.Frag} {mg : Str → Option Value} {base : Heap} {N : List Str} {q : Str} {sc : Scope} {f : Addr} {cdv : Value} {A : Around} {outer : List Env} {s : Shared} {H : Hp} {E : XK} {k : Nat} {CX : CXT} (ht : P.given.tree = none) (hs : seerB K = true) (hr : Room k (A.deeper (envOfC q sc s.heap.objs.size f cdv))) (hk : 33 ≤ k) (g1 : sc.isGenerator = false) (g2 : sc.isCoroutine = false) :
    Wd (cxOf CX P w K mg base N q sc f cdv A outer s H E) := ⟨ht, by have := hr.dp; show (A.deeper _).depth + 100 < 1000; have e : recursionLimit = 1000 := rfl; omega, hs, ⟨_, outer, rfl, g1, g2, rfl, rfl⟩⟩
/-- of a list that is walked to its first number that isn't 0 -/
theorem for_sign {K : PySem.W.Frag} {F : Addr → Prop} {E : XK} {tb : TS} {T res : PD} {sg : Int} (h0 : SR K F E tb [.d T, .d (.int 0), .no] (.nx [.d T, .d (.int 0), .no])) (hp : ∀ n : Int, 0 < n → sg = 1 → SR K F E tb [.d T, .d (.int n), .no] (.ret res)) (hm : ∀ n : Int, n < 0 → sg = -1 → SR K F E tb [.d T, .d (.int n), .no] (.ret res)) :
    ∀ (l : List Int) (s1 : Sl), sgnL l = sg → (∃ Γ', ForX K F E (gName 1) [1] tb [.d T, s1, .no] (l.map PyData.int) (.nx Γ') ∧ (sg = 1 ∧ ∃ s1', Γ' = [.d T, s1', .no])) ∨ ForX K F E (gName 1) [1] tb [.d T, s1, .no] (l.map PyData.int) (.ret res)
  | [], s1, h => .inl ⟨_, .nil, h.symm, s1, rfl⟩
  | n :: l, s1, h => by
    have e : sgnL (n :: l) = if 0 < n then 1 else if n < 0 then -1 else sgnL l := rfl
    rw [e] at h
    by_cases c : 0 < n
    · rw [if_pos c] at h
      exact .inr (.stop eg_name Sub.setD (hp n c h.symm) rfl)
    · rw [if_neg c] at h
      by_cases c2 : n < 0
      · rw [if_pos c2] at h
        exact .inr (.stop eg_name Sub.setD (hm n c2 h.symm) rfl)
      · rw [if_neg c2] at h
        have z : n = 0 := by omega
        subst z
        rcases for_sign h0 hp hm l (.d (.int 0)) h with ⟨Γ', h1, h2⟩ | h1
        · exact .inl ⟨Γ', .next eg_name Sub.setD h0 h1, h2⟩
        · exact .inr (.next eg_name Sub.setD h0 h1)
theorem sx_for2 {X : Cx} {F : Addr → Prop} {E : XK} {Γ Γ1 : Gm} {tg a : Expr} {pos : Pos} {body rest : List Stmt} {vs : List Nat} {g : TG} {ds : List PD} {o : Out} {Pq : Gm → Prop} (hp : PassesOwn (model X.prog X.w) X.A X.env X.xe) (hc : X.calm = true) (hi : IX X F tg a Γ Γ1 ds) (hg : PG X tg g)
    (h : (∃ Γ', ForX X.K F E g vs (wpS X body) Γ1 ds (.nx Γ') ∧ Pq Γ') ∨ ForX X.K F E g vs (wpS X body) Γ1 ds o) (h2 : ∀ Γ', Pq Γ' → SX X F E rest Γ' o) (ho : o.isNx = false := by rfl) (hs : ∀ x, foldedSetIterable a X.env x = pure x := by intro _; rfl) : SX X F E (.For tg a body [] pos :: rest) Γ o := by
  rcases h with ⟨Γ', f, p⟩ | f
  · exact sx_cons (s1_for hp hc hi hg f hs) (h2 Γ' p)
  · exact sx_stop (s1_for hp hc hi hg f hs) ho
section
variable {P : Program} {w : World} {K : PySem.W.Frag} {mg : Str → Option Value} {base : Heap}
/-! ### turned_sign -/
def R_turned (xs : List PD) (r : Rs) : Prop := ∃ ns : List Int, ns.length ≤ 1000 ∧ xs = [.tuple (ns.map PyData.int)] ∧ r = .ok (.tuple ((ns.map fun n => sgnL ns * n).map PyData.int))
theorem sc_turned : FnScope ["some", "number", "other"] ["some"] (defScope s_turned_sign) := ⟨rfl, rfl, rfl, by decide +kernel, rfl, by decide +kernel, by decide +kernel⟩
theorem c_turned (D : DF P w K mg "turned_sign" s_turned_sign) (B : Bi mg) : Cal P w K mg base CX0 40 "turned_sign" ["some"] (spD K R_turned) := by
  refine cal_of D sc_turned (fun xs r ⟨n, _, h, _⟩ => by rw [h]; rfl) (fun _ _ _ _ _ _ us hl => match us, hl with | [_], _ => rfl) fun f cdv A outer s H E xs r hr h => ?_
  obtain ⟨ns, hl, rfl, rfl⟩ := h
  refine ⟨.ret _, rfl, ?_⟩
  have nd := sc_turned.nd
  have same : sgnL ns = 1 → PyData.tuple (ns.map PyData.int) = PyData.tuple ((ns.map fun n => sgnL ns * n).map PyData.int) := fun e => by
    rw [e]
    congr 1
    rw [List.map_map]
    exact List.map_congr_left fun n _ => by show PyData.int n = PyData.int (1 * n); rw [Int.one_mul]
  refine sx_for2 PassesOwn.never rfl (ix_tupD (ex_var 0)) (pg_name (i := 1) nd rfl (.inl rfl)) (for_sign (sg := sgnL ns) ?_ (fun n hn hs => ?_) (fun n hn hs => ?_) ns .no rfl) (fun Γ' ⟨hs, s1', e⟩ => ?_)
  · exact sx_cons (s1_ifF (tx_cmp op_gt rd_B0 (ex_var 1) ex_int) sx_nil) (sx_one (s1_ifF (tx_cmp op_lt rd_B0 (ex_var 1) ex_int) sx_nil))
  · refine sx_stop (s1_ifT (tx_is (tx_cmp op_gt rd_B0 (ex_var 1) ex_int) (decide_eq_true hn)) (sx_stop (s1_ret (ex_is (ex_var 0) (same hs)))))
  · refine sx_cons (s1_ifF (tx_is (tx_cmp op_gt rd_B0 (ex_var 1) ex_int) (decide_eq_false (by omega))) sx_nil) (sx_stop (s1_ifT (tx_is (tx_cmp op_lt rd_B0 (ex_var 1) ex_int) (decide_eq_true hn)) (sx_stop (s1_ret (ex_is (ex_tuple B.tuple (el_lc (own := [("other", 2)]) (g := gName 2) rfl nd (ix_tupD (ex_var 0)) (blkOk_by (N := ["some", "number", "other"]) (sc := defScope s_turned_sign) (by decide +kernel))
      (fun _ _ _ _ _ => pg_name (i := 2) nd rfl (Or.inl rfl)) (lcx_map (fun d => match d with | .int m => .int (0 - m) | d => d) rfl _ fun d hd => ?_) (by rw [List.length_map]; omega))) ?_)))))
    · obtain ⟨m, _, rfl⟩ := List.mem_map.mp hd
      exact ⟨_, eg_name, Sub.setD, ev_U Sub.refl fun s' H' C cl fp => ex_sub ex_int (ex_var 2), rfl⟩
    · rw [hs]
      congr 1
      rw [List.map_map, List.map_map]
      exact List.map_congr_left fun n _ => by show PyData.int (0 - n) = PyData.int (-1 * n); congr 1; omega
  · subst e
    exact sx_stop (s1_ret (ex_is (ex_var 0) (same hs)))
end
end Rs


set_option maxRecDepth 100000
set_option maxHeartbeats 4000000
namespace Rs
open PySem PySem.Spec PyProof.Rows L2 Dl
/-- six numbers as data -/
def cD (x : C6) : PD := .tuple [.int x.a, .int x.b, .int x.c, .int x.d, .int x.e, .int x.f]
theorem cD_l (x : C6) : cD x = .tuple (x.l.map PyData.int) := rfl
/-- fewer than 60000 bits each -/
def CB (x : C6) : Prop := Cb x 59999
structure CBI (x : C6) : Prop where
  a : BdI x.a 60000
  b : BdI x.b 60000
  c : BdI x.c 60000
  d : BdI x.d 60000
  e : BdI x.e 60000
  f : BdI x.f 60000
theorem CB.i {x : C6} (h : CB x) : CBI x := by
  obtain ⟨h1, h2, h3, h4, h5, h6⟩ := cb_iff.mp h
  have f : ∀ {z : Int}, z.natAbs ≤ 2 ^ 59999 → BdI z 60000 := fun q => ⟨Nat.lt_of_le_of_lt q (Nat.pow_lt_pow_right (by decide) (by decide))⟩
  exact ⟨f h1, f h2, f h3, f h4, f h5, f h6⟩
theorem eqv_self {d : PD} (h : d.canLay0 = true) : PyData.eqv d d = true := SeqAt.eqv_refl d h
theorem units_of {k : Nat} {A : Around} (h : Room k A) : A.units + 64 < cLine := by have := h.un; omega
theorem depth_of {k : Nat} {A : Around} (h : Room k A) (hk : 33 ≤ k) : A.depth + 100 < 1000 := by
  have := h.dp
  have e : recursionLimit = 1000 := rfl
  omega
section
variable {P : Program} {w : World} {K : PySem.W.Frag} {mg : Str → Option Value} {base : Heap}
/-! ### determinant_of -/
def R_det (xs : List PD) (r : Rs) : Prop := ∃ x : C6, CB x ∧ xs = [cD x] ∧ r = .ok (.int x.det)
theorem sc_det : FnScope ["six", "a", "b", "c", "d", "e", "f"] ["six"] (defScope s_determinant_of) := ⟨rfl, rfl, rfl, by decide +kernel, rfl, by decide +kernel, by decide +kernel⟩
theorem c_det (D : DF P w K mg "determinant_of" s_determinant_of) (B : Bi mg) : Cal P w K mg base CX0 40 "determinant_of" ["six"] (spD K R_det) := by
  refine cal_of D sc_det (fun xs r ⟨n, _, h, _⟩ => by rw [h]; rfl) (fun _ _ _ _ _ _ us hl => match us, hl with | [_], _ => rfl) fun f cdv A outer s H E xs r hr h => ?_
  obtain ⟨x, hb, rfl, rfl⟩ := h
  refine ⟨.ret _, rfl, ?_⟩
  have nd := sc_det.nd
  obtain ⟨i1, i2, i3, i4, i5, i6⟩ := hb.i
  refine sx_cons (s1_asg (ex_var 0) (gx_tup (js := [1, 2, 3, 4, 5, 6]) rfl (pns_cons 1 nd (pns_cons 2 nd (pns_cons 3 nd (pns_cons 4 nd (pns_cons 5 nd (pns_cons 6 nd pns_nil)))))))) ?_
  refine sx_stop (s1_ret (ex_sub (ex_sub (ex_sub (ex_add (ex_mulI (ex_mulI (ex_mulI ex_int (ex_var 1)) (ex_var 2)) (ex_var 3)) (ex_mulI (ex_mulI (ex_var 4) (ex_var 5)) (ex_var 6))) (ex_mulI (ex_mulI (ex_var 1) (ex_var 4)) (ex_var 4))) (ex_mulI (ex_mulI (ex_var 2) (ex_var 5)) (ex_var 5))) (ex_mulI (ex_mulI (ex_var 3) (ex_var 6)) (ex_var 6))))
/-! ### kept_six -/
def R_kept (xs : List PD) (r : Rs) : Prop := ∃ x : C6, gcdL x.l ≠ 0 ∧ xs = [cD x] ∧ r = .ok (cD (kept x))
theorem sc_kept : FnScope ["six", "share", "number"] ["six"] (defScope s_kept_six) := ⟨rfl, rfl, rfl, by decide +kernel, rfl, by decide +kernel, by decide +kernel⟩
theorem c_kept (D : DF P w K mg "kept_six" s_kept_six) (B : Bi mg) (ht : P.given.tree = none) (hs : seerB K = true) (C1 : Cal P w K mg base CX0 40 "common_of" ["numbers"] (spD K R_common)) (C2 : Cal P w K mg base CX0 40 "turned_sign" ["some"] (spD K R_turned)) : Cal P w K mg base CX0 41 "kept_six" ["six"] (spD K R_kept) := by
  refine cal_of D sc_kept (fun xs r ⟨n, _, h, _⟩ => by rw [h]; rfl) (fun _ _ _ _ _ _ us hl => match us, hl with | [_], _ => rfl) fun f cdv A outer s H E xs r hr h => ?_
  obtain ⟨x, hg, rfl, rfl⟩ := h
  refine ⟨.ret _, rfl, ?_⟩
  have nd := sc_kept.nd
  refine sx_cons (s1_set 1 nd (ex_call C1 hr (ea_cons (z := false) (ex_var 0) ea_nil) ⟨x.l, rfl, rfl⟩)) ?_
  refine sx_stop (s1_ret (ex_is (ex_call C2 hr (ea_cons (z := false) (ex_tuple B.tuple (el_lc (own := [("number", 2)]) (g := gName 2) rfl nd (ix_tupD (ex_var 0)) (blkOk_by (N := ["six", "share", "number"]) (sc := defScope s_kept_six) (by decide +kernel))
      (fun _ _ _ _ _ => pg_name (i := 2) nd rfl (Or.inl rfl)) (lcx_map (fun d => match d with | .int m => .int (m / (gcdL x.l : Int)) | d => d) rfl _ fun d hd => ?_) (by show 6 ≤ 50000; decide))) ea_nil) ⟨divL x.l, by show 6 ≤ 1000; decide, rfl, rfl⟩) ?_))
  · obtain ⟨m, _, rfl⟩ := List.mem_map.mp (show d ∈ x.l.map PyData.int from hd)
    refine ⟨_, eg_name, Sub.setD, ev_U Sub.refl fun s' H' C cl fp => ex_is (ex_fdivP ⟨ht, depth_of hr (by decide), hs, ⟨_, _, rfl, rfl, rfl, rfl, rfl⟩⟩ (ex_var 2) (ex_var 1) (by omega)) ?_, rfl⟩
    show PyData.int _ = PyData.int _
    rw [Int.fdiv_eq_ediv_of_nonneg _ (Int.natCast_nonneg _)]
  · show PyData.tuple ((keptL x.l).map PyData.int) = PyData.tuple ((kept x).l.map PyData.int)
    rw [kept_l]
/-! ### are_six, is_curve, look_at_curve -/
def R_are_six (xs : List PD) (r : Rs) : Prop := ∃ x : C6, xs = [cD x] ∧ r = .ok (.bool true)
theorem sc_are_six : FnScope ["thing", "number"] ["thing"] (defScope s_are_six) := ⟨rfl, rfl, rfl, by decide +kernel, rfl, by decide +kernel, by decide +kernel⟩
theorem c_are_six (D : DF P w K mg "are_six" s_are_six) (B : Bi mg) (C1 : Cal P w K mg base CX0 40 "is_number" ["thing"] (spD K R_is_number)) : Cal P w K mg base CX0 41 "are_six" ["thing"] (spD K R_are_six) := by
  refine cal_of D sc_are_six (fun xs r ⟨n, h, _⟩ => by rw [h]; rfl) (fun _ _ _ _ _ _ us hl => match us, hl with | [_], _ => rfl) fun f cdv A outer s H E xs r hr h => ?_
  obtain ⟨x, rfl, rfl⟩ := h
  refine ⟨.ret (.bool true), rfl, ?_⟩
  have nd := sc_are_six.nd
  refine sx_stop (s1_ret (ex_andT (ex_isTup B.isinstance B.tuple (ex_var 0)) (ex_andT (ex_is (ex_cmp op_eq rd_eqI (ex_len B.len (ex_var 0) (.inl rfl)) ex_int) rfl) (ex_one (ex_all (bs := [true, true, true, true, true, true]) B.all rfl (el_lc (own := [("number", 1)]) (g := gName 1) rfl nd (ix_tupD (ex_var 0)) (blkOk_by (N := ["thing", "number"]) (sc := defScope s_are_six) (by decide +kernel))
      (fun _ _ _ _ _ => pg_name (i := 1) nd rfl (Or.inl rfl)) (lcx_map (fun _ => .bool true) rfl _ fun d hd => ?_) (by show 6 ≤ 50000; decide)))))))
  obtain ⟨m, _, rfl⟩ := List.mem_map.mp (show d ∈ x.l.map PyData.int from hd)
  exact ⟨_, eg_name, Sub.setD, ev_U Sub.refl fun s' H' C cl fp => ex_call C1 hr (ea_cons (z := false) (ex_var 1) ea_nil) ⟨m, rfl, rfl⟩, rfl⟩
def R_is_curve (xs : List PD) (r : Rs) : Prop := ∃ x : C6, CB x ∧ IsCurve x ∧ xs = [cD x] ∧ r = .ok (.bool true)
theorem sc_is_curve : FnScope ["thing"] ["thing"] (defScope s_is_curve) := ⟨rfl, rfl, rfl, by decide +kernel, rfl, by decide +kernel, by decide +kernel⟩
theorem c_is_curve (D : DF P w K mg "is_curve" s_is_curve) (B : Bi mg) (C1 : Cal P w K mg base CX0 41 "are_six" ["thing"] (spD K R_are_six)) (C2 : Cal P w K mg base CX0 40 "determinant_of" ["six"] (spD K R_det)) (C3 : Cal P w K mg base CX0 41 "kept_six" ["six"] (spD K R_kept)) : Cal P w K mg base CX0 42 "is_curve" ["thing"] (spD K R_is_curve) := by
  refine cal_of D sc_is_curve (fun xs r ⟨n, _, _, h, _⟩ => by rw [h]; rfl) (fun _ _ _ _ _ _ us hl => match us, hl with | [_], _ => rfl) fun f cdv A outer s H E xs r hr h => ?_
  obtain ⟨x, hb, hc, rfl, rfl⟩ := h
  refine ⟨.ret (.bool true), rfl, ?_⟩
  have nd := sc_is_curve.nd
  refine sx_stop (s1_ret (ex_andT (ex_call C1 hr (ea_cons (z := false) (ex_var 0) ea_nil) ⟨x, rfl, rfl⟩) (ex_andT (ex_is (ex_cmp op_ne rd_neI (ex_call C2 (hr.mono (by decide)) (ea_cons (z := false) (ex_var 0) ea_nil) ⟨x, hb, rfl, rfl⟩) ex_int) ?_)
    (ex_one (ex_is (ex_cmp (op_eqD (units_of hr)) (rd_eq rfl rfl) (ex_call C3 hr (ea_cons (z := false) (ex_var 0) ea_nil) ⟨x, gcdL_pos (some_ne hc.1), rfl, rfl⟩) (ex_var 0)) ?_)))))
  · rw [decide_eq_false hc.1]; rfl
  · rw [hc.2]
    exact congrArg PyData.bool (eqv_self rfl)
def R_look (xs : List PD) (r : Rs) : Prop := ∃ x : C6, CB x ∧ IsCurve x ∧ xs = [cD x] ∧ r = .ok .none
theorem sc_look : FnScope ["thing"] ["thing"] (defScope s_look_at_curve) := ⟨rfl, rfl, rfl, by decide +kernel, rfl, by decide +kernel, by decide +kernel⟩
theorem c_look (D : DF P w K mg "look_at_curve" s_look_at_curve) (B : Bi mg) (C1 : Cal P w K mg base CX0 42 "is_curve" ["thing"] (spD K R_is_curve)) : Cal P w K mg base CX0 43 "look_at_curve" ["thing"] (spD K R_look) := by
  refine cal_of D sc_look (fun xs r ⟨n, _, _, h, _⟩ => by rw [h]; rfl) (fun _ _ _ _ _ _ us hl => match us, hl with | [_], _ => rfl) fun f cdv A outer s H E xs r hr h => ?_
  obtain ⟨x, hb, hc, rfl, rfl⟩ := h
  exact ⟨.nx _, rfl, sx_one (s1_ifF (tx_is (tx_not (tx_val (ex_call C1 hr (ea_cons (z := false) (ex_var 0) ea_nil) ⟨x, hb, hc, rfl, rfl⟩))) rfl) sx_nil)⟩
end
end Rs


set_option maxRecDepth 100000
set_option maxHeartbeats 4000000
namespace Rs
open PySem PySem.Spec PyProof.Rows L2 Dl
/-- a fraction as data -/
def fD (x : Rat) : PD := .tuple [.int x.num, .int (x.den : Int)]
/-- a whole quotient's top and bottom, so many times -/
theorem frac_mul {q : Rat} {a b : Int} (hb : b ≠ 0) (e : q * (b : Rat) = a) : ∃ m : Int, m ≠ 0 ∧ a = q.num * m ∧ b = (q.den : Int) * m ∧ (0 < b ↔ 0 < m) ∧ gcdL [a, b] = m.natAbs := by
  have nd := num_den q
  have e2 : q.num * b = a * q.den := by
    refine Rat.intCast_inj.mp ?_
    rw [Rat.intCast_mul, Rat.intCast_mul, ← e, ← nd]
    grind
  have c := cop q
  have d1 : (q.den : Int) ∣ b := by
    have : (q.den : Int) ∣ q.num * b := ⟨a, by rw [e2, Int.mul_comm]⟩
    have h := Int.natAbs_dvd_natAbs.mpr this
    rw [Int.natAbs_mul] at h
    exact Int.natAbs_dvd_natAbs.mp (Nat.Coprime.dvd_of_dvd_mul_left (Nat.Coprime.symm c) h)
  obtain ⟨m, hm⟩ := d1
  have d0 : (q.den : Int) ≠ 0 := by have := q.den_nz; omega
  have dp : (0 : Int) < q.den := by have := q.den_pos; omega
  have ha : a = q.num * m := by
    refine Int.eq_of_mul_eq_mul_right d0 ?_
    rw [← e2, hm]
    grind
  have m0 : m ≠ 0 := fun z => hb (by rw [hm, z, Int.mul_zero])
  refine ⟨m, m0, ha, hm, ?_, ?_⟩
  · rw [hm]
    constructor
    · intro h
      exact Int.pos_of_mul_pos_right h (by omega)
    · intro h
      exact Int.mul_pos dp h
  · show Nat.gcd (Nat.gcd 0 a.natAbs) b.natAbs = _
    rw [Nat.gcd_zero_left, ha, hm, Int.natAbs_mul, Int.natAbs_mul, Nat.gcd_mul_right]
    have : Nat.gcd q.num.natAbs (q.den : Int).natAbs = 1 := c
    rw [this, Nat.one_mul]
theorem gcd_frac (q : Rat) : gcdL [q.num, (q.den : Int)] = 1 := by
  show Nat.gcd (Nat.gcd 0 q.num.natAbs) (q.den : Int).natAbs = 1
  rw [Nat.gcd_zero_left]
  exact cop q
section
variable {P : Program} {w : World} {K : PySem.W.Frag} {mg : Str → Option Value} {base : Heap}
/-! ### fraction_of -/
def R_frac (xs : List PD) (r : Rs) : Prop := ∃ (a b : Int) (q : Rat), b ≠ 0 ∧ q * (b : Rat) = a ∧ xs = [.int a, .int b] ∧ r = .ok (fD q)
theorem sc_frac : FnScope ["top", "bottom", "by"] ["top", "bottom"] (defScope s_fraction_of) := ⟨rfl, rfl, rfl, by decide +kernel, rfl, by decide +kernel, by decide +kernel⟩
theorem c_frac (D : DF P w K mg "fraction_of" s_fraction_of) (B : Bi mg) (ht : P.given.tree = none) (hs : seerB K = true) (C1 : Cal P w K mg base CX0 40 "common_of" ["numbers"] (spD K R_common)) : Cal P w K mg base CX0 41 "fraction_of" ["top", "bottom"] (spD K R_frac) := by
  refine cal_of D sc_frac (fun xs r ⟨_, _, _, _, _, h, _⟩ => by rw [h]; rfl) (fun _ _ _ _ _ _ us hl => match us, hl with | [_, _], _ => rfl) fun f cdv A outer s H E xs r hr h => ?_
  obtain ⟨a, b, q, hb, e, rfl, rfl⟩ := h
  refine ⟨.ret _, rfl, ?_⟩
  have nd := sc_frac.nd
  obtain ⟨m, m0, ea, eb, hs', hg⟩ := frac_mul hb e
  have wd : Wd (cxOf CX0 P w K mg base ["top", "bottom", "by"] "fraction_of" (defScope s_fraction_of) f cdv A outer s H E).nox := ⟨ht, depth_of hr (by decide), hs, ⟨_, _, rfl, rfl, rfl, rfl, rfl⟩⟩
  have fin : SX (cxOf CX0 P w K mg base ["top", "bottom", "by"] "fraction_of" (defScope s_fraction_of) f cdv A outer s H E).nox (fun b => H b = none) E ((defBody s_fraction_of).drop 3) [.d (.int a), .d (.int b), .d (.int m)] (.ret (fD q)) := by
    refine sx_stop (s1_ret (ex_is (ex_tup (ea_cons (ex_fdivP wd (ex_var 0) (ex_var 2) m0) (ea_cons (ex_fdivP wd (ex_var 1) (ex_var 2) m0) ea_nil))) ?_))
    have f1 : a.fdiv m = q.num := by rw [ea]; exact Int.mul_fdiv_cancel _ m0
    have f2 : b.fdiv m = q.den := by rw [eb]; exact Int.mul_fdiv_cancel _ m0
    rw [f1, f2]
    rfl
  refine sx_cons (s1_ifF (tx_is (tx_cmp op_eq rd_eqI (ex_var 1) ex_int) (decide_eq_false hb)) sx_nil) ?_
  refine sx_cons (s1_set 2 nd (ex_call C1 hr (ea_cons (z := false) (ex_tup (ea_cons (ex_var 0) (ea_cons (ex_var 1) ea_nil))) ea_nil) ⟨[a, b], rfl, rfl⟩)) ?_
  by_cases c : b < 0
  · refine sx_cons (s1_ifT (tx_is (tx_cmp op_lt rd_B0 (ex_var 1) ex_int) (decide_eq_true c)) (sx_one (s1_set 2 nd (ex_is (ex_sub ex_int (ex_var 2)) (?_ : PyData.int _ = .int m))))) fin
    rw [hg]
    congr 1
    have : ¬ 0 < m := fun z => by have := hs'.mpr z; omega
    omega
  · have e2 : (gcdL [a, b] : Int) = m := by
      rw [hg]
      have : 0 < m := hs'.mp (by omega)
      omega
    refine sx_cons (s1_ifF (tx_is (tx_cmp op_lt rd_B0 (ex_var 1) ex_int) (decide_eq_false c)) sx_nil) ?_
    rw [e2]
    exact fin
/-! ### the four sums -/
/-- what the sums ask of two fractions -/
def R_f2 (ok : Rat → Rat → Prop) (g : Rat → Rat → Rat) (xs : List PD) (r : Rs) : Prop := ∃ (x y : Rat) (a b : Nat), Qb x a ∧ Qb y b ∧ a + b ≤ 999000 ∧ ok x y ∧ xs = [fD x, fD y] ∧ r = .ok (fD (g x y))
abbrev R_fsum := R_f2 (fun _ _ => True) fun x y => x + y
abbrev R_fless := R_f2 (fun _ _ => True) fun x y => x - y
abbrev R_ftimes := R_f2 (fun _ _ => True) fun x y => x * y
abbrev R_fby := R_f2 (fun _ y => y ≠ 0) fun x y => x / y
theorem qb_n {x : Rat} {a : Nat} (h : Qb x a) : Bd x.num a := h.1
theorem qb_d {x : Rat} {a : Nat} (h : Qb x a) : Bd (x.den : Int) a := h.2
theorem den0 (x : Rat) : (x.den : Int) ≠ 0 := by have := x.den_nz; omega
theorem sc_f2 {i : Nat} (h : FnScope ["one", "other"] ["one", "other"] (defScope (top i))) : FnScope ["one", "other"] ["one", "other"] (defScope (top i)) := h
theorem c_fsum (D : DF P w K mg "frac_sum" s_frac_sum) (C1 : Cal P w K mg base CX0 41 "fraction_of" ["top", "bottom"] (spD K R_frac)) : Cal P w K mg base CX0 42 "frac_sum" ["one", "other"] (spD K R_fsum) := by
  refine cal_of D ⟨rfl, rfl, rfl, by decide +kernel, rfl, by decide +kernel, by decide +kernel⟩ (N := ["one", "other"]) (fun xs r ⟨_, _, _, _, _, _, _, _, h, _⟩ => by rw [h]; rfl) (fun _ _ _ _ _ _ us hl => match us, hl with | [_, _], _ => rfl) fun f cdv A outer s H E xs r hr h => ?_
  obtain ⟨x, y, a, b, hx, hy, hab, _, rfl, rfl⟩ := h
  refine ⟨.ret _, rfl, ?_⟩
  refine sx_stop (s1_ret (ex_call C1 hr (ea_cons (z := false) (ex_add (ex_mul (n := a) (m := b) (ex_ixT (ex_var 0) ex_int) (ex_ixT (ex_var 1) ex_int) (qb_n hx) (qb_d hy) (by omega)) (ex_mul (n := b) (m := a) (ex_ixT (ex_var 1) ex_int) (ex_ixT (ex_var 0) ex_int) (qb_n hy) (qb_d hx) (by omega))) (ea_cons (ex_mul (n := a) (m := b) (ex_ixT (ex_var 0) ex_int) (ex_ixT (ex_var 1) ex_int) (qb_d hx) (qb_d hy) (by omega)) ea_nil)) ⟨_, _, x + y, ?_, ?_, rfl, rfl⟩))
  · exact fun z => (Int.mul_eq_zero.mp z).elim (den0 x) (den0 y)
  · have n1 := num_den x
    have n2 := num_den y
    simp only [Rat.intCast_mul, Rat.intCast_add, ← n1, ← n2]
    grind
theorem c_fless (D : DF P w K mg "frac_less" s_frac_less) (C1 : Cal P w K mg base CX0 41 "fraction_of" ["top", "bottom"] (spD K R_frac)) : Cal P w K mg base CX0 42 "frac_less" ["one", "other"] (spD K R_fless) := by
  refine cal_of D ⟨rfl, rfl, rfl, by decide +kernel, rfl, by decide +kernel, by decide +kernel⟩ (N := ["one", "other"]) (fun xs r ⟨_, _, _, _, _, _, _, _, h, _⟩ => by rw [h]; rfl) (fun _ _ _ _ _ _ us hl => match us, hl with | [_, _], _ => rfl) fun f cdv A outer s H E xs r hr h => ?_
  obtain ⟨x, y, a, b, hx, hy, hab, _, rfl, rfl⟩ := h
  refine ⟨.ret _, rfl, ?_⟩
  refine sx_stop (s1_ret (ex_call C1 hr (ea_cons (z := false) (ex_sub (ex_mul (n := a) (m := b) (ex_ixT (ex_var 0) ex_int) (ex_ixT (ex_var 1) ex_int) (qb_n hx) (qb_d hy) (by omega)) (ex_mul (n := b) (m := a) (ex_ixT (ex_var 1) ex_int) (ex_ixT (ex_var 0) ex_int) (qb_n hy) (qb_d hx) (by omega))) (ea_cons (ex_mul (n := a) (m := b) (ex_ixT (ex_var 0) ex_int) (ex_ixT (ex_var 1) ex_int) (qb_d hx) (qb_d hy) (by omega)) ea_nil)) ⟨_, _, x - y, ?_, ?_, rfl, rfl⟩))
  · exact fun z => (Int.mul_eq_zero.mp z).elim (den0 x) (den0 y)
  · have n1 := num_den x
    have n2 := num_den y
    simp only [Rat.intCast_mul, Rat.intCast_sub, ← n1, ← n2]
    grind
theorem c_ftimes (D : DF P w K mg "frac_times" s_frac_times) (C1 : Cal P w K mg base CX0 41 "fraction_of" ["top", "bottom"] (spD K R_frac)) : Cal P w K mg base CX0 42 "frac_times" ["one", "other"] (spD K R_ftimes) := by
  refine cal_of D ⟨rfl, rfl, rfl, by decide +kernel, rfl, by decide +kernel, by decide +kernel⟩ (N := ["one", "other"]) (fun xs r ⟨_, _, _, _, _, _, _, _, h, _⟩ => by rw [h]; rfl) (fun _ _ _ _ _ _ us hl => match us, hl with | [_, _], _ => rfl) fun f cdv A outer s H E xs r hr h => ?_
  obtain ⟨x, y, a, b, hx, hy, hab, _, rfl, rfl⟩ := h
  refine ⟨.ret _, rfl, ?_⟩
  refine sx_stop (s1_ret (ex_call C1 hr (ea_cons (z := false) (ex_mul (n := a) (m := b) (ex_ixT (ex_var 0) ex_int) (ex_ixT (ex_var 1) ex_int) (qb_n hx) (qb_n hy) (by omega)) (ea_cons (ex_mul (n := a) (m := b) (ex_ixT (ex_var 0) ex_int) (ex_ixT (ex_var 1) ex_int) (qb_d hx) (qb_d hy) (by omega)) ea_nil)) ⟨_, _, x * y, ?_, ?_, rfl, rfl⟩))
  · exact fun z => (Int.mul_eq_zero.mp z).elim (den0 x) (den0 y)
  · have n1 := num_den x
    have n2 := num_den y
    simp only [Rat.intCast_mul, ← n1, ← n2]
    grind
theorem c_fby (D : DF P w K mg "frac_by" s_frac_by) (C1 : Cal P w K mg base CX0 41 "fraction_of" ["top", "bottom"] (spD K R_frac)) : Cal P w K mg base CX0 42 "frac_by" ["one", "other"] (spD K R_fby) := by
  refine cal_of D ⟨rfl, rfl, rfl, by decide +kernel, rfl, by decide +kernel, by decide +kernel⟩ (N := ["one", "other"]) (fun xs r ⟨_, _, _, _, _, _, _, _, h, _⟩ => by rw [h]; rfl) (fun _ _ _ _ _ _ us hl => match us, hl with | [_, _], _ => rfl) fun f cdv A outer s H E xs r hr h => ?_
  obtain ⟨x, y, a, b, hx, hy, hab, hz, rfl, rfl⟩ := h
  have yn : y.num ≠ 0 := fun z => hz (Rat.num_eq_zero.mp z)
  refine ⟨.ret _, rfl, ?_⟩
  refine sx_cons (s1_ifF (tx_is (tx_cmp op_eq rd_eqI (ex_ixT (ex_var 1) ex_int) ex_int) (decide_eq_false yn)) sx_nil) ?_
  refine sx_stop (s1_ret (ex_call C1 hr (ea_cons (z := false) (ex_mul (n := a) (m := b) (ex_ixT (ex_var 0) ex_int) (ex_ixT (ex_var 1) ex_int) (qb_n hx) (qb_d hy) (by omega)) (ea_cons (ex_mul (n := a) (m := b) (ex_ixT (ex_var 0) ex_int) (ex_ixT (ex_var 1) ex_int) (qb_d hx) (qb_n hy) (by omega)) ea_nil)) ⟨_, _, x / y, ?_, ?_, rfl, rfl⟩))
  · exact fun z => (Int.mul_eq_zero.mp z).elim (den0 x) yn
  · have n1 := num_den x
    have n2 := num_den y
    simp only [Rat.intCast_mul, ← n1, ← n2]
    have := divc (a := x) hz
    generalize x / y = t at *
    subst this
    grind
/-! ### is_fraction -/
def R_is_frac (xs : List PD) (r : Rs) : Prop := ∃ x : Rat, xs = [fD x] ∧ r = .ok (.bool true)
theorem c_is_frac (D : DF P w K mg "is_fraction" s_is_fraction) (B : Bi mg) (C1 : Cal P w K mg base CX0 40 "is_number" ["thing"] (spD K R_is_number)) (C2 : Cal P w K mg base CX0 40 "common_of" ["numbers"] (spD K R_common)) : Cal P w K mg base CX0 42 "is_fraction" ["thing"] (spD K R_is_frac) := by
  refine cal_of D ⟨rfl, rfl, rfl, by decide +kernel, rfl, by decide +kernel, by decide +kernel⟩ (N := ["thing"]) (fun xs r ⟨_, h, _⟩ => by rw [h]; rfl) (fun _ _ _ _ _ _ us hl => match us, hl with | [_], _ => rfl) fun f cdv A outer s H E xs r hr h => ?_
  obtain ⟨x, rfl, rfl⟩ := h
  refine ⟨.ret (.bool true), rfl, ?_⟩
  refine sx_cons (s1_ifF (tx_w (wx_orF (tx_is (tx_not (tx_val (ex_isTup B.isinstance B.tuple (ex_var 0)))) rfl) (wx_orF (tx_is (tx_cmp op_ne rd_neI (ex_len B.len (ex_var 0) (.inl rfl)) ex_int) rfl)
    (wx_orF (tx_is (tx_not (tx_val (ex_call C1 (hr.mono (by decide)) (ea_cons (z := false) (ex_ixT (ex_var 0) ex_int) ea_nil) ⟨x.num, rfl, rfl⟩))) rfl) (wx_or1 (tx_is (tx_not (tx_val (ex_call C1 (hr.mono (by decide)) (ea_cons (z := false) (ex_ixT (ex_var 0) ex_int) ea_nil) ⟨(x.den : Int), rfl, rfl⟩))) rfl)))))) sx_nil) ?_
  refine sx_stop (s1_ret (ex_andT (ex_is (ex_cmp op_ge rd_B0 (ex_ixT (ex_var 0) ex_int) ex_int) ?_) (ex_one (ex_is (ex_cmp op_eq rd_eqI (ex_call C2 (hr.mono (by decide)) (ea_cons (z := false) (ex_var 0) ea_nil) ⟨[x.num, x.den], rfl, rfl⟩) ex_int) ?_))))
  · have := x.den_pos
    exact congrArg PyData.bool (decide_eq_true (by omega))
  · rw [gcd_frac]
    rfl
end
end Rs


set_option maxRecDepth 100000
set_option maxHeartbeats 4000000
namespace Rs
open PySem PySem.Spec PyProof.Rows L2 Dl
def nD (n : N4) : PD := .tuple [.int n.w, .int n.u, .int n.v, .int n.r]
def cubD (c : Cub) : PD := .tuple [fD c.g, fD c.h, fD c.k]
structure NB (n : N4) : Prop where
  w : BdI n.w 185000
  u : BdI n.u 185000
  v : BdI n.v 185000
  r : BdI n.r 185000
theorem bdi_mono {x : Int} {n m : Nat} (h : BdI x n) (l : n ≤ m) : BdI x m := ⟨bd_mono h.h l⟩
theorem bdi_le {z : Int} {n m : Nat} [h : BdI z n] (l : n ≤ m) : BdI z m := ⟨bd_mono h.h l⟩
theorem nb_of {o i : C6} (ho : CB o) (hi : CB i) : NB (numb o i) := by
  have B := numb_bits ho hi
  have f : ∀ {z : Int}, z.natAbs ≤ 2 ^ (3 * 59999 + 5) → BdI z 185000 := fun q => ⟨Nat.lt_of_le_of_lt q (Nat.pow_lt_pow_right (by decide) (by decide))⟩
  exact ⟨f B.w, f B.u, f B.v, f B.r⟩
theorem slopes_i {x : C6} (h : CB x) : BdI x.slopes.a 120005 ∧ BdI x.slopes.b 120005 ∧ BdI x.slopes.c 120005 ∧ BdI x.slopes.d 120005 ∧ BdI x.slopes.e 120005 ∧ BdI x.slopes.f 120005 := by
  obtain ⟨i1, i2, i3, i4, i5, i6⟩ := h.i
  exact ⟨bdi_le (z := 4 * x.b * x.c - x.d * x.d) (by decide), bdi_le (z := 4 * x.a * x.c - x.e * x.e) (by decide), bdi_le (z := 4 * x.a * x.b - x.f * x.f) (by decide), bdi_le (z := x.e * x.f - 2 * x.a * x.d) (by decide), bdi_le (z := x.d * x.f - 2 * x.b * x.e) (by decide), bdi_le (z := x.d * x.e - 2 * x.c * x.f) (by decide)⟩
section
variable {P : Program} {w : World} {K : PySem.W.Frag} {mg : Str → Option Value} {base : Heap}
/-! ### look_at_two, slopes_of, numbers_of -/
def R_look2 (xs : List PD) (r : Rs) : Prop := ∃ o i : C6, CB o ∧ IsCurve o ∧ CB i ∧ IsCurve i ∧ xs = [cD o, cD i] ∧ r = .ok .none
theorem c_look2 (D : DF P w K mg "look_at_two" s_look_at_two) (C1 : Cal P w K mg base CX0 43 "look_at_curve" ["thing"] (spD K R_look)) : Cal P w K mg base CX0 44 "look_at_two" ["outer", "inner"] (spD K R_look2) := by
  refine cal_of D ⟨rfl, rfl, rfl, by decide +kernel, rfl, by decide +kernel, by decide +kernel⟩ (N := ["outer", "inner"]) (fun xs r ⟨_, _, _, _, _, _, h, _⟩ => by rw [h]; rfl) (fun _ _ _ _ _ _ us hl => match us, hl with | [_, _], _ => rfl) fun f cdv A outer s H E xs r hr h => ?_
  obtain ⟨o, i, h1, h2, h3, h4, rfl, rfl⟩ := h
  exact ⟨.nx _, rfl, sx_cons (s1_expr (ex_call C1 hr (ea_cons (z := false) (ex_var 0) ea_nil) ⟨o, h1, h2, rfl, rfl⟩)) (sx_one (s1_expr (ex_call C1 hr (ea_cons (z := false) (ex_var 1) ea_nil) ⟨i, h3, h4, rfl, rfl⟩)))⟩
def R_slopes (xs : List PD) (r : Rs) : Prop := ∃ x : C6, CB x ∧ xs = [cD x] ∧ r = .ok (cD x.slopes)
theorem sc_slopes : FnScope ["curve", "a", "b", "c", "d", "e", "f", "first"] ["curve"] (defScope s_slopes_of) := ⟨rfl, rfl, rfl, by decide +kernel, rfl, by decide +kernel, by decide +kernel⟩
theorem c_slopes (D : DF P w K mg "slopes_of" s_slopes_of) : Cal P w K mg base CX0 40 "slopes_of" ["curve"] (spD K R_slopes) := by
  refine cal_of D sc_slopes (fun xs r ⟨n, _, h, _⟩ => by rw [h]; rfl) (fun _ _ _ _ _ _ us hl => match us, hl with | [_], _ => rfl) fun f cdv A outer s H E xs r hr h => ?_
  obtain ⟨x, hb, rfl, rfl⟩ := h
  refine ⟨.ret _, rfl, ?_⟩
  have nd := sc_slopes.nd
  obtain ⟨i1, i2, i3, i4, i5, i6⟩ := hb.i
  refine sx_cons (s1_asg (ex_var 0) (gx_tup (js := [1, 2, 3, 4, 5, 6]) rfl (pns_cons 1 nd (pns_cons 2 nd (pns_cons 3 nd (pns_cons 4 nd (pns_cons 5 nd (pns_cons 6 nd pns_nil)))))))) ?_
  refine sx_cons (s1_set 7 nd (ex_tup (ea_cons (ex_sub (ex_mulI (ex_mulI ex_int (ex_var 2)) (ex_var 3)) (ex_mulI (ex_var 4) (ex_var 4))) (ea_cons (ex_sub (ex_mulI (ex_mulI ex_int (ex_var 1)) (ex_var 3)) (ex_mulI (ex_var 5) (ex_var 5))) (ea_cons (ex_sub (ex_mulI (ex_mulI ex_int (ex_var 1)) (ex_var 2)) (ex_mulI (ex_var 6) (ex_var 6))) ea_nil))))) ?_
  refine sx_stop (s1_ret (ex_is (ex_cat (ex_var 7) (ex_tup (ea_cons (ex_sub (ex_mulI (ex_var 5) (ex_var 6)) (ex_mulI (ex_mulI ex_int (ex_var 1)) (ex_var 4))) (ea_cons (ex_sub (ex_mulI (ex_var 4) (ex_var 6)) (ex_mulI (ex_mulI ex_int (ex_var 2)) (ex_var 5))) (ea_cons (ex_sub (ex_mulI (ex_var 4) (ex_var 5)) (ex_mulI (ex_mulI ex_int (ex_var 3)) (ex_var 6))) ea_nil))))) rfl))
/-- one pair's product -/
def dotF (s : Int) : PD → Int
  | .tuple [.int a, .int b] => s + a * b
  | _ => s
def R_numbers (xs : List PD) (r : Rs) : Prop := ∃ o i : C6, CB o ∧ CB i ∧ xs = [cD o, cD i] ∧ r = .ok (nD (numb o i))
theorem sc_numbers : FnScope ["outer", "inner", "up", "down", "one", "other"] ["outer", "inner"] (defScope s_numbers_of) := ⟨rfl, rfl, rfl, by decide +kernel, rfl, by decide +kernel, by decide +kernel⟩
theorem dot_mem {x y : C6} (hx : CBI x) (hy : BdI y.a 120005 ∧ BdI y.b 120005 ∧ BdI y.c 120005 ∧ BdI y.d 120005 ∧ BdI y.e 120005 ∧ BdI y.f 120005) {d : PD} (h : d ∈ List.zipWith (fun x y => PyData.tuple [x, y]) (x.l.map PyData.int) (y.l.map PyData.int)) : ∃ a b : Int, d = .tuple [.int a, .int b] ∧ Bd a 60000 ∧ Bd b 120005 := by
  obtain ⟨h1, h2, h3, h4, h5, h6⟩ := hy
  simp only [C6.l, List.map_cons, List.map_nil, List.zipWith_cons_cons, List.zipWith_nil_left, List.mem_cons, List.not_mem_nil, or_false] at h
  rcases h with rfl | rfl | rfl | rfl | rfl | rfl
  · exact ⟨_, _, rfl, hx.a.h, h1.h⟩
  · exact ⟨_, _, rfl, hx.b.h, h2.h⟩
  · exact ⟨_, _, rfl, hx.c.h, h3.h⟩
  · exact ⟨_, _, rfl, hx.d.h, h4.h⟩
  · exact ⟨_, _, rfl, hx.e.h, h5.h⟩
  · exact ⟨_, _, rfl, hx.f.h, h6.h⟩
theorem dot_fold (x y : C6) : (List.zipWith (fun x y => PyData.tuple [x, y]) (x.l.map PyData.int) (y.l.map PyData.int)).foldl dotF 0 = x.dot y := by
  show 0 + x.a * y.a + x.b * y.b + x.c * y.c + x.d * y.d + x.e * y.e + x.f * y.f = _
  rw [Int.zero_add]
  rfl
theorem c_numbers (D : DF P w K mg "numbers_of" s_numbers_of) (B : Bi mg) (C1 : Cal P w K mg base CX0 40 "slopes_of" ["curve"] (spD K R_slopes)) (C2 : Cal P w K mg base CX0 40 "determinant_of" ["six"] (spD K R_det)) : Cal P w K mg base CX0 41 "numbers_of" ["outer", "inner"] (spD K R_numbers) := by
  refine cal_of D sc_numbers (fun xs r ⟨_, _, _, _, h, _⟩ => by rw [h]; rfl) (fun _ _ _ _ _ _ us hl => match us, hl with | [_, _], _ => rfl) fun f cdv A outer s H E xs r hr h => ?_
  obtain ⟨o, i, ho, hi, rfl, rfl⟩ := h
  refine ⟨.ret _, rfl, ?_⟩
  have nd := sc_numbers.nd
  refine sx_cons (s1_set 2 nd ex_int) (sx_cons (s1_set 3 nd ex_int) ?_)
  refine sx_forE (vs := [4, 5]) (fun Γ => ∃ s4 s5, Γ = [.d (cD o), .d (cD i), .d (.int (o.dot i.slopes)), .d (.int 0), s4, s5]) PassesOwn.never rfl (ix_zip (ds := o.l.map PyData.int) (es := i.slopes.l.map PyData.int) B.zip (ex_var 0) (ex_call C1 hr (ea_cons (z := false) (ex_var 1) ea_nil) ⟨i, hi, rfl, rfl⟩) (.inl ⟨rfl, rfl⟩) rfl) (pg_tup (t := gNames [4, 5]) (n := 2) rfl (pns_cons 4 nd (pns_cons 5 nd pns_nil)).h) ?_ (fun Γ' hΓ => ?_)
  · refine forx_foldP (S := Int) (fun u Γ => ∃ s4 s5, Γ = [.d (cD o), .d (cD i), .d (.int u), .d (.int 0), s4, s5]) dotF (s := 0) ⟨.no, .no, rfl⟩ ?_ ?_
    · rintro u x Γ hx ⟨s4, s5, rfl⟩
      obtain ⟨a, b, rfl, ba, bb⟩ := dot_mem ho.i (slopes_i hi) hx
      refine ⟨_, [.d (cD o), .d (cD i), .d (.int (u + a * b)), .d (.int 0), .d (.int a), .d (.int b)], eg_tup (js := [4, 5]) rfl, sub_sets [4, 5] _ _, ?_, ⟨_, _, rfl⟩⟩
      exact sx_one (s1_set 2 nd (ex_add (ex_var 2) (ex_mul (ex_var 4) (ex_var 5) ba bb (by decide))))
    · rintro Γ' ⟨s4, s5, e⟩
      exact ⟨s4, s5, by rw [e]; congr; exact dot_fold o i.slopes⟩
  obtain ⟨s4, s5, rfl⟩ := hΓ
  refine sx_forE (vs := [4, 5]) (fun Γ => ∃ s4 s5, Γ = [.d (cD o), .d (cD i), .d (.int (o.dot i.slopes)), .d (.int (i.dot o.slopes)), s4, s5]) PassesOwn.never rfl (ix_zip (ds := i.l.map PyData.int) (es := o.slopes.l.map PyData.int) B.zip (ex_var 1) (ex_call C1 hr (ea_cons (z := false) (ex_var 0) ea_nil) ⟨o, ho, rfl, rfl⟩) (.inl ⟨rfl, rfl⟩) rfl) (pg_tup (t := gNames [4, 5]) (n := 2) rfl (pns_cons 4 nd (pns_cons 5 nd pns_nil)).h) ?_ (fun Γ' hΓ => ?_)
  · refine forx_foldP (S := Int) (fun u Γ => ∃ s4 s5, Γ = [.d (cD o), .d (cD i), .d (.int (o.dot i.slopes)), .d (.int u), s4, s5]) dotF (s := 0) ⟨s4, s5, rfl⟩ ?_ ?_
    · rintro u x Γ hx ⟨s4, s5, rfl⟩
      obtain ⟨a, b, rfl, ba, bb⟩ := dot_mem hi.i (slopes_i ho) hx
      refine ⟨_, [.d (cD o), .d (cD i), .d (.int (o.dot i.slopes)), .d (.int (u + a * b)), .d (.int a), .d (.int b)], eg_tup (js := [4, 5]) rfl, sub_sets [4, 5] _ _, ?_, ⟨_, _, rfl⟩⟩
      exact sx_one (s1_set 3 nd (ex_add (ex_var 3) (ex_mul (ex_var 4) (ex_var 5) ba bb (by decide))))
    · rintro Γ' ⟨s4, s5, e⟩
      exact ⟨s4, s5, by rw [e]; congr; exact dot_fold i o.slopes⟩
  obtain ⟨s4, s5, rfl⟩ := hΓ
  exact sx_stop (s1_ret (ex_tup (ea_cons (ex_call C2 hr (ea_cons (z := false) (ex_var 1) ea_nil) ⟨i, hi, rfl, rfl⟩) (ea_cons (ex_var 2) (ea_cons (ex_var 3) (ea_cons (ex_call C2 hr (ea_cons (z := false) (ex_var 0) ea_nil) ⟨o, ho, rfl, rfl⟩) ea_nil))))))
/-! ### whole_discriminant, is_pair .. -/
def R_wdisc (xs : List PD) (r : Rs) : Prop := ∃ n : N4, NB n ∧ xs = [nD n] ∧ r = .ok (.int n.disc)
theorem sc_wdisc : FnScope ["numbers", "w", "u", "v", "r"] ["numbers"] (defScope s_whole_discriminant) := ⟨rfl, rfl, rfl, by decide +kernel, rfl, by decide +kernel, by decide +kernel⟩
theorem c_wdisc (D : DF P w K mg "whole_discriminant" s_whole_discriminant) : Cal P w K mg base CX0 40 "whole_discriminant" ["numbers"] (spD K R_wdisc) := by
  refine cal_of D sc_wdisc (fun xs r ⟨n, _, h, _⟩ => by rw [h]; rfl) (fun _ _ _ _ _ _ us hl => match us, hl with | [_], _ => rfl) fun f cdv A outer s H E xs r hr h => ?_
  obtain ⟨n, hb, rfl, rfl⟩ := h
  refine ⟨.ret _, rfl, ?_⟩
  have nd := sc_wdisc.nd
  obtain ⟨i1, i2, i3, i4⟩ := hb
  refine sx_cons (s1_asg (ex_var 0) (gx_tup (js := [1, 2, 3, 4]) rfl (pns_cons 1 nd (pns_cons 2 nd (pns_cons 3 nd (pns_cons 4 nd pns_nil)))))) ?_
  refine sx_stop (s1_ret (ex_add (ex_sub (ex_sub (ex_sub (ex_mulI (ex_mulI (ex_mulI (ex_var 2) (ex_var 2)) (ex_var 3)) (ex_var 3)) (ex_mulI (ex_mulI (ex_mulI (ex_mulI ex_int (ex_var 1)) (ex_var 3)) (ex_var 3)) (ex_var 3))) (ex_mulI (ex_mulI (ex_mulI (ex_mulI ex_int (ex_var 2)) (ex_var 2)) (ex_var 2)) (ex_var 4))) (ex_mulI (ex_mulI (ex_mulI (ex_mulI ex_int (ex_var 1)) (ex_var 1)) (ex_var 4)) (ex_var 4))) (ex_mulI (ex_mulI (ex_mulI (ex_mulI ex_int (ex_var 1)) (ex_var 2)) (ex_var 3)) (ex_var 4))))
def R_ispo (xs : List PD) (r : Rs) : Prop := ∃ o i : C6, CB o ∧ CB i ∧ IsPair o i ∧ xs = [cD o, cD i] ∧ r = .ok (.bool true)
theorem c_ispo (D : DF P w K mg "is_pair_of" s_is_pair_of) (C1 : Cal P w K mg base CX0 41 "numbers_of" ["outer", "inner"] (spD K R_numbers)) (C2 : Cal P w K mg base CX0 40 "whole_discriminant" ["numbers"] (spD K R_wdisc)) : Cal P w K mg base CX0 42 "is_pair_of" ["outer", "inner"] (spD K R_ispo) := by
  refine cal_of D ⟨rfl, rfl, rfl, by decide +kernel, rfl, by decide +kernel, by decide +kernel⟩ (N := ["outer", "inner"]) (fun xs r ⟨_, _, _, _, _, h, _⟩ => by rw [h]; rfl) (fun _ _ _ _ _ _ us hl => match us, hl with | [_, _], _ => rfl) fun f cdv A outer s H E xs r hr h => ?_
  obtain ⟨o, i, ho, hi, hp, rfl, rfl⟩ := h
  refine ⟨.ret (.bool true), rfl, sx_stop (s1_ret (ex_is (ex_cmp op_ne rd_neI (ex_call C2 (hr.mono (by decide)) (ea_cons (z := false) (ex_call C1 hr (ea_cons (z := false) (ex_var 0) (ea_cons (ex_var 1) ea_nil)) ⟨o, i, ho, hi, rfl, rfl⟩) ea_nil) ⟨_, nb_of ho hi, rfl, rfl⟩) ex_int) ?_))⟩
  rw [decide_eq_false hp]
  rfl
def R_isp (xs : List PD) (r : Rs) : Prop := ∃ o i : C6, CB o ∧ CB i ∧ IsCurve o ∧ IsCurve i ∧ IsPair o i ∧ xs = [cD o, cD i] ∧ r = .ok (.bool true)
theorem c_isp (D : DF P w K mg "is_pair" s_is_pair) (C1 : Cal P w K mg base CX0 44 "look_at_two" ["outer", "inner"] (spD K R_look2)) (C2 : Cal P w K mg base CX0 42 "is_pair_of" ["outer", "inner"] (spD K R_ispo)) : Cal P w K mg base CX0 45 "is_pair" ["outer", "inner"] (spD K R_isp) := by
  refine cal_of D ⟨rfl, rfl, rfl, by decide +kernel, rfl, by decide +kernel, by decide +kernel⟩ (N := ["outer", "inner"]) (fun xs r ⟨_, _, _, _, _, _, _, h, _⟩ => by rw [h]; rfl) (fun _ _ _ _ _ _ us hl => match us, hl with | [_, _], _ => rfl) fun f cdv A outer s H E xs r hr h => ?_
  obtain ⟨o, i, ho, hi, co, ci, hp, rfl, rfl⟩ := h
  exact ⟨.ret (.bool true), rfl, sx_cons (s1_expr (ex_call C1 hr (ea_cons (z := false) (ex_var 0) (ea_cons (ex_var 1) ea_nil)) ⟨o, i, ho, co, hi, ci, rfl, rfl⟩)) (sx_stop (s1_ret (ex_call C2 (hr.mono (by decide)) (ea_cons (z := false) (ex_var 0) (ea_cons (ex_var 1) ea_nil)) ⟨o, i, ho, hi, hp, rfl, rfl⟩)))⟩
def R_lookp (xs : List PD) (r : Rs) : Prop := ∃ o i : C6, CB o ∧ CB i ∧ IsCurve o ∧ IsCurve i ∧ IsPair o i ∧ xs = [cD o, cD i] ∧ r = .ok .none
theorem c_lookp (D : DF P w K mg "look_at_pair" s_look_at_pair) (C1 : Cal P w K mg base CX0 44 "look_at_two" ["outer", "inner"] (spD K R_look2)) (C2 : Cal P w K mg base CX0 42 "is_pair_of" ["outer", "inner"] (spD K R_ispo)) : Cal P w K mg base CX0 45 "look_at_pair" ["outer", "inner"] (spD K R_lookp) := by
  refine cal_of D ⟨rfl, rfl, rfl, by decide +kernel, rfl, by decide +kernel, by decide +kernel⟩ (N := ["outer", "inner"]) (fun xs r ⟨_, _, _, _, _, _, _, h, _⟩ => by rw [h]; rfl) (fun _ _ _ _ _ _ us hl => match us, hl with | [_, _], _ => rfl) fun f cdv A outer s H E xs r hr h => ?_
  obtain ⟨o, i, ho, hi, co, ci, hp, rfl, rfl⟩ := h
  exact ⟨.nx _, rfl, sx_cons (s1_expr (ex_call C1 hr (ea_cons (z := false) (ex_var 0) (ea_cons (ex_var 1) ea_nil)) ⟨o, i, ho, co, hi, ci, rfl, rfl⟩)) (sx_one (s1_ifF (tx_is (tx_not (tx_val (ex_call C2 (hr.mono (by decide)) (ea_cons (z := false) (ex_var 0) (ea_cons (ex_var 1) ea_nil)) ⟨o, i, ho, hi, hp, rfl, rfl⟩))) rfl) sx_nil))⟩
/-! ### cubic_by of a pair -/
def R_cubic (xs : List PD) (r : Rs) : Prop := ∃ o i : C6, CB o ∧ CB i ∧ i.det ≠ 0 ∧ xs = [cD o, cD i] ∧ r = .ok (cubD (cub o i))
theorem sc_cubic : FnScope ["outer", "inner", "numbers", "number"] ["outer", "inner"] (defScope s_cubic_by_pairs) := ⟨rfl, rfl, rfl, by decide +kernel, rfl, by decide +kernel, by decide +kernel⟩
theorem c_cubic (D : DefF P w K mg "cubic_by_pairs" "cubic_by" s_cubic_by_pairs) (B : Bi mg) (C1 : Cal P w K mg base CX0 41 "numbers_of" ["outer", "inner"] (spD K R_numbers)) (C2 : Cal P w K mg base CX0 41 "fraction_of" ["top", "bottom"] (spD K R_frac)) : Cal P w K mg base CX0 42 "cubic_by_pairs" ["outer", "inner"] (spD K R_cubic) := by
  refine cal_of D sc_cubic (fun xs r ⟨_, _, _, _, _, h, _⟩ => by rw [h]; rfl) (fun _ _ _ _ _ _ us hl => match us, hl with | [_, _], _ => rfl) fun f cdv A outer s H E xs r hr h => ?_
  obtain ⟨o, i, ho, hi, hd, rfl, rfl⟩ := h
  refine ⟨.ret _, rfl, ?_⟩
  have nd := sc_cubic.nd
  refine sx_cons (s1_set 2 nd (ex_call C1 hr (ea_cons (z := false) (ex_var 0) (ea_cons (ex_var 1) ea_nil)) ⟨o, i, ho, hi, rfl, rfl⟩)) ?_
  refine sx_stop (s1_ret (ex_tuple B.tuple (el_lc (own := [("number", 3)]) (g := gName 3) rfl nd (ix_tupD (ex_tail4 (ex_var 2))) (blkOk_by (N := ["outer", "inner", "numbers", "number"]) (sc := defScope s_cubic_by_pairs) (by decide +kernel))
      (fun _ _ _ _ _ => pg_name (i := 3) nd rfl (Or.inl rfl)) (lcx_map (fun d => match d with | .int m => fD ((m : Rat) / ((numb o i).w : Rat)) | d => d) rfl _ fun d hd' => ?_))))
  have : ∃ m : Int, d = .int m := by
    simp only [List.mem_cons, List.not_mem_nil, or_false] at hd'
    rcases hd' with rfl | rfl | rfl <;> exact ⟨_, rfl⟩
  obtain ⟨m, rfl⟩ := this
  exact ⟨_, eg_name, Sub.setD, ev_U Sub.refl fun s' H' C cl fp => ex_call C2 hr (ea_cons (z := false) (ex_var 3) (ea_cons (ex_ixT (ex_var 2) ex_int) ea_nil)) ⟨m, (numb o i).w, (m : Rat) / ((numb o i).w : Rat), hd, divc (cast_ne hd), rfl, rfl⟩, rfl⟩
end
end Rs


set_option maxRecDepth 100000
set_option maxHeartbeats 4000000
namespace Rs
open PySem PySem.Spec PyProof.Rows L2 Dl
/-- a spot as data -/
def pD : Pt → PD
  | none => .none
  | some p => .tuple [fD p.1, fD p.2]
theorem nol_pD : ∀ p : Pt, NoL (pD p) = true
  | none => rfl
  | some _ => rfl
theorem eqv_fD (x y : Rat) : PyData.eqv (fD x) (fD y) = decide (x = y) := by
  show ((x.num == y.num) && (((x.den : Int) == (y.den : Int)) && true)) = decide (x = y)
  by_cases h : x = y
  · subst h
    rw [decide_eq_true rfl]
    simp
  · rw [decide_eq_false h]
    by_cases h1 : x.num = y.num
    · have h2 : ¬ (x.den : Int) = (y.den : Int) := fun z => h (Rat.ext h1 (by omega))
      simp [h2]
    · simp [h1]
theorem eqv_pD (p q : Rat × Rat) : PyData.eqv (pD (some p)) (pD (some q)) = decide (p = q) := by
  have e : PyData.eqv (pD (some p)) (pD (some q)) = (PyData.eqv (fD p.1) (fD q.1) && (PyData.eqv (fD p.2) (fD q.2) && true)) := rfl
  rw [e, eqv_fD, eqv_fD, Bool.and_true]
  by_cases h : p = q
  · subst h
    rw [decide_eq_true rfl, decide_eq_true rfl, decide_eq_true rfl]
    rfl
  · rw [decide_eq_false h]
    by_cases h1 : p.1 = q.1
    · have h2 : ¬ p.2 = q.2 := fun z => h (Prod.ext h1 z)
      rw [decide_eq_false h2, Bool.and_false]
    · rw [decide_eq_false h1, Bool.false_and]
/-! ### sizes of sums -/
theorem qb_frac {x : Rat} {a b : Int} {n : Nat} (hb : b ≠ 0) (e : x * (b : Rat) = a) (h1 : Bd a n) (h2 : Bd b n) : Qb x n := by
  obtain ⟨m, m0, ea, eb, _, _⟩ := frac_mul hb e
  have f : ∀ {u v : Int}, u = v * m → v.natAbs ≤ u.natAbs := fun {u v} e => by
    rw [e, Int.natAbs_mul]
    exact Nat.le_mul_of_pos_right _ (by omega)
  exact ⟨Nat.lt_of_le_of_lt (f ea) h1, Nat.lt_of_le_of_lt (f eb) h2⟩
theorem bd_mul2 {x y : Int} {n m : Nat} (h1 : Bd x n) (h2 : Bd y m) : Bd (x * y) (n + m) := (@instBdIHMulIntHAddNat x y n m ⟨h1⟩ ⟨h2⟩).h
theorem qb_add {x y : Rat} {a b : Nat} (h1 : Qb x a) (h2 : Qb y b) : Qb (x + y) (a + b + 1) := by
  refine qb_frac (a := x.num * y.den + y.num * x.den) (b := x.den * y.den) (fun z => (Int.mul_eq_zero.mp z).elim (den0 x) (den0 y)) ?_ ?_ (bd_mono (bd_mul2 (qb_d h1) (qb_d h2)) (by omega))
  · have n1 := num_den x
    have n2 := num_den y
    simp only [Rat.intCast_mul, Rat.intCast_add, ← n1, ← n2]
    grind
  · exact bd_mono (bd_add2 (bd_mul2 (qb_n h1) (qb_d h2)) (bd_mul2 (qb_n h2) (qb_d h1)) (by omega)) (by rw [Nat.add_comm b a, Nat.max_self]; omega)
theorem qb_neg {x : Rat} {a : Nat} (h : Qb x a) : Qb (-x) a := by
  refine ⟨?_, ?_⟩
  · rw [Rat.neg_num, Int.natAbs_neg]; exact h.1
  · rw [Rat.neg_den]; exact h.2
theorem qb_sub {x y : Rat} {a b : Nat} (h1 : Qb x a) (h2 : Qb y b) : Qb (x - y) (a + b + 1) := by
  have := qb_add h1 (qb_neg h2)
  have e : x + -y = x - y := by grind
  rw [e] at this
  exact this
theorem qb_mul {x y : Rat} {a b : Nat} (h1 : Qb x a) (h2 : Qb y b) : Qb (x * y) (a + b) := by
  refine qb_frac (a := x.num * y.num) (b := x.den * y.den) (fun z => (Int.mul_eq_zero.mp z).elim (den0 x) (den0 y)) ?_ (bd_mul2 (qb_n h1) (qb_n h2)) (bd_mul2 (qb_d h1) (qb_d h2))
  have n1 := num_den x
  have n2 := num_den y
  simp only [Rat.intCast_mul, ← n1, ← n2]
  grind
theorem qb_div {x y : Rat} {a b : Nat} (h1 : Qb x a) (h2 : Qb y b) (hz : y ≠ 0) : Qb (x / y) (a + b) := by
  have yn : y.num ≠ 0 := fun z => hz (Rat.num_eq_zero.mp z)
  refine qb_frac (a := x.num * y.den) (b := x.den * y.num) (fun z => (Int.mul_eq_zero.mp z).elim (den0 x) yn) ?_ (bd_mul2 (qb_n h1) (qb_d h2)) (bd_mul2 (qb_d h1) (qb_n h2))
  have n1 := num_den x
  have n2 := num_den y
  simp only [Rat.intCast_mul, ← n1, ← n2]
  have := divc (a := x) hz
  generalize x / y = t at *
  subst this
  grind
theorem qb2 : Qb 2 2 := ⟨by decide, by decide⟩
theorem qb3 : Qb 3 2 := ⟨by decide, by decide⟩
theorem qb0 : Qb 0 1 := ⟨by decide, by decide⟩
theorem qb1 : Qb 1 1 := ⟨by decide, by decide⟩
/-- sizes of a cubic, of a spot -/
structure CubB (c : Cub) : Prop where
  g : Qb c.g 18000
  h : Qb c.h 18000
  k : Qb c.k 18000
def PtB : Pt → Prop
  | none => True
  | some p => Qb p.1 45000 ∧ Qb p.2 140000
theorem slope_bits {c : Cub} {p q : Rat × Rat} (hc : CubB c) (hp : PtB (some p)) (hq : PtB (some q)) (h1 : p ≠ q → q.1 - p.1 ≠ 0) (h2 : p = q → 2 * p.2 ≠ 0) : Qb (slope c p q) 370100 := by
  unfold slope
  by_cases e : p = q
  · rw [if_neg (fun z => z e)]
    exact (qb_div (qb_add hc.g (qb_mul hp.1 (qb_add (qb_mul qb2 hc.h) (qb_mul qb3 (qb_mul hp.1 hc.k))))) (qb_mul qb2 hp.2) (h2 e)).mono (by decide)
  · rw [if_pos e]
    exact (qb_div (qb_sub hq.2 hp.2) (qb_sub hq.1 hp.1) (h1 e)).mono (by decide)
/-- a table of the top -/
structure Tab (K : PySem.W.Frag) (mg : Str → Option Value) (n : Str) (d : PD) : Prop where
  ex : ∃ a, mg n = some (.ref a) ∧ ∀ H, Dp K H (.ref a) d
theorem ex_tab {X : Cx} {F : Addr → Prop} {Γ : Gm} {x : PD} {n : Str} {pos : Pos} (T : Tab X.K X.mg n x) (hg : Gl X n := by rfl) (hd : (n == ("__debug__" : Str)) = false := by decide) : EX X F (.Name n pos) Γ Γ x := by
  obtain ⟨a, h1, h2⟩ := T.ex
  exact ex_glob (v := .ref a) h1 rfl h2 hg hd
section
variable {P : Program} {w : World} {K : PySem.W.Frag} {mg : Str → Option Value} {base : Heap}
/-- the four sums -/
structure Fr (P : Program) (w : World) (K : PySem.W.Frag) (mg : Str → Option Value) (base : Heap) : Prop where
  sum : Cal P w K mg base CX0 42 "frac_sum" ["one", "other"] (spD K R_fsum)
  less : Cal P w K mg base CX0 42 "frac_less" ["one", "other"] (spD K R_fless)
  times : Cal P w K mg base CX0 42 "frac_times" ["one", "other"] (spD K R_ftimes)
  by_ : Cal P w K mg base CX0 42 "frac_by" ["one", "other"] (spD K R_fby)
section
variable {X : Cx} {F : Addr → Prop} {Γ Γ1 Γ2 : Gm} {a b : Expr} {pos p1 : Pos} {x y : Rat} {n m : Nat}
theorem ex_f2 {ok : Rat → Rat → Prop} {g : Rat → Rat → Rat} {nm : Str} (C : Cal X.prog X.w X.K X.mg X.base CX0 42 nm ["one", "other"] (spD X.K (R_f2 ok g))) (hr : Room 42 X.A) (ha : EX X F a Γ Γ1 (fD x)) (hb : EX X F b Γ1 Γ2 (fD y)) (h1 : Qb x n) (h2 : Qb y m) (hs : n + m ≤ 999000) (ho : ok x y) (hg : Gl X nm := by rfl)
    (hdb : (nm == ("__debug__" : Str)) = false := by decide) (he : starEach [a, b] X.env = (false, eval a X.env) :: starEach [b] X.env := by rfl) (he2 : starEach [b] X.env = (false, eval b X.env) :: starEach [] X.env := by rfl) (hpl : (backTo pos (starEach [b] X.env)).any (·.1) = false := by rfl) : EX X F (.Call (.Name nm p1) [a, b] [] pos) Γ Γ2 (fD (g x y)) :=
  ex_call C hr (ea_cons (z := false) ha (ea_cons hb ea_nil he2) he) ⟨x, y, n, m, h1, h2, hs, ho, rfl, rfl⟩ rfl hg hdb he hpl
end
/-! ### slope_at -/
def R_slope (xs : List PD) (r : Rs) : Prop := ∃ (c : Cub) (p q : Rat × Rat), CubB c ∧ PtB (some p) ∧ PtB (some q) ∧ (p ≠ q → q.1 - p.1 ≠ 0) ∧ (p = q → 2 * p.2 ≠ 0) ∧ xs = [cubD c, pD (some p), pD (some q)] ∧ r = .ok (fD (slope c p q))
theorem sc_slope : FnScope ["cubic", "one", "other", "g", "h", "k", "t", "rise"] ["cubic", "one", "other"] (defScope s_slope_at) := ⟨rfl, rfl, rfl, by decide +kernel, rfl, by decide +kernel, by decide +kernel⟩
theorem c_slope (D : DF P w K mg "slope_at" s_slope_at) (Fs : Fr P w K mg base) : Cal P w K mg base CX0 43 "slope_at" ["cubic", "one", "other"] (spD K R_slope) := by
  refine cal_of D sc_slope (fun xs r ⟨_, _, _, _, _, _, _, _, h, _⟩ => by rw [h]; rfl) (fun _ _ _ _ _ _ us hl => match us, hl with | [_, _, _], _ => rfl) fun f cdv A outer s H E xs r hr h => ?_
  obtain ⟨c, p, q, hc, hp, hq, h1, h2, rfl, rfl⟩ := h
  refine ⟨.ret _, rfl, ?_⟩
  have nd := sc_slope.nd
  by_cases e : p = q
  · refine sx_cons (s1_ifF (tx_is (tx_cmp (op_neD (units_of hr)) (rd_ne (x := pD (some p)) (y := pD (some q)) rfl rfl) (ex_var 1) (ex_var 2)) (by rw [eqv_pD, decide_eq_true e]; rfl)) sx_nil) ?_
    refine sx_cons (s1_asg (ex_var 0) (gx_tup (js := [3, 4, 5]) rfl (pns_cons 3 nd (pns_cons 4 nd (pns_cons 5 nd pns_nil))))) ?_
    refine sx_cons (s1_set (x := fD p.1) 6 nd (ex_ixT (ex_var 1) ex_int)) ?_
    refine sx_cons (s1_set 7 nd (ex_f2 Fs.sum hr (ex_f2 (x := 2) (y := c.h) Fs.times hr (ex_is (ex_tup (ea_cons ex_int (ea_cons ex_int ea_nil))) rfl) (ex_var 4) qb2 hc.h (by decide) trivial) (ex_f2 (x := 3) (y := p.1 * c.k) Fs.times hr (ex_is (ex_tup (ea_cons ex_int (ea_cons ex_int ea_nil))) rfl) (ex_f2 (x := p.1) (y := c.k) Fs.times hr (ex_var 6) (ex_var 5) hp.1 hc.k (by decide) trivial) qb3 (qb_mul hp.1 hc.k) (by decide) trivial)
      (qb_mul qb2 hc.h) (qb_mul qb3 (qb_mul hp.1 hc.k)) (by decide) trivial)) ?_
    refine sx_stop (s1_ret (ex_is (ex_f2 (x := c.g + p.1 * (2 * c.h + 3 * (p.1 * c.k))) (y := 2 * p.2) Fs.by_ hr (ex_f2 (x := c.g) (y := p.1 * (2 * c.h + 3 * (p.1 * c.k))) Fs.sum hr (ex_var 3) (ex_f2 (x := p.1) (y := 2 * c.h + 3 * (p.1 * c.k)) Fs.times hr (ex_var 6) (ex_var 7) hp.1 (qb_add (qb_mul qb2 hc.h) (qb_mul qb3 (qb_mul hp.1 hc.k))) (by decide) trivial) hc.g (qb_mul hp.1 (qb_add (qb_mul qb2 hc.h) (qb_mul qb3 (qb_mul hp.1 hc.k)))) (by decide) trivial)
      (ex_f2 (x := 2) (y := p.2) Fs.times hr (ex_is (ex_tup (ea_cons ex_int (ea_cons ex_int ea_nil))) rfl) (ex_ixT (ex_var 1) ex_int) qb2 hp.2 (by decide) trivial) (qb_add hc.g (qb_mul hp.1 (qb_add (qb_mul qb2 hc.h) (qb_mul qb3 (qb_mul hp.1 hc.k))))) (qb_mul qb2 hp.2) (by decide) (h2 e)) ?_))
    unfold slope
    rw [if_neg (fun z => z e)]
  · refine sx_stop (s1_ifT (tx_is (tx_cmp (op_neD (units_of hr)) (rd_ne (x := pD (some p)) (y := pD (some q)) rfl rfl) (ex_var 1) (ex_var 2)) (by rw [eqv_pD, decide_eq_false e]; rfl)) (sx_stop (s1_ret (ex_is (ex_f2 (x := q.2 - p.2) (y := q.1 - p.1) Fs.by_ hr
      (ex_f2 (x := q.2) (y := p.2) Fs.less hr (ex_ixT (ex_var 2) ex_int) (ex_ixT (ex_var 1) ex_int) hq.2 hp.2 (by decide) trivial) (ex_f2 (x := q.1) (y := p.1) Fs.less hr (ex_ixT (ex_var 2) ex_int) (ex_ixT (ex_var 1) ex_int) hq.1 hp.1 (by decide) trivial) (qb_sub hq.2 hp.2) (qb_sub hq.1 hp.1) (by decide) (h1 e)) ?_))))
    unfold slope
    rw [if_pos e]
/-! ### turned, sum_of -/
def R_tspot (xs : List PD) (r : Rs) : Prop := ∃ (p : Rat × Rat), PtB (some p) ∧ xs = [pD (some p)] ∧ r = .ok (pD (some (p.1, -p.2)))
theorem c_tspot (D : DF P w K mg "turned" s_turned) (T : Tab K mg "NOTHING_spots" (fD 0)) (Fs : Fr P w K mg base) : Cal P w K mg base CX0 43 "turned" ["spot"] (spD K R_tspot) := by
  refine cal_of D ⟨rfl, rfl, rfl, by decide +kernel, rfl, by decide +kernel, by decide +kernel⟩ (N := ["spot"]) (fun xs r ⟨_, _, h, _⟩ => by rw [h]; rfl) (fun _ _ _ _ _ _ us hl => match us, hl with | [_], _ => rfl) fun f cdv A outer s H E xs r hr h => ?_
  obtain ⟨p, hp, rfl, rfl⟩ := h
  refine ⟨.ret _, rfl, ?_⟩
  refine sx_cons (s1_ifF (tx_is (tx_cmp op_isN rd_isN (ex_var 0) ex_non) rfl) sx_nil) (sx_stop (s1_ret (ex_is (ex_tup (ea_cons (x := fD p.1) (ex_ixT (ex_var 0) ex_int) (ea_cons (ex_f2 (x := 0) (y := p.2) Fs.less hr (ex_tab T) (ex_ixT (ex_var 0) ex_int) qb0 hp.2 (by decide) trivial) ea_nil))) ?_)))
  have e : (0 : Rat) - p.2 = -p.2 := by grind
  rw [e]
  rfl
def R_sum (xs : List PD) (r : Rs) : Prop := ∃ (c : Cub) (p q : Pt), c.Ok ∧ CubB c ∧ OnC c p ∧ OnC c q ∧ PtB p ∧ PtB q ∧ PtB (add c p q) ∧ xs = [cubD c, pD p, pD q] ∧ r = .ok (pD (add c p q))
theorem sc_sum : FnScope ["cubic", "one", "other", "slope", "both", "t", "y"] ["cubic", "one", "other"] (defScope s_sum_of) := ⟨rfl, rfl, rfl, by decide +kernel, rfl, by decide +kernel, by decide +kernel⟩
theorem c_sum (D : DF P w K mg "sum_of" s_sum_of) (T : Tab K mg "NOTHING_spots" (fD 0)) (Fs : Fr P w K mg base) (C1 : Cal P w K mg base CX0 43 "slope_at" ["cubic", "one", "other"] (spD K R_slope)) (C2 : Cal P w K mg base CX0 43 "turned" ["spot"] (spD K R_tspot)) : Cal P w K mg base CX0 44 "sum_of" ["cubic", "one", "other"] (spD K R_sum) := by
  refine cal_of D sc_sum (fun xs r ⟨_, _, _, _, _, _, _, _, _, _, h, _⟩ => by rw [h]; rfl) (fun _ _ _ _ _ _ us hl => match us, hl with | [_, _, _], _ => rfl) fun f cdv A outer s H E xs r hr h => ?_
  obtain ⟨c, p, q, ok, hc, op, oq, hp, hq, hpq, rfl, rfl⟩ := h
  refine ⟨.ret _, rfl, ?_⟩
  have nd := sc_sum.nd
  cases p with
  | none => exact sx_stop (s1_ifT (tx_is (tx_cmp op_isN rd_isN (ex_var 1) ex_non) rfl) (sx_stop (s1_ret (ex_var 2))))
  | some p =>
    refine sx_cons (s1_ifF (tx_is (tx_cmp op_isN rd_isN (ex_var 1) ex_non) rfl) sx_nil) ?_
    cases q with
    | none => exact sx_stop (s1_ifT (tx_is (tx_cmp op_isN rd_isN (ex_var 2) ex_non) rfl) (sx_stop (s1_ret (ex_var 1))))
    | some q =>
      refine sx_cons (s1_ifF (tx_is (tx_cmp op_isN rd_isN (ex_var 2) ex_non) rfl) sx_nil) ?_
      by_cases e : p = (q.1, -q.2)
      · have ea : add c (some p) (some q) = none := by
          show (if p = (q.1, -q.2) then none else some (third c p q (slope c p q))) = none
          rw [if_pos e]
        rw [ea]
        exact sx_stop (s1_ifT (tx_is (tx_cmp (op_eqD (units_of hr)) (rd_eq (x := pD (some p)) (y := pD (some (q.1, -q.2))) rfl rfl) (ex_var 1) (ex_call C2 (hr.mono (by decide)) (ea_cons (z := false) (ex_var 2) ea_nil) ⟨q, hq, rfl, rfl⟩)) (by rw [eqv_pD, decide_eq_true e])) (sx_stop (s1_ret ex_non)))
      · have ea : add c (some p) (some q) = some (third c p q (slope c p q)) := by
          show (if p = (q.1, -q.2) then none else some (third c p q (slope c p q))) = _
          rw [if_neg e]
        have n := nonopp e
        have h1 : p ≠ q → q.1 - p.1 ≠ 0 := fun ne z => by
          have x1 : p.1 = q.1 := by grind
          have a1 : p.2 * p.2 = c.f p.1 := op
          have a2 : q.2 * q.2 = c.f q.1 := oq
          rw [x1, ← a2] at a1
          have : (p.2 - q.2) * (p.2 + q.2) = 0 := by grind
          by_cases z2 : p.2 - q.2 = 0
          · exact ne (Prod.ext x1 (by grind))
          · have z3 : p.2 + q.2 = 0 := mulc z2 (by rw [this]; grind)
            exact n ⟨x1, by grind⟩
        have h2 : p = q → 2 * p.2 ≠ 0 := fun eq z => by
          subst eq
          exact n ⟨rfl, by grind⟩
        have sb := slope_bits hc hp hq h1 h2
        rw [ea] at hpq ⊢
        have hpt : Qb ((slope c p q * slope c p q - c.h) / c.k - p.1 - q.1) 45000 := hpq.1
        generalize hs : slope c p q = sl at *
        refine sx_cons (s1_ifF (tx_is (tx_cmp (op_eqD (units_of hr)) (rd_eq (x := pD (some p)) (y := pD (some (q.1, -q.2))) rfl rfl) (ex_var 1) (ex_call C2 (hr.mono (by decide)) (ea_cons (z := false) (ex_var 2) ea_nil) ⟨q, hq, rfl, rfl⟩)) (by rw [eqv_pD, decide_eq_false e])) sx_nil) ?_
        refine sx_cons (s1_set (x := fD sl) 3 nd (ex_call C1 (hr.mono (by decide)) (ea_cons (z := false) (ex_var 0) (ea_cons (ex_var 1) (ea_cons (ex_var 2) ea_nil))) ⟨c, p, q, hc, hp, hq, h1, h2, rfl, by rw [hs]⟩)) ?_
        have b1 := qb_sub (qb_mul sb sb) hc.h
        have b2 := qb_div b1 hc.k ok.k0
        refine sx_cons (s1_set 4 nd (ex_f2 (x := sl * sl - c.h) (y := c.k) Fs.by_ (hr.mono (by decide)) (ex_f2 (x := sl * sl) (y := c.h) Fs.less (hr.mono (by decide)) (ex_f2 (x := sl) (y := sl) Fs.times (hr.mono (by decide)) (ex_var 3) (ex_var 3) sb sb (by decide) trivial) (ex_ixT (ex_var 0) ex_int) (qb_mul sb sb) hc.h (by decide) trivial) (ex_ixT (ex_var 0) ex_int) b1 hc.k (by decide) ok.k0)) ?_
        have b3 := qb_sub b2 hp.1
        have b4 := qb_sub b3 hq.1
        refine sx_cons (s1_set 5 nd (ex_f2 (x := (sl * sl - c.h) / c.k - p.1) (y := q.1) Fs.less (hr.mono (by decide)) (ex_f2 (x := (sl * sl - c.h) / c.k) (y := p.1) Fs.less (hr.mono (by decide)) (ex_var 4) (ex_ixT (ex_var 1) ex_int) b2 hp.1 (by decide) trivial) (ex_ixT (ex_var 2) ex_int) b3 hq.1 (by decide) trivial)) ?_
        generalize ht : (sl * sl - c.h) / c.k - p.1 - q.1 = t at *
        have b4 := hpt
        have b5 := qb_sub b4 hp.1
        have b6 := qb_mul sb b5
        have b7 := qb_add hp.2 b6
        refine sx_cons (s1_set 6 nd (ex_f2 (x := p.2) (y := sl * (t - p.1)) Fs.sum (hr.mono (by decide)) (ex_ixT (ex_var 1) ex_int) (ex_f2 (x := sl) (y := t - p.1) Fs.times (hr.mono (by decide)) (ex_var 3) (ex_f2 (x := t) (y := p.1) Fs.less (hr.mono (by decide)) (ex_var 5) (ex_ixT (ex_var 1) ex_int) b4 hp.1 (by decide) trivial) sb b5 (by decide) trivial) hp.2 b6 (by decide) trivial)) ?_
        refine sx_stop (s1_ret (ex_is (ex_tup (ea_cons (ex_var 5) (ea_cons (ex_f2 (x := 0) (y := p.2 + sl * (t - p.1)) Fs.less (hr.mono (by decide)) (ex_tab T) (ex_var 6) qb0 b7 (by decide) trivial) ea_nil))) ?_))
        have e1 : (0 : Rat) - (p.2 + sl * (t - p.1)) = -(p.2 + sl * (t - p.1)) := by grind
        rw [e1]
        unfold third
        simp only
        rw [ht]
        rfl
end
end Rs


set_option maxRecDepth 100000
set_option maxHeartbeats 4000000
namespace Rs
open PySem PySem.Spec PyProof.Rows L2 Dl
section
variable {P : Program} {w : World} {K : PySem.W.Frag} {mg : Str → Option Value} {base : Heap}
/-! ### times_of -/
def R_times (xs : List PD) (r : Rs) : Prop := ∃ (c : Cub) (n : Nat), n ≤ 12 ∧ c.Ok ∧ CubB c ∧ (∀ j, j ≤ n → PtB (mul c P1 j)) ∧ xs = [cubD c, pD P1, .int (n : Int)] ∧ r = .ok (pD (mul c P1 n))
theorem sc_times : FnScope ["cubic", "spot", "many", "found", "turn"] ["cubic", "spot", "many"] (defScope s_times_of) := ⟨rfl, rfl, rfl, by decide +kernel, rfl, by decide +kernel, by decide +kernel⟩
theorem ptb_one : PtB P1 := ⟨qb0.mono (by decide), qb1.mono (by decide)⟩
theorem forx_times {K : PySem.W.Frag} {F : Addr → Prop} {E : XK} {tb : TS} {c : Cub} {n : Nat} (st : ∀ (j : Nat) (s4 : Sl), j < n → SR K F E tb [.d (cubD c), .d (pD P1), .d (.int (n : Int)), .d (pD (mul c P1 j)), .d (.int (j : Int))] (.nx [.d (cubD c), .d (pD P1), .d (.int (n : Int)), .d (pD (mul c P1 (j + 1))), .d (.int (j : Int))])) :
    ∀ (m j : Nat) (s4 : Sl), j + m = n → ∃ s4', ForX K F E (gName 4) [4] tb [.d (cubD c), .d (pD P1), .d (.int (n : Int)), .d (pD (mul c P1 j)), s4] ((List.range' j m).map fun (i : Nat) => PyData.int (i : Int)) (.nx [.d (cubD c), .d (pD P1), .d (.int (n : Int)), .d (pD (mul c P1 n)), s4'])
  | 0, j, s4, h => ⟨s4, by
    have : j = n := by omega
    subst this
    exact .nil⟩
  | m + 1, j, s4, h => by
    obtain ⟨s4', q⟩ := forx_times st m (j + 1) (.d (.int (j : Int))) (by omega)
    refine ⟨s4', ?_⟩
    rw [List.range'_succ, List.map_cons]
    exact .next eg_name Sub.setD (st j s4 (by omega)) q
theorem forx_timesP {K : PySem.W.Frag} {F : Addr → Prop} {E : XK} {tb : TS} {c : Cub} {n : Nat} {Pq : Gm → Prop} {s4 : Sl} (he : ∀ s4, Pq [.d (cubD c), .d (pD P1), .d (.int (n : Int)), .d (pD (mul c P1 n)), s4])
    (st : ∀ (j : Nat) (s4 : Sl), j < n → SR K F E tb [.d (cubD c), .d (pD P1), .d (.int (n : Int)), .d (pD (mul c P1 j)), .d (.int (j : Int))] (.nx [.d (cubD c), .d (pD P1), .d (.int (n : Int)), .d (pD (mul c P1 (j + 1))), .d (.int (j : Int))])) :
    ∃ Γ', Pq Γ' ∧ ForX K F E (gName 4) [4] tb [.d (cubD c), .d (pD P1), .d (.int (n : Int)), .d (pD .none), s4] ((List.range (n : Int).toNat).map fun (i : Nat) => PyData.int (i : Int)) (.nx Γ') := by
  obtain ⟨s4', q⟩ := forx_times st n 0 s4 (by omega)
  refine ⟨_, he s4', ?_⟩
  rw [Int.toNat_natCast, List.range_eq_range']
  exact q
theorem c_times (D : DF P w K mg "times_of" s_times_of) (B : Bi mg) (C1 : Cal P w K mg base CX0 44 "sum_of" ["cubic", "one", "other"] (spD K R_sum)) : Cal P w K mg base CX0 45 "times_of" ["cubic", "spot", "many"] (spD K R_times) := by
  refine cal_of D sc_times (fun xs r ⟨_, _, _, _, _, _, h, _⟩ => by rw [h]; rfl) (fun _ _ _ _ _ _ us hl => match us, hl with | [_, _, _], _ => rfl) fun f cdv A outer s H E xs r hr h => ?_
  obtain ⟨c, n, hn, ok, hc, hp, rfl, rfl⟩ := h
  refine ⟨.ret _, rfl, ?_⟩
  have nd := sc_times.nd
  refine sx_cons (s1_ifF (tx_is (tx_cmp op_lt rd_B0 (ex_var 2) ex_int) (decide_eq_false (by omega))) sx_nil) ?_
  refine sx_cons (s1_set 3 nd ex_non) ?_
  refine sx_forE (vs := [4]) (fun Γ => ∃ s4, Γ = [.d (cubD c), .d (pD P1), .d (.int (n : Int)), .d (pD (mul c P1 n)), s4]) PassesOwn.never rfl (ix_rng1 B.range (ex_var 2) ⟨by omega, by omega⟩) (pg_name (i := 4) nd rfl (.inl rfl)) ?_ fun Γ' hΓ => ?_
  · refine forx_timesP (c := c) (n := n) (s4 := .no) (fun s4 => ⟨s4, rfl⟩) fun j s4 hj => ?_
    exact sx_one (s1_set 3 nd (ex_call C1 hr (ea_cons (z := false) (ex_var 0) (ea_cons (ex_var 3) (ea_cons (ex_var 1) ea_nil))) ⟨c, mul c P1 j, P1, ok, hc, mul_on ok (P1_on _) j, P1_on _, hp j (by omega), ptb_one, hp (j + 1) (by omega), rfl, rfl⟩ (nol_pD _)))
  · obtain ⟨s4, rfl⟩ := hΓ
    exact sx_stop (s1_ret (ex_var 3))
/-! ### raising -/
structure ExK (K : PySem.W.Frag) (mg : Str → Option Value) (n : Str) (C : Addr) : Prop where
  g : mg n = some (.ref C)
  e : PySem.W.excIn K C He.veBase "ValueError.__new__" = true
  k : PySem.W.keepIn K (.ref C) = true
  s : PySem.W.subIn K (.ref C) (.type "BaseException") = some true
  t : PySem.W.typeIn K (.ref C) = some (.type "type")
theorem s1_rais {X : Cx} {F : Addr → Prop} {Γ : Gm} {E : XK} {pos p1 p2 p3 : Pos} {C : Addr} {n m : Str} {j : Nat} (hc : X.calm = true) (tk : Takes X (fun cls d _ H => E cls d H)) (q : ExK X.K X.mg n C) (hg : Gl X n := by rfl) (hdb : (n == ("__debug__" : Str)) = false := by decide) :
    S1 X F E (.Raise (some (.Call (.Name n p1) [.Constant (.str m) j p2] [] p3)) none pos) Γ (.ex C) := s1_raise hc tk PySem.F.excBase_ValueError q.e q.g q.k (raises_own q.s q.t) hg hdb
/-! ### chord_curve -/
structure ChB (o i : C6) (n : Nat) : Prop where
  bO : Cb o 10000
  bI : Cb i 10000
  co : IsCurve o
  ci : IsCurve i
  p : IsPair o i
  cb : CubB (cub o i)
  pts : ∀ j, j ≤ n → PtB (mul (cub o i) P1 j)
theorem cb_mono {x : C6} {n m : Nat} (h : Cb x n) (l : n ≤ m) : Cb x m := fun z hz => Nat.le_trans (h z hz) (Nat.pow_le_pow_right (by decide) l)
theorem ChB.bo {o i : C6} {n : Nat} (h : ChB o i n) : CB o := cb_mono h.bO (by decide)
theorem ChB.bi {o i : C6} {n : Nat} (h : ChB o i n) : CB i := cb_mono h.bI (by decide)
def R_chord (C : Addr) (xs : List PD) (r : Rs) : Prop := ∃ (o i : C6) (n : Nat), 1 ≤ n ∧ n ≤ 12 ∧ ChB o i n ∧ xs = [cD o, cD i, .int (n : Int)] ∧ r = (match chordM o i n with | some F => Rs.ok (cD F) | none => .err C)
theorem sc_chord : FnScope ["outer", "inner", "steps", "spot", "top", "bottom", "six", "one", "other"] ["outer", "inner", "steps"] (defScope s_chord_curve) := ⟨rfl, rfl, rfl, by decide +kernel, rfl, by decide +kernel, by decide +kernel⟩
theorem zip_mem {x y : C6} {n : Nat} (hx : Cb x n) (hy : Cb y n) {d : PD} (h : d ∈ List.zipWith (fun x y => PyData.tuple [x, y]) (x.l.map PyData.int) (y.l.map PyData.int)) : ∃ a b : Int, d = .tuple [.int a, .int b] ∧ Bd a (n + 1) ∧ Bd b (n + 1) := by
  obtain ⟨h1, h2, h3, h4, h5, h6⟩ := cb_iff.mp hx
  obtain ⟨k1, k2, k3, k4, k5, k6⟩ := cb_iff.mp hy
  have f : ∀ {z : Int}, z.natAbs ≤ 2 ^ n → Bd z (n + 1) := fun q => Nat.lt_of_le_of_lt q (Nat.pow_lt_pow_right (by decide) (by omega))
  simp only [C6.l, List.map_cons, List.map_nil, List.zipWith_cons_cons, List.zipWith_nil_left, List.mem_cons, List.not_mem_nil, or_false] at h
  rcases h with rfl | rfl | rfl | rfl | rfl | rfl
  · exact ⟨_, _, rfl, f h1, f k1⟩
  · exact ⟨_, _, rfl, f h2, f k2⟩
  · exact ⟨_, _, rfl, f h3, f k3⟩
  · exact ⟨_, _, rfl, f h4, f k4⟩
  · exact ⟨_, _, rfl, f h5, f k5⟩
  · exact ⟨_, _, rfl, f h6, f k6⟩
def linF (s t : Int) : PD → PD
  | .tuple [.int a, .int b] => .int (s * a + t * b)
  | d => d
theorem c_chord {C : Addr} (D : DF P w K mg "chord_curve" s_chord_curve) (B : Bi mg) (XC : ExK K mg "NoChord" C) (hM : ∃ t, mg "MOST_STEPS" = some (.int 12 t)) (T : Tab K mg "FIRST" (pD P1)) (C1 : Cal P w K mg base CX0 45 "look_at_pair" ["outer", "inner"] (spD K R_lookp)) (C2 : Cal P w K mg base CX0 40 "is_number" ["thing"] (spD K R_is_number))
    (C3 : Cal P w K mg base CX0 42 "cubic_by_pairs" ["outer", "inner"] (spD K R_cubic)) (C4 : Cal P w K mg base CX0 45 "times_of" ["cubic", "spot", "many"] (spD K R_times)) (C5 : Cal P w K mg base CX0 40 "determinant_of" ["six"] (spD K R_det)) (C6' : Cal P w K mg base CX0 41 "kept_six" ["six"] (spD K R_kept)) :
    Cal P w K mg base (L2.CX P w) 46 "chord_curve" ["outer", "inner", "steps"] (spD K (R_chord C)) := by
  refine cal_ofX D sc_chord (fun xs r ⟨_, _, _, _, _, _, h, _⟩ => by rw [h]; rfl) (fun _ _ _ _ _ _ us hl => match us, hl with | [_, _, _], _ => rfl) fun f cdv A outer s H E xs r hr h => ?_
  obtain ⟨o, i, n, hn1, hn, hb, rfl, rfl⟩ := h
  have nd := sc_chord.nd
  have ok := cub_ok hb.co hb.ci hb.p
  obtain ⟨tM, hM⟩ := hM
  have step : ∀ out, SX (cxOf (L2.CX P w) P w K mg base ["outer", "inner", "steps", "spot", "top", "bottom", "six", "one", "other"] "chord_curve" (defScope s_chord_curve) f cdv A outer s H E) (fun b => H b = none) E ((defBody s_chord_curve).drop 3) [.d (cD o), .d (cD i), .d (.int (n : Int)), .d (pD (mul (cub o i) P1 n)), .no, .no, .no, .no, .no] out → SX (cxOf (L2.CX P w) P w K mg base ["outer", "inner", "steps", "spot", "top", "bottom", "six", "one", "other"] "chord_curve" (defScope s_chord_curve) f cdv A outer s H E) (fun b => H b = none) E (defBody s_chord_curve) [.d (cD o), .d (cD i), .d (.int (n : Int)), .no, .no, .no, .no, .no, .no] out := by
    intro out h
    refine sx_cons (s1_expr (ex_call C1 hr (ea_cons (z := false) (ex_var 0) (ea_cons (ex_var 1) ea_nil)) ⟨o, i, hb.bo, hb.bi, hb.co, hb.ci, hb.p, rfl, rfl⟩)) ?_
    refine sx_cons (s1_ifF (tx_w (wx_orF (tx_is (tx_not (tx_val (ex_call C2 (hr.mono (by decide)) (ea_cons (z := false) (ex_var 2) ea_nil) ⟨(n : Int), rfl, rfl⟩))) rfl) (wx_orF (tx_is (tx_cmp op_lt rd_B0 (ex_var 2) ex_int) (decide_eq_false (by omega))) (wx_or1 (tx_is (tx_cmp op_gt rd_B0 (ex_var 2) (ex_glob (v := .int 12) hM ⟨_, rfl⟩ fun _ => .int 12)) (decide_eq_false (by omega))))))) sx_nil) ?_
    exact sx_cons (s1_set 3 nd (ex_call C4 hr (ea_cons (z := false) (ex_call C3 (hr.mono (by decide)) (ea_cons (z := false) (ex_var 0) (ea_cons (ex_var 1) ea_nil)) ⟨o, i, hb.bo, hb.bi, hb.ci.1, rfl, rfl⟩) (ea_cons (ex_tab T) (ea_cons (ex_var 2) ea_nil))) ⟨cub o i, n, hn, ok, hb.cb, hb.pts, rfl, rfl⟩ (nol_pD _))) h
  have hp := hb.pts n (Nat.le_refl n)
  unfold chordM
  generalize mul (cub o i) P1 n = p at *
  cases p with
  | none => exact ⟨.ex C, rfl, step _ (sx_stop (s1_ifT (tx_is (tx_cmp op_isN rd_isN (ex_var 3) ex_non) rfl) (sx_stop (s1_rais rfl (takes_of rfl rfl rfl rfl) XC))))⟩
  | some p =>
    obtain ⟨t, y⟩ := p
    have bn := qb_n hp.1
    have bd := qb_d hp.1
    have cbx : CB (chordX t o i) := cb_mono (chordX_bits hb.bO hb.bI hp.1) (by decide)
    have six : ∀ out, SX (cxOf (L2.CX P w) P w K mg base ["outer", "inner", "steps", "spot", "top", "bottom", "six", "one", "other"] "chord_curve" (defScope s_chord_curve) f cdv A outer s H E) (fun b => H b = none) E ((defBody s_chord_curve).drop 6) [.d (cD o), .d (cD i), .d (.int (n : Int)), .d (pD (some (t, y))), .d (.int t.num), .d (.int (t.den : Int)), .d (cD (chordX t o i)), .no, .no] out → SX (cxOf (L2.CX P w) P w K mg base ["outer", "inner", "steps", "spot", "top", "bottom", "six", "one", "other"] "chord_curve" (defScope s_chord_curve) f cdv A outer s H E) (fun b => H b = none) E ((defBody s_chord_curve).drop 3) [.d (cD o), .d (cD i), .d (.int (n : Int)), .d (pD (some (t, y))), .no, .no, .no, .no, .no] out := by
      intro out h
      refine sx_cons (s1_ifF (tx_is (tx_cmp op_isN rd_isN (ex_var 3) ex_non) rfl) sx_nil) ?_
      refine sx_cons (s1_asg (x := fD t) (ex_ixT (ex_var 3) ex_int) (gx_tup (js := [4, 5]) rfl (pns_cons 4 nd (pns_cons 5 nd pns_nil)))) ?_
      refine sx_cons (s1_set (x := cD (chordX t o i)) 6 nd (ex_tuple B.tuple (el_lc (own := [("one", 7), ("other", 8)]) (g := gTup K 2 (gNames [7, 8])) rfl nd (ix_zip (ds := o.l.map PyData.int) (es := i.l.map PyData.int) B.zip (ex_var 0) (ex_var 1) (.inl ⟨rfl, rfl⟩) rfl) (blkOk_by (N := ["outer", "inner", "steps", "spot", "top", "bottom", "six", "one", "other"]) (sc := defScope s_chord_curve) (by decide +kernel))
        (fun _ _ _ _ _ => pg_tup (t := gNames [7, 8]) (n := 2) rfl (pns_cons 7 nd (pns_cons 8 nd pns_nil)).h) (lcx_map (linF t.num t.den) rfl _ fun d hd => ?_)))) h
      obtain ⟨a, b, rfl, ba, bb⟩ := zip_mem hb.bO hb.bI hd
      exact ⟨_, eg_tup (js := [7, 8]) rfl, sub_sets [7, 8] _ _, ev_U Sub.refl fun s' H' C cl fp => ex_add (ex_mul (ex_var 4) (ex_var 7) bn ba (by decide)) (ex_mul (ex_var 5) (ex_var 8) bd bb (by decide)), rfl⟩
    by_cases d : (chordX t o i).det = 0
    · refine ⟨.ex C, ?_, step _ (six _ (sx_stop (s1_ifT (tx_is (tx_cmp op_eq rd_eqI (ex_call C5 (hr.mono (by decide)) (ea_cons (z := false) (ex_var 6) ea_nil) ⟨_, cbx, rfl, rfl⟩) ex_int) (decide_eq_true d)) (sx_stop (s1_rais rfl (takes_of rfl rfl rfl rfl) XC)))))⟩
      show Fin (.ex C) (match (if (chordX t o i).det = 0 then none else some (kept (chordX t o i))) with | some F => Rs.ok (cD F) | none => .err C)
      rw [if_pos d]
      rfl
    · refine ⟨.ret (cD (kept (chordX t o i))), ?_, step _ (six _ (sx_cons (s1_ifF (tx_is (tx_cmp op_eq rd_eqI (ex_call C5 (hr.mono (by decide)) (ea_cons (z := false) (ex_var 6) ea_nil) ⟨_, cbx, rfl, rfl⟩) ex_int) (decide_eq_false d)) sx_nil) (sx_stop (s1_ret (ex_call C6' (hr.mono (by decide)) (ea_cons (z := false) (ex_var 6) ea_nil) ⟨_, gcdL_pos (some_ne d), rfl, rfl⟩)))))⟩
      show Fin (.ret _) (match (if (chordX t o i).det = 0 then none else some (kept (chordX t o i))) with | some F => Rs.ok (cD F) | none => .err C)
      rw [if_neg d]
      rfl
end
end Rs


set_option maxRecDepth 100000
set_option maxHeartbeats 4000000
namespace Rs
open PySem PySem.Spec PyProof.Rows L2 Dl
/-! ### bounds of fractions, by search -/
class QbI (x : Rat) (n : outParam Nat) : Prop where
  h : Qb x n
instance {x y : Rat} {a b : Nat} [h1 : QbI x a] [h2 : QbI y b] : QbI (x + y) (a + b + 1) := ⟨qb_add h1.h h2.h⟩
instance {x y : Rat} {a b : Nat} [h1 : QbI x a] [h2 : QbI y b] : QbI (x - y) (a + b + 1) := ⟨qb_sub h1.h h2.h⟩
instance {x y : Rat} {a b : Nat} [h1 : QbI x a] [h2 : QbI y b] : QbI (x * y) (a + b) := ⟨qb_mul h1.h h2.h⟩
theorem qb_pos {x : Rat} {a : Nat} (h : Qb x a) : 0 < a := by
  rcases Nat.eq_zero_or_pos a with z | z
  · subst z
    have := h.2
    have := x.den_pos
    omega
  · exact z
theorem qb_divZ {x y : Rat} {a b : Nat} (h1 : Qb x a) (h2 : Qb y b) : Qb (x / y) (a + b) := by
  by_cases z : y = 0
  · subst z
    have e : x / 0 = 0 := by grind
    rw [e]
    exact qb0.mono (by have := qb_pos h1; omega)
  · exact qb_div h1 h2 z
instance {x y : Rat} {a b : Nat} [h1 : QbI x a] [h2 : QbI y b] : QbI (x / y) (a + b) := ⟨qb_divZ h1.h h2.h⟩
instance : QbI 0 1 := ⟨qb0⟩
instance : QbI 1 1 := ⟨qb1⟩
instance : QbI 2 2 := ⟨qb2⟩
instance : QbI 3 2 := ⟨qb3⟩
instance : QbI 4 3 := ⟨⟨by decide, by decide⟩⟩
instance : QbI 18 5 := ⟨⟨by decide, by decide⟩⟩
instance : QbI 27 5 := ⟨⟨by decide, by decide⟩⟩
instance : QbI (-2) 2 := ⟨⟨by decide, by decide⟩⟩
instance : QbI (-1) 1 := ⟨⟨by decide, by decide⟩⟩
def FOk (x y : Rat) : Prop := ∃ n m, Qb x n ∧ Qb y m ∧ n + m ≤ 999000
theorem fOk {x y : Rat} {n m : Nat} [a : QbI x n] [b : QbI y m] (h : n + m ≤ 999000) : FOk x y := ⟨n, m, a.h, b.h, h⟩
section
variable {X : Cx} {F : Addr → Prop} {Γ Γ1 Γ2 : Gm} {a b : Expr} {pos p1 : Pos} {x y : Rat} {n m : Nat}
theorem ex_fI {ok : Rat → Rat → Prop} {g : Rat → Rat → Rat} {nm : Str} {k : Nat} {q1 q2 : Str} (C : Cal X.prog X.w X.K X.mg X.base CX0 k nm [q1, q2] (spD X.K (R_f2 ok g))) (hr : Room k X.A) (ha : EX X F a Γ Γ1 (fD x)) (hb : EX X F b Γ1 Γ2 (fD y)) (ho : ok x y := by exact trivial) (hf : FOk x y := by exact fOk (by decide)) (hg : Gl X nm := by rfl)
    (hdb : (nm == ("__debug__" : Str)) = false := by decide) (he : starEach [a, b] X.env = (false, eval a X.env) :: starEach [b] X.env := by rfl) (he2 : starEach [b] X.env = (false, eval b X.env) :: starEach [] X.env := by rfl) (hpl : (backTo pos (starEach [b] X.env)).any (·.1) = false := by rfl) : EX X F (.Call (.Name nm p1) [a, b] [] pos) Γ Γ2 (fD (g x y)) := by
  obtain ⟨n, m, h1, h2, h3⟩ := hf
  exact ex_call C hr (ea_cons (z := false) ha (ea_cons hb ea_nil he2) he) ⟨x, y, n, m, h1, h2, h3, ho, rfl, rfl⟩ rfl hg hdb he hpl
theorem ex_neg {i : Int} (ha : EX X F a Γ Γ1 (.int i)) : EX X F (.UnaryOp .USub a pos) Γ Γ1 (.int (-i)) :=
  ex_of (pe_un un_neg peW) ⟨ha.sub, fun H0 σ H S Q k => ha.run H0 σ H S _ fun v A0 A sa S1 hv => by cases hv; exact ⟨i, rfl, k _ A0 A sa S1 (.int _)⟩⟩
/-- (i, j) is a fraction -/
theorem ex_fr {i j : Int} {k1 : Nat} (ha : EX X F a Γ Γ (.int i)) (hb : EX X F b Γ Γ (.int j)) (e : PyData.tuple [.int i, .int j] = fD x := by rfl) (he : starEach [a, b] X.env = (false, eval a X.env) :: starEach [b] X.env := by rfl) (he2 : starEach [b] X.env = (false, eval b X.env) :: starEach [] X.env := by rfl) :
    EX X F (.Tuple [a, b] k1 pos) Γ Γ (fD x) := ex_is (ex_tup (ea_cons ha (ea_cons hb ea_nil he2) he)) e
theorem nol_fD (x : Rat) : NoL (fD x) = true := rfl
end
def rNotInT (K : PySem.W.Frag) : R2 := fun x y H Q => ∃ d ds, Dp K H x d ∧ Dp K H y (.tuple ds) ∧ SeqAt.shaped d = true ∧ SeqAt.shaped (.tuple ds) = true ∧ Q (.bl (!ds.any fun z => PyData.eqv z d)) H
theorem op_notInT {X : Cx} (hu : X.A.units + 65 < cLine) : OpR X (compareOp .NotIn) (rNotInT X.K) := by
  intro pins s σ H x y v u Q I rx ry h
  obtain ⟨d, ds, hd, he, sd, se, q⟩ := h
  obtain ⟨as, r1⟩ := Dp.reads I d x v hd rx
  obtain ⟨bs, r2⟩ := Dp.reads I (.tuple ds) y u he ry
  exact SeqAt.notIn_tuple_reads r2 r1 (SeqAt.canLay_of_shaped se) (SeqAt.canLay_of_shaped sd) (room_in_shaped sd hu) ⟨.bl _, H, I, rfl, q⟩
theorem rd_notIn {K : PySem.W.Frag} {d : PD} {ds : List PD} (s1 : SeqAt.shaped d = true) (s2 : SeqAt.shaped (.tuple ds) = true) : RD K (rNotInT K) d (.tuple ds) (.bool (!ds.any fun z => PyData.eqv z d)) := fun H v w h1 h2 Q k => ⟨d, ds, h1, h2, s1, s2, k _ fun _ => .bl _⟩
/-- the body of the for that leads -/
def forBody : List Stmt → List Stmt
  | .For _ _ b _ _ :: _ => b
  | _ => []
section
variable {P : Program} {w : World} {K : PySem.W.Frag} {mg : Str → Option Value} {base : Heap}
/-! ### product_of -/
def R_prod (xs : List PD) (r : Rs) : Prop := ∃ qs : List Rat, qs.length ≤ 5 ∧ (∀ q ∈ qs, Qb q 20000) ∧ xs = [.list (qs.map fD)] ∧ r = .ok (fD (prodM qs))
theorem sc_prod : FnScope ["fractions", "found", "fraction"] ["fractions"] (defScope s_product_of) := ⟨rfl, rfl, rfl, by decide +kernel, rfl, by decide +kernel, by decide +kernel⟩
theorem forx_prod {K : PySem.W.Frag} {F : Addr → Prop} {E : XK} {tb : TS} {L : PD} (st : ∀ (s q : Rat) (n : Nat), Qb s n → Qb q 20000 → n + 20000 ≤ 200000 → SR K F E tb [.d L, .d (fD s), .d (fD q)] (.nx [.d L, .d (fD (s * q)), .d (fD q)])) :
    ∀ (qs : List Rat) (s : Rat) (n : Nat) (s2 : Sl), Qb s n → (∀ q ∈ qs, Qb q 20000) → n + 20000 * qs.length ≤ 200000 → ∃ s2', ForX K F E (gName 2) [2] tb [.d L, .d (fD s), s2] (qs.map fD) (.nx [.d L, .d (fD (qs.foldl (fun a b => a * b) s)), s2'])
  | [], s, n, s2, _, _, _ => ⟨s2, .nil⟩
  | q :: qs, s, n, s2, h, hq, hl => by
    have bq := hq q List.mem_cons_self
    have hl2 : n + 20000 * (qs.length + 1) ≤ 200000 := hl
    obtain ⟨s2', f⟩ := forx_prod st qs (s * q) (n + 20000) (.d (fD q)) (qb_mul h bq) (fun z hz => hq z (List.mem_cons_of_mem _ hz)) (by omega)
    exact ⟨s2', .next eg_name Sub.setD (st s q n h bq (by omega)) f⟩
theorem forx_prodP {K : PySem.W.Frag} {F : Addr → Prop} {E : XK} {tb : TS} {L : PD} {qs : List Rat} {Pq : Gm → Prop} {s2 : Sl} (he : ∀ s2, Pq [.d L, .d (fD (prodM qs)), s2]) (h5 : qs.length ≤ 5) (hq : ∀ q ∈ qs, Qb q 20000)
    (st : ∀ (s q : Rat) (n : Nat), Qb s n → Qb q 20000 → n + 20000 ≤ 200000 → SR K F E tb [.d L, .d (fD s), .d (fD q)] (.nx [.d L, .d (fD (s * q)), .d (fD q)])) : ∃ Γ', Pq Γ' ∧ ForX K F E (gName 2) [2] tb [.d L, .d (fD 1), s2] (qs.map fD) (.nx Γ') := by
  obtain ⟨s2', f⟩ := forx_prod st qs 1 1 s2 qb1 hq (by omega)
  exact ⟨_, he s2', f⟩
theorem c_prod (D : DF P w K mg "product_of" s_product_of) (Fs : Fr P w K mg base) : Cal P w K mg base CX0 43 "product_of" ["fractions"] (spD K R_prod) := by
  refine cal_of D sc_prod (fun xs r ⟨_, _, _, h, _⟩ => by rw [h]; rfl) (fun _ _ _ _ _ _ us hl => match us, hl with | [_], _ => rfl) fun f cdv A outer s H E xs r hr h => ?_
  obtain ⟨qs, hl, hq, rfl, rfl⟩ := h
  refine ⟨.ret _, rfl, ?_⟩
  have nd := sc_prod.nd
  refine sx_cons (s1_set (x := fD 1) 1 nd (ex_fr ex_int ex_int)) ?_
  refine sx_forE (vs := [2]) (fun Γ => ∃ s2, Γ = [.d (.list (qs.map fD)), .d (fD (prodM qs)), s2]) PassesOwn.never rfl (ix_lstD (ds := qs.map fD) (ex_var 0)) (pg_name (i := 2) nd rfl (.inl rfl)) ?_ fun Γ' hΓ => ?_
  · refine forx_prodP (s2 := .no) (fun s2 => ⟨s2, rfl⟩) hl hq fun s q n hs hq hn => ?_
    exact sx_one (s1_set (x := fD (s * q)) 1 nd (ex_f2 (x := s) (y := q) Fs.times hr (ex_var 1) (ex_var 2) hs hq (by omega) trivial))
  · obtain ⟨s2, rfl⟩ := hΓ
    exact sx_stop (s1_ret (ex_var 1))
theorem ex_prod {X : Cx} {F : Addr → Prop} {Γ : Gm} {a : Expr} {pos p1 : Pos} {qs : List Rat} (C : Cal X.prog X.w X.K X.mg X.base CX0 43 "product_of" ["fractions"] (spD X.K R_prod)) (hr : Room 43 X.A) (ha : EL X F a Γ Γ (qs.map fD)) (hl : qs.length ≤ 5) (hq : ∀ q ∈ qs, Qb q 20000) (hg : Gl X "product_of" := by rfl)
    (he : starEach [a] X.env = (false, eval a X.env) :: starEach [] X.env := by rfl) (hpl : (backTo pos (starEach [] X.env)).any (·.1) = false := by rfl) : EX X F (.Call (.Name "product_of" p1) [a] [] pos) Γ Γ (fD (prodM qs)) :=
  ex_call C hr (ea_consL ha ea_nil he) ⟨qs, hl, hq, rfl, rfl⟩ rfl hg (by decide) he hpl
/-! ### discriminant_of -/
structure Cub60 (c : Cub) : Prop where
  g : Qb c.g 19999
  h : Qb c.h 19999
  k : Qb c.k 19999
def R_disc (xs : List PD) (r : Rs) : Prop := ∃ c : Cub, Cub60 c ∧ xs = [cubD c] ∧ r = .ok (fD (discM c))
theorem sc_disc : FnScope ["cubic", "g", "h", "k", "found"] ["cubic"] (defScope s_discriminant_of) := ⟨rfl, rfl, rfl, by decide +kernel, rfl, by decide +kernel, by decide +kernel⟩
theorem prod_bits {qs : List Rat} (h5 : qs.length ≤ 5) (hq : ∀ q ∈ qs, Qb q 20000) : Qb (prodM qs) 100001 := by
  have g : ∀ (l : List Rat) (s : Rat) (n : Nat), Qb s n → (∀ q ∈ l, Qb q 20000) → Qb (l.foldl (fun a b => a * b) s) (n + 20000 * l.length) := by
    intro l
    induction l with
    | nil => exact fun s n h _ => h
    | cons q l ih => exact fun s n h hq => (ih (s * q) (n + 20000) (qb_mul h (hq q List.mem_cons_self)) fun z hz => hq z (List.mem_cons_of_mem _ hz)).mono (by rw [List.length_cons]; omega)
  exact (g qs 1 1 qb1 hq).mono (by omega)
theorem c_disc (D : DF P w K mg "discriminant_of" s_discriminant_of) (Fs : Fr P w K mg base) (C1 : Cal P w K mg base CX0 43 "product_of" ["fractions"] (spD K R_prod)) : Cal P w K mg base CX0 44 "discriminant_of" ["cubic"] (spD K R_disc) := by
  refine cal_of D sc_disc (fun xs r ⟨_, _, h, _⟩ => by rw [h]; rfl) (fun _ _ _ _ _ _ us hl => match us, hl with | [_], _ => rfl) fun f cdv A outer s H E xs r hr h => ?_
  obtain ⟨c, hc, rfl, rfl⟩ := h
  refine ⟨.ret _, rfl, ?_⟩
  have nd := sc_disc.nd
  have bg := hc.g.mono (b := 20000) (by decide)
  have bh := hc.h.mono (b := 20000) (by decide)
  have bk := hc.k.mono (b := 20000) (by decide)
  have b4 : Qb 4 20000 := ⟨by decide +kernel, by decide +kernel⟩
  have b27 : Qb 27 20000 := ⟨by decide +kernel, by decide +kernel⟩
  have b18 : Qb 18 20000 := ⟨by decide +kernel, by decide +kernel⟩
  have q4 : ∀ {a b c d : Rat}, Qb a 20000 → Qb b 20000 → Qb c 20000 → Qb d 20000 → ∀ q ∈ [a, b, c, d], Qb q 20000 := fun h1 h2 h3 h4 q hq => by
    simp only [List.mem_cons, List.not_mem_nil, or_false] at hq
    rcases hq with rfl | rfl | rfl | rfl <;> assumption
  have q5 : ∀ {a b c d e : Rat}, Qb a 20000 → Qb b 20000 → Qb c 20000 → Qb d 20000 → Qb e 20000 → ∀ q ∈ [a, b, c, d, e], Qb q 20000 := fun h1 h2 h3 h4 h5 q hq => by
    simp only [List.mem_cons, List.not_mem_nil, or_false] at hq
    rcases hq with rfl | rfl | rfl | rfl | rfl <;> assumption
  have q3 : ∀ {a b c : Rat}, Qb a 20000 → Qb b 20000 → Qb c 20000 → ∀ q ∈ [a, b, c], Qb q 20000 := fun h1 h2 h3 q hq => by
    simp only [List.mem_cons, List.not_mem_nil, or_false] at hq
    rcases hq with rfl | rfl | rfl <;> assumption
  have p1 := q4 bg bh bg bh
  have p2 := q4 b4 bh bh bh
  have p3 := q5 b4 bk bg bg bg
  have p4 := q3 b27 bk bk
  have p5 := q4 b18 bg bh bk
  have r1 := prod_bits (Nat.le_of_ble_eq_true rfl) p1
  have r2 := prod_bits (Nat.le_of_ble_eq_true rfl) p2
  have r3 := prod_bits (Nat.le_of_ble_eq_true rfl) p3
  have r4 := prod_bits (Nat.le_of_ble_eq_true rfl) p4
  have r5 := prod_bits (Nat.le_of_ble_eq_true rfl) p5
  refine sx_cons (s1_asg (ex_var 0) (gx_tup (js := [1, 2, 3]) rfl (pns_cons 1 nd (pns_cons 2 nd (pns_cons 3 nd pns_nil))))) ?_
  refine sx_cons (s1_set 4 nd (ex_f2 Fs.less (hr.mono (by decide)) (ex_prod (qs := [c.g, c.h, c.g, c.h]) C1 hr (el_lst (ea_cons (ex_var 1) (ea_cons (ex_var 2) (ea_cons (ex_var 1) (ea_cons (ex_var 2) ea_nil))))) (Nat.le_of_ble_eq_true rfl) p1)
    (ex_prod (qs := [4, c.h, c.h, c.h]) C1 hr (el_lst (ea_cons (ex_fr (x := 4) ex_int ex_int) (ea_cons (ex_var 2) (ea_cons (ex_var 2) (ea_cons (ex_var 2) ea_nil))))) (Nat.le_of_ble_eq_true rfl) p2) r1 r2 (by decide) trivial)) ?_
  have r12 := qb_sub r1 r2
  refine sx_cons (s1_set 4 nd (ex_f2 (x := prodM [c.g, c.h, c.g, c.h] - prodM [4, c.h, c.h, c.h]) Fs.less (hr.mono (by decide)) (ex_var 4)
    (ex_prod (qs := [4, c.k, c.g, c.g, c.g]) C1 hr (el_lst (ea_cons (ex_fr (x := 4) ex_int ex_int) (ea_cons (ex_var 3) (ea_cons (ex_var 1) (ea_cons (ex_var 1) (ea_cons (ex_var 1) ea_nil)))))) (Nat.le_of_ble_eq_true rfl) p3) r12 r3 (by decide) trivial)) ?_
  have r13 := qb_sub r12 r3
  refine sx_cons (s1_set 4 nd (ex_f2 (x := prodM [c.g, c.h, c.g, c.h] - prodM [4, c.h, c.h, c.h] - prodM [4, c.k, c.g, c.g, c.g]) Fs.less (hr.mono (by decide)) (ex_var 4)
    (ex_prod (qs := [27, c.k, c.k]) C1 hr (el_lst (ea_cons (ex_fr (x := 27) ex_int ex_int) (ea_cons (ex_var 3) (ea_cons (ex_var 3) ea_nil)))) (Nat.le_of_ble_eq_true rfl) p4) r13 r4 (by decide) trivial)) ?_
  have r14 := qb_sub r13 r4
  exact sx_stop (s1_ret (ex_f2 (x := prodM [c.g, c.h, c.g, c.h] - prodM [4, c.h, c.h, c.h] - prodM [4, c.k, c.g, c.g, c.g] - prodM [27, c.k, c.k]) Fs.sum (hr.mono (by decide)) (ex_var 4)
    (ex_prod (qs := [18, c.g, c.h, c.k]) C1 hr (el_lst (ea_cons (ex_fr (x := 18) ex_int ex_int) (ea_cons (ex_var 1) (ea_cons (ex_var 2) (ea_cons (ex_var 3) ea_nil))))) (Nat.le_of_ble_eq_true rfl) p5) r14 r5 (by decide) trivial))
/-! ### look_at_cubic -/
def R_lookc (xs : List PD) (r : Rs) : Prop := ∃ c : Cub, Cub60 c ∧ c.k ≠ 0 ∧ discM c ≠ 0 ∧ xs = [cubD c] ∧ r = .ok .none
theorem sc_lookc : FnScope ["cubic", "part"] ["cubic"] (defScope s_look_at_cubic) := ⟨rfl, rfl, rfl, by decide +kernel, rfl, by decide +kernel, by decide +kernel⟩
theorem c_lookc (D : DF P w K mg "look_at_cubic" s_look_at_cubic) (B : Bi mg) (C1 : Cal P w K mg base CX0 42 "is_fraction" ["thing"] (spD K R_is_frac)) (C2 : Cal P w K mg base CX0 44 "discriminant_of" ["cubic"] (spD K R_disc)) : Cal P w K mg base CX0 45 "look_at_cubic" ["cubic"] (spD K R_lookc) := by
  refine cal_of D sc_lookc (fun xs r ⟨_, _, _, _, h, _⟩ => by rw [h]; rfl) (fun _ _ _ _ _ _ us hl => match us, hl with | [_], _ => rfl) fun f cdv A outer s H E xs r hr h => ?_
  obtain ⟨c, hc, hk, hd, rfl, rfl⟩ := h
  have nd := sc_lookc.nd
  have kn : c.k.num ≠ 0 := fun z => hk (Rat.num_eq_zero.mp z)
  have dn : (discM c).num ≠ 0 := fun z => hd (Rat.num_eq_zero.mp z)
  refine ⟨.nx [.d (cubD c), .d (fD c.k)], rfl, ?_⟩
  refine sx_cons (s1_ifF (tx_w (wx_orF (tx_is (tx_not (tx_val (ex_isTup B.isinstance B.tuple (ex_var 0)))) rfl) (wx_or1 (tx_is (tx_cmp op_ne rd_neI (ex_len B.len (ex_var 0) (.inl rfl)) ex_int) rfl)))) sx_nil) ?_
  refine sx_forE (vs := [1]) (fun Γ => Γ = [.d (cubD c), .d (fD c.k)]) PassesOwn.never rfl (ix_tupD (ds := [fD c.g, fD c.h, fD c.k]) (ex_var 0)) (pg_name (i := 1) nd rfl (.inl rfl)) ?_ fun Γ' hΓ => ?_
  · have st : ∀ q : Rat, SX (cxOf CX0 P w K mg base ["cubic", "part"] "look_at_cubic" (defScope s_look_at_cubic) f cdv A outer s H E).nox (fun b => H b = none) E (forBody ((defBody s_look_at_cubic).drop 1)) [.d (cubD c), .d (fD q)] (.nx [.d (cubD c), .d (fD q)]) := fun q =>
      sx_one (s1_ifF (tx_is (tx_not (tx_val (ex_call C1 (hr.mono (by decide)) (ea_cons (z := false) (ex_var 1) ea_nil) ⟨q, rfl, rfl⟩))) rfl) sx_nil)
    exact ⟨_, rfl, .next eg_name Sub.setD (st c.g) (.next eg_name Sub.setD (st c.h) (.next eg_name Sub.setD (st c.k) .nil))⟩
  · subst hΓ
    exact sx_one (s1_ifF (tx_w (wx_orF (tx_is (tx_cmp op_eq rd_eqI (ex_ixT (x := .int c.k.num) (ex_ixT (x := fD c.k) (ex_var 0) ex_int) ex_int) ex_int) (decide_eq_false kn)) (wx_or1 (tx_is (tx_cmp op_eq rd_eqI (ex_ixT (x := .int (discM c).num) (ex_call C2 hr (ea_cons (z := false) (ex_var 0) ea_nil) ⟨c, hc, rfl, rfl⟩) ex_int) ex_int) (decide_eq_false dn))))) sx_nil)
end
end Rs


set_option maxRecDepth 100000
set_option maxHeartbeats 4000000
namespace Rs
open PySem PySem.Spec PyProof.Rows L2 Dl
instance : QbI ((3 : Int) : Rat) 2 := ⟨⟨by decide, by decide⟩⟩
instance : QbI ((-3 : Int) : Rat) 2 := ⟨⟨by decide, by decide⟩⟩
instance : QbI ((2 : Int) : Rat) 2 := ⟨⟨by decide, by decide⟩⟩
instance : QbI ((-2 : Int) : Rat) 2 := ⟨⟨by decide, by decide⟩⟩
instance : QbI ((1 : Int) : Rat) 2 := ⟨⟨by decide, by decide⟩⟩
instance : QbI ((-1 : Int) : Rat) 2 := ⟨⟨by decide, by decide⟩⟩
instance {a b c : Int} {x y z : Rat} {n m k : Nat} [i1 : QbI (a : Rat) 2] [i2 : QbI (b : Rat) 2] [i3 : QbI (c : Rat) 2] [i4 : QbI x n] [i5 : QbI y m] [i6 : QbI z k] : QbI (sumM a b c x y z) (1 + (2 + n) + 1 + (2 + m) + 1 + (2 + k) + 1) := inferInstanceAs (QbI (0 + (a : Rat) * x + (b : Rat) * y + (c : Rat) * z) _)
theorem qbi_of {x : Rat} {n m : Nat} [h : QbI x m] (l : m ≤ n) : QbI x n := ⟨h.h.mono l⟩
section
variable {P : Program} {w : World} {K : PySem.W.Frag} {mg : Str → Option Value} {base : Heap}
/-! ### quotient, powers_of, summed -/
theorem c_quot (D : DF P w K mg "quotient" s_quotient) (T : Tab K mg "NOTHING_rings" (fD 0)) (Fs : Fr P w K mg base) : Cal P w K mg base CX0 43 "quotient" ["top", "bottom"] (spD K R_fby) := by
  refine cal_of D ⟨rfl, rfl, rfl, by decide +kernel, rfl, by decide +kernel, by decide +kernel⟩ (N := ["top", "bottom"]) (fun xs r ⟨_, _, _, _, _, _, _, _, h, _⟩ => by rw [h]; rfl) (fun _ _ _ _ _ _ us hl => match us, hl with | [_, _], _ => rfl) fun f cdv A outer s H E xs r hr h => ?_
  obtain ⟨x, y, a, b, hx, hy, hab, hz, rfl, rfl⟩ := h
  refine ⟨.ret _, rfl, ?_⟩
  refine sx_cons (s1_ifF (tx_is (tx_cmp (op_eqD (units_of hr)) (rd_eq (x := fD y) (y := fD 0) rfl rfl) (ex_var 1) (ex_tab T)) (by rw [eqv_fD]; exact decide_eq_false hz)) sx_nil) ?_
  exact sx_stop (s1_ret (ex_f2 (x := x) (y := y) Fs.by_ hr (ex_var 0) (ex_var 1) hx hy hab hz))
def R_pow (xs : List PD) (r : Rs) : Prop := ∃ t : Rat, Qb t 1000 ∧ xs = [fD t] ∧ r = .ok (.tuple [fD (t * t), fD (t * t * t)])
theorem sc_pow : FnScope ["t", "square"] ["t"] (defScope s_powers_of) := ⟨rfl, rfl, rfl, by decide +kernel, rfl, by decide +kernel, by decide +kernel⟩
theorem c_pow (D : DF P w K mg "powers_of" s_powers_of) (Fs : Fr P w K mg base) : Cal P w K mg base CX0 43 "powers_of" ["t"] (spD K R_pow) := by
  refine cal_of D sc_pow (fun xs r ⟨_, _, h, _⟩ => by rw [h]; rfl) (fun _ _ _ _ _ _ us hl => match us, hl with | [_], _ => rfl) fun f cdv A outer s H E xs r hr h => ?_
  obtain ⟨t, ht, rfl, rfl⟩ := h
  have it : QbI t 1000 := ⟨ht⟩
  refine ⟨.ret _, rfl, ?_⟩
  have nd := sc_pow.nd
  refine sx_cons (s1_set (x := fD (t * t)) 1 nd (ex_fI (x := t) (y := t) Fs.times hr (ex_var 0) (ex_var 0))) ?_
  exact sx_stop (s1_ret (ex_tup (ea_cons (ex_var 1) (ea_cons (ex_fI (x := t * t) (y := t) Fs.times hr (ex_var 1) (ex_var 0)) ea_nil))))
def R_sumd (xs : List PD) (r : Rs) : Prop := ∃ (a b c : Int) (x y z : Rat), Qb (a : Rat) 2 ∧ Qb (b : Rat) 2 ∧ Qb (c : Rat) 2 ∧ Qb x 10000 ∧ Qb y 10000 ∧ Qb z 10000 ∧ xs = [.tuple [.int a, .int b, .int c], .tuple [fD x, fD y, fD z]] ∧ r = .ok (fD (sumM a b c x y z))
theorem sc_sumd : FnScope ["shares", "parts", "total", "times", "part"] ["shares", "parts"] (defScope s_summed) := ⟨rfl, rfl, rfl, by decide +kernel, rfl, by decide +kernel, by decide +kernel⟩
theorem c_sumd (D : DF P w K mg "summed" s_summed) (B : Bi mg) (T : Tab K mg "NOTHING_rings" (fD 0)) (Fs : Fr P w K mg base) : Cal P w K mg base CX0 43 "summed" ["shares", "parts"] (spD K R_sumd) := by
  refine cal_of D sc_sumd (fun xs r ⟨_, _, _, _, _, _, _, _, _, _, _, _, h, _⟩ => by rw [h]; rfl) (fun _ _ _ _ _ _ us hl => match us, hl with | [_, _], _ => rfl) fun f cdv A outer s H E xs r hr h => ?_
  obtain ⟨a, b, c, x, y, z, h1, h2, h3, h4, h5, h6, rfl, rfl⟩ := h
  refine ⟨.ret _, rfl, ?_⟩
  have nd := sc_sumd.nd
  refine sx_cons (s1_set (x := fD 0) 2 nd (ex_tab T)) ?_
  refine sx_forE (vs := [3, 4]) (fun Γ => ∃ s3 s4, Γ = [.d (.tuple [.int a, .int b, .int c]), .d (.tuple [fD x, fD y, fD z]), .d (fD (sumM a b c x y z)), s3, s4]) PassesOwn.never rfl (ix_zip (ds := [.int a, .int b, .int c]) (es := [fD x, fD y, fD z]) B.zip (ex_var 0) (ex_var 1) (.inl ⟨rfl, rfl⟩) rfl) (pg_tup (t := gNames [3, 4]) (n := 2) rfl (pns_cons 3 nd (pns_cons 4 nd pns_nil)).h) ?_ fun Γ' hΓ => ?_
  · have st : ∀ (u q : Rat) (i : Int), Qb u 100000 → Qb (i : Rat) 2 → Qb q 10000 → SX (cxOf CX0 P w K mg base ["shares", "parts", "total", "times", "part"] "summed" (defScope s_summed) f cdv A outer s H E).nox (fun b => H b = none) E (forBody ((defBody s_summed).drop 1)) [.d (.tuple [.int a, .int b, .int c]), .d (.tuple [fD x, fD y, fD z]), .d (fD u), .d (.int i), .d (fD q)] (.nx [.d (.tuple [.int a, .int b, .int c]), .d (.tuple [fD x, fD y, fD z]), .d (fD (u + (i : Rat) * q)), .d (.int i), .d (fD q)]) := fun u q i hu hi hq =>
      sx_one (s1_set (x := fD (u + (i : Rat) * q)) 2 nd (ex_f2 (x := u) (y := (i : Rat) * q) Fs.sum hr (ex_var 2) (ex_f2 (x := (i : Rat)) (y := q) Fs.times hr (ex_fr (x := (i : Rat)) (ex_var 3) ex_int) (ex_var 4) hi hq (by decide) trivial) hu (qb_mul hi hq) (by decide) trivial))
    have b1 := qb_add qb0 (qb_mul h1 h4)
    have b2 := qb_add b1 (qb_mul h2 h5)
    exact ⟨_, ⟨_, _, rfl⟩, .next (eg_tup (js := [3, 4]) rfl) (sub_sets [3, 4] _ _) (st 0 x a (qb0.mono (by decide)) h1 h4) (.next (eg_tup (js := [3, 4]) rfl) (sub_sets [3, 4] _ _) (st _ y b (b1.mono (by decide)) h2 h5) (.next (eg_tup (js := [3, 4]) rfl) (sub_sets [3, 4] _ _) (st _ z c (b2.mono (by decide)) h3 h6) .nil))⟩
  · obtain ⟨s3, s4, rfl⟩ := hΓ
    exact sx_stop (s1_ret (ex_var 2))
/-! ### lesser_two, greater_two -/
def p2D (p : Rat × Rat) : PD := .tuple [fD p.1, fD p.2]
def R_less2 (xs : List PD) (r : Rs) : Prop := ∃ (s : Int) (t : Rat), (s = 4 ∨ s = 5 ∨ s = 6 ∨ s = 7) ∧ Qb t 8 ∧ xs = [.int s, fD t] ∧ r = .ok (p2D (lesserM s t))
theorem sc_less2 : FnScope ["sides", "t", "square", "third"] ["sides", "t"] (defScope s_lesser_two) := ⟨rfl, rfl, rfl, by decide +kernel, rfl, by decide +kernel, by decide +kernel⟩
theorem c_less2 (D : DF P w K mg "lesser_two" s_lesser_two) (T : Tab K mg "NOTHING_rings" (fD 0)) (Fs : Fr P w K mg base) (C1 : Cal P w K mg base CX0 43 "powers_of" ["t"] (spD K R_pow)) : Cal P w K mg base CX0 44 "lesser_two" ["sides", "t"] (spD K R_less2) := by
  refine cal_of D sc_less2 (fun xs r ⟨_, _, _, _, h, _⟩ => by rw [h]; rfl) (fun _ _ _ _ _ _ us hl => match us, hl with | [_, _], _ => rfl) fun f cdv A outer s H E xs r hr h => ?_
  obtain ⟨sd, t, hs, ht, rfl, rfl⟩ := h
  have it : QbI t 8 := ⟨ht⟩
  refine ⟨.ret _, rfl, ?_⟩
  have nd := sc_less2.nd
  refine sx_cons (s1_asg (ex_call C1 hr (ea_cons (z := false) (ex_var 1) ea_nil) ⟨t, ht.mono (by decide), rfl, rfl⟩) (gx_tup (js := [2, 3]) rfl (pns_cons 2 nd (pns_cons 3 nd pns_nil)))) ?_
  rcases hs with rfl | rfl | rfl | rfl
  · exact sx_stop (s1_ifT (tx_is (tx_cmp op_eq rd_eqI (ex_var 0) ex_int) rfl) (sx_stop (s1_ret (ex_is (ex_tup (ea_cons (ex_var 1) (ea_cons (ex_tab T) ea_nil))) rfl))))
  · exact sx_cons (s1_ifF (tx_is (tx_cmp op_eq rd_eqI (ex_var 0) ex_int) rfl) sx_nil) (sx_stop (s1_ifT (tx_is (tx_cmp op_eq rd_eqI (ex_var 0) ex_int) rfl) (sx_stop (s1_ret (ex_is (ex_tup (ea_cons (ex_var 1) (ea_cons (ex_var 1) ea_nil))) rfl)))))
  · exact sx_cons (s1_ifF (tx_is (tx_cmp op_eq rd_eqI (ex_var 0) ex_int) rfl) sx_nil) (sx_cons (s1_ifF (tx_is (tx_cmp op_eq rd_eqI (ex_var 0) ex_int) rfl) sx_nil) (sx_stop (s1_ifT (tx_is (tx_cmp op_eq rd_eqI (ex_var 0) ex_int) rfl) (sx_stop (s1_ret (ex_is (ex_tup (ea_cons (ex_fI (x := t) (y := t * t) Fs.sum (hr.mono (by decide)) (ex_var 1) (ex_var 2)) (ea_cons (ex_var 1) ea_nil))) rfl))))))
  · exact sx_cons (s1_ifF (tx_is (tx_cmp op_eq rd_eqI (ex_var 0) ex_int) rfl) sx_nil) (sx_cons (s1_ifF (tx_is (tx_cmp op_eq rd_eqI (ex_var 0) ex_int) rfl) sx_nil) (sx_cons (s1_ifF (tx_is (tx_cmp op_eq rd_eqI (ex_var 0) ex_int) rfl) sx_nil)
      (sx_stop (s1_ret (ex_is (ex_tup (ea_cons (ex_fI (x := t * t * t) (y := t * t) Fs.less (hr.mono (by decide)) (ex_var 3) (ex_var 2)) (ea_cons (ex_fI (x := t * t) (y := t) Fs.less (hr.mono (by decide)) (ex_var 2) (ex_var 1)) ea_nil))) rfl)))))
def R_gr2 (xs : List PD) (r : Rs) : Prop := ∃ (s : Int) (t : Rat), ((s = 8 ∧ t ≠ 0) ∨ s = 9 ∨ (s = 10 ∧ g10 t ≠ 0) ∨ (s = 12 ∧ l12 t ≠ 0 ∧ t - 1 ≠ 0)) ∧ Qb t 8 ∧ xs = [.int s, fD t] ∧ r = .ok (p2D (greaterM s t))
theorem sc_gr2 : FnScope ["sides", "t", "square", "third", "less", "twice", "b", "c", "w", "top"] ["sides", "t"] (defScope s_greater_two) := ⟨rfl, rfl, rfl, by decide +kernel, rfl, by decide +kernel, by decide +kernel⟩
theorem c_gr2 (D : DF P w K mg "greater_two" s_greater_two) (T1 : Tab K mg "ONE" (fD 1)) (T2 : Tab K mg "TWO" (fD 2)) (Fs : Fr P w K mg base) (C1 : Cal P w K mg base CX0 43 "powers_of" ["t"] (spD K R_pow)) (C2 : Cal P w K mg base CX0 43 "quotient" ["top", "bottom"] (spD K R_fby)) (C3 : Cal P w K mg base CX0 43 "summed" ["shares", "parts"] (spD K R_sumd)) : Cal P w K mg base CX0 44 "greater_two" ["sides", "t"] (spD K R_gr2) := by
  refine cal_of D sc_gr2 (fun xs r ⟨_, _, _, _, h, _⟩ => by rw [h]; rfl) (fun _ _ _ _ _ _ us hl => match us, hl with | [_, _], _ => rfl) fun f cdv A outer s H E xs r hr h => ?_
  obtain ⟨sd, t, hs, ht, rfl, rfl⟩ := h
  have it : QbI t 8 := ⟨ht⟩
  have hr2 := hr.mono (show 42 ≤ 43 by decide)
  refine ⟨.ret _, rfl, ?_⟩
  have nd := sc_gr2.nd
  refine sx_cons (s1_asg (ex_call C1 hr (ea_cons (z := false) (ex_var 1) ea_nil) ⟨t, ht.mono (by decide), rfl, rfl⟩) (gx_tup (js := [2, 3]) rfl (pns_cons 2 nd (pns_cons 3 nd pns_nil)))) ?_
  refine sx_cons (s1_set (x := fD (t - 1)) 4 nd (ex_fI (x := t) (y := 1) Fs.less hr2 (ex_var 1) (ex_tab T1))) ?_
  refine sx_cons (s1_set (x := fD (2 * t - 1)) 5 nd (ex_fI (x := 2 * t) (y := 1) Fs.less hr2 (ex_fI (x := 2) (y := t) Fs.times hr2 (ex_tab T2) (ex_var 1)) (ex_tab T1))) ?_
  rcases hs with ⟨rfl, z0⟩ | rfl | ⟨rfl, z0⟩ | ⟨rfl, z0, z1⟩
  · refine sx_stop (s1_ifT (tx_is (tx_cmp op_eq rd_eqI (ex_var 0) ex_int) rfl) (sx_cons (s1_set (x := fD ((2 * t - 1) * (t - 1))) 6 nd (ex_fI (x := 2 * t - 1) (y := t - 1) Fs.times hr2 (ex_var 5) (ex_var 4))) ?_))
    exact sx_stop (s1_ret (ex_is (ex_tup (ea_cons (x := fD ((2 * t - 1) * (t - 1))) (ex_var 6) (ea_cons (ex_fI (x := (2 * t - 1) * (t - 1)) (y := t) C2 hr (ex_var 6) (ex_var 1) z0) ea_nil))) rfl))
  · refine sx_cons (s1_ifF (tx_is (tx_cmp op_eq rd_eqI (ex_var 0) ex_int) rfl) sx_nil) (sx_stop (s1_ifT (tx_is (tx_cmp op_eq rd_eqI (ex_var 0) ex_int) rfl) ?_))
    refine sx_cons (s1_set (x := fD (t * t * (t - 1))) 7 nd (ex_fI (x := t * t) (y := t - 1) Fs.times hr2 (ex_var 2) (ex_var 4))) ?_
    exact sx_stop (s1_ret (ex_is (ex_tup (ea_cons (ex_fI (x := t * t * (t - 1)) (y := t * (t - 1) + 1) Fs.times hr2 (ex_var 7) (ex_fI (x := t * (t - 1)) (y := 1) Fs.sum hr2 (ex_fI (x := t) (y := t - 1) Fs.times hr2 (ex_var 1) (ex_var 4)) (ex_tab T1))) (ea_cons (x := fD (t * t * (t - 1))) (ex_var 7) ea_nil))) rfl))
  · refine sx_cons (s1_ifF (tx_is (tx_cmp op_eq rd_eqI (ex_var 0) ex_int) rfl) sx_nil) (sx_cons (s1_ifF (tx_is (tx_cmp op_eq rd_eqI (ex_var 0) ex_int) rfl) sx_nil) (sx_stop (s1_ifT (tx_is (tx_cmp op_eq rd_eqI (ex_var 0) ex_int) rfl) ?_)))
    have i1 : QbI (g10 t) 29 := qbi_of (x := t - (t - 1) * (t - 1)) (by decide)
    have i2 : QbI (c10 t) 80 := qbi_of (x := t * (t - 1) * (2 * t - 1) / g10 t) (by decide)
    refine sx_cons (s1_set (x := fD (g10 t)) 8 nd (ex_fI (x := t) (y := (t - 1) * (t - 1)) Fs.less hr2 (ex_var 1) (ex_fI (x := t - 1) (y := t - 1) Fs.times hr2 (ex_var 4) (ex_var 4)))) ?_
    refine sx_cons (s1_set (x := fD (c10 t)) 7 nd (ex_fI (x := t * (t - 1) * (2 * t - 1)) (y := g10 t) C2 hr (ex_fI (x := t * (t - 1)) (y := 2 * t - 1) Fs.times hr2 (ex_fI (x := t) (y := t - 1) Fs.times hr2 (ex_var 1) (ex_var 4)) (ex_var 5)) (ex_var 8) z0)) ?_
    exact sx_stop (s1_ret (ex_is (ex_tup (ea_cons (ex_fI (x := c10 t * (t * t)) (y := g10 t) C2 hr (ex_fI (x := c10 t) (y := t * t) Fs.times hr2 (ex_var 7) (ex_var 2)) (ex_var 8) z0) (ea_cons (x := fD (c10 t)) (ex_var 7) ea_nil))) rfl))
  · refine sx_cons (s1_ifF (tx_is (tx_cmp op_eq rd_eqI (ex_var 0) ex_int) rfl) sx_nil) (sx_cons (s1_ifF (tx_is (tx_cmp op_eq rd_eqI (ex_var 0) ex_int) rfl) sx_nil) (sx_cons (s1_ifF (tx_is (tx_cmp op_eq rd_eqI (ex_var 0) ex_int) rfl) sx_nil) ?_))
    have i1 : QbI (l12 t) 40 := qbi_of (x := (t - 1) * ((t - 1) * (t - 1))) (by decide)
    have i2 : QbI (c12 t) 150 := qbi_of (x := sumM 3 (-3) 1 (t * t) t 1 * (t - 2 * (t * t)) / l12 t) (by decide)
    have sum1 := ht
    refine sx_cons (s1_set (x := fD (sumM 3 (-3) 1 (t * t) t 1 * (t - 2 * (t * t)))) 9 nd (ex_fI (x := sumM 3 (-3) 1 (t * t) t 1) (y := t - 2 * (t * t)) Fs.times hr2
      (ex_call C3 hr (ea_cons (z := false) (ex_tup (ea_cons ex_int (ea_cons (ex_neg ex_int) (ea_cons ex_int ea_nil)))) (ea_cons (ex_tup (ea_cons (ex_var 2) (ea_cons (ex_var 1) (ea_cons (ex_tab T1) ea_nil)))) ea_nil)) ⟨3, -3, 1, t * t, t, 1, QbI.h, QbI.h, QbI.h, (qb_mul ht ht).mono (by decide), ht.mono (by decide), qb1.mono (by decide), rfl, rfl⟩)
      (ex_fI (x := t) (y := 2 * (t * t)) Fs.less hr2 (ex_var 1) (ex_fI (x := 2) (y := t * t) Fs.times hr2 (ex_tab T2) (ex_var 2))))) ?_
    refine sx_cons (s1_set (x := fD (c12 t)) 7 nd (ex_fI (x := sumM 3 (-3) 1 (t * t) t 1 * (t - 2 * (t * t))) (y := l12 t) C2 hr (ex_var 9) (ex_fI (x := t - 1) (y := (t - 1) * (t - 1)) Fs.times hr2 (ex_var 4) (ex_fI (x := t - 1) (y := t - 1) Fs.times hr2 (ex_var 4) (ex_var 4))) z0)) ?_
    exact sx_stop (s1_ret (ex_is (ex_tup (ea_cons (ex_fI (x := c12 t * sumM 2 (-2) (-1) t (t * t) 1) (y := t - 1) C2 hr (ex_fI (x := c12 t) (y := sumM 2 (-2) (-1) t (t * t) 1) Fs.times hr2 (ex_var 7)
      (ex_call C3 hr (ea_cons (z := false) (ex_tup (ea_cons ex_int (ea_cons (ex_neg ex_int) (ea_cons (ex_neg ex_int) ea_nil)))) (ea_cons (ex_tup (ea_cons (ex_var 1) (ea_cons (ex_var 2) (ea_cons (ex_tab T1) ea_nil)))) ea_nil)) ⟨2, -2, -1, t, t * t, 1, QbI.h, QbI.h, QbI.h, ht.mono (by decide), (qb_mul ht ht).mono (by decide), qb1.mono (by decide), rfl, rfl⟩)) (ex_var 4) z1) (ea_cons (x := fD (c12 t)) (ex_var 7) ea_nil))) rfl))
end
end Rs


set_option maxRecDepth 100000
set_option maxHeartbeats 4000000
namespace Rs
open PySem PySem.Spec PyProof.Rows L2 Dl
/-- names of the block that were the def's own before -/
theorem lcx_map1 {K : PySem.W.Frag} {F : Addr → Prop} {g : TG} {te : TE} {vs : List Nat} {Γ0 Γ : Gm} (f : PD → PD) (h0 : setNo Γ0 vs = Γ) (hz : setNo Γ vs = Γ) (d : PD) (ds : List PD) (h : ∀ e, e ∈ d :: ds → ∃ Γt, EvG K F g vs e Γ Γt ∧ Sub Γt Γ ∧ EvE K F te Γt Γt (f e) ∧ setNo Γt vs = Γ) : LcX K F g tYes te vs Γ0 (d :: ds) Γ ((d :: ds).map f) := by
  obtain ⟨Γt, h1, h2, h3, h4⟩ := h d List.mem_cons_self
  refine .cons (Γt := Γt) (Γu := Γt) (by rw [h0]; exact h1) (by rw [h0]; exact h2) et_yes h3 ?_
  rw [h4]
  exact lcx_map f hz ds fun e he => h e (List.mem_cons_of_mem _ he)
theorem qb_lit {x : Rat} {n m : Nat} [h : QbI x m] (l : m ≤ n := by decide) : Qb x n := h.h.mono l
theorem cubicM_bits {p : Rat × Rat} (h1 : Qb p.1 300) (h2 : Qb p.2 300) : Cub60 (cubicM p) := by
  have i1 : QbI p.1 300 := ⟨h1⟩
  have i2 : QbI p.2 300 := ⟨h2⟩
  exact ⟨qb_lit (x := -2 * (1 - p.2) / p.1), qb_lit (x := ((1 - p.2) * (1 - p.2) - 4 * p.1) / (p.1 * p.1)), qb_lit (x := 4 / (p.1 * p.1))⟩
theorem lesserM_bits {s : Int} {t : Rat} (h : Qb t 8) : Qb (lesserM s t).1 300 ∧ Qb (lesserM s t).2 300 := by
  have i : QbI t 8 := ⟨h⟩
  unfold lesserM
  by_cases c1 : s = 4
  · rw [if_pos c1]; exact ⟨qb_lit, qb_lit⟩
  · rw [if_neg c1]
    by_cases c2 : s = 5
    · rw [if_pos c2]; exact ⟨qb_lit, qb_lit⟩
    · rw [if_neg c2]
      by_cases c3 : s = 6
      · rw [if_pos c3]; exact ⟨qb_lit (x := t + t * t), qb_lit⟩
      · rw [if_neg c3]; exact ⟨qb_lit (x := t * t * t - t * t), qb_lit (x := t * t - t)⟩
theorem greaterM_bits {s : Int} {t : Rat} (h : Qb t 8) : Qb (greaterM s t).1 300 ∧ Qb (greaterM s t).2 300 := by
  have i : QbI t 8 := ⟨h⟩
  have i1 : QbI (g10 t) 29 := qbi_of (x := t - (t - 1) * (t - 1)) (by decide)
  have i2 : QbI (c10 t) 80 := qbi_of (x := t * (t - 1) * (2 * t - 1) / g10 t) (by decide)
  have i3 : QbI (l12 t) 40 := qbi_of (x := (t - 1) * ((t - 1) * (t - 1))) (by decide)
  have i4 : QbI (c12 t) 150 := qbi_of (x := sumM 3 (-3) 1 (t * t) t 1 * (t - 2 * (t * t)) / l12 t) (by decide)
  unfold greaterM
  by_cases c1 : s = 8
  · rw [if_pos c1]; exact ⟨qb_lit (x := (2 * t - 1) * (t - 1)), qb_lit (x := (2 * t - 1) * (t - 1) / t)⟩
  · rw [if_neg c1]
    by_cases c2 : s = 9
    · rw [if_pos c2]; exact ⟨qb_lit (x := t * t * (t - 1) * (t * (t - 1) + 1)), qb_lit (x := t * t * (t - 1))⟩
    · rw [if_neg c2]
      by_cases c3 : s = 10
      · rw [if_pos c3]; exact ⟨qb_lit (x := c10 t * (t * t) / g10 t), qb_lit (x := c10 t)⟩
      · rw [if_neg c3]; exact ⟨qb_lit (x := c12 t * sumM 2 (-2) (-1) t (t * t) 1 / (t - 1)), qb_lit (x := c12 t)⟩
theorem countM_bits {s : Int} {t : Rat} (h : Qb t 8) : Cub60 (countM s t) := by
  have i : QbI t 8 := ⟨h⟩
  unfold countM
  by_cases c1 : s = 3
  · rw [if_pos c1]; exact ⟨qb_lit (x := 2 * t), qb_lit (x := t * t), qb_lit (x := 1)⟩
  · rw [if_neg c1]
    by_cases c2 : s < 8
    · rw [if_pos c2]; exact cubicM_bits (lesserM_bits h).1 (lesserM_bits h).2
    · rw [if_neg c2]; exact cubicM_bits (greaterM_bits h).1 (greaterM_bits h).2
structure CountOk (s : Int) (t : Rat) : Prop where
  mem : s ∈ counts
  tb : Qb t 8
  d : discM (countM s t) ≠ 0
  lo : s ≠ 3 → s < 8 → (lesserM s t).1 ≠ 0
  hi : ¬ s < 8 → (greaterM s t).1 ≠ 0 ∧ (s = 8 → t ≠ 0) ∧ (s = 10 → g10 t ≠ 0) ∧ (s = 12 → l12 t ≠ 0 ∧ t - 1 ≠ 0)
theorem countB_ok {s : Int} {t : Rat} (h : countB s t = true) : CountOk s t := by
  unfold countB at h
  rw [Bool.and_eq_true, Bool.and_eq_true, Bool.and_eq_true] at h
  obtain ⟨h1, h2, h3, h4⟩ := h
  refine ⟨List.contains_iff_mem.mp h1, bitB_ok h2, of_decide_eq_true h3, fun c1 c2 => ?_, fun c => ?_⟩
  · rw [if_neg c1, if_pos c2] at h4
    exact of_decide_eq_true h4
  · rw [if_neg (by omega), if_neg c, Bool.and_eq_true] at h4
    obtain ⟨h5, h6⟩ := h4
    refine ⟨of_decide_eq_true h5, fun e => ?_, fun e => ?_, fun e => ?_⟩
    · subst e
      exact of_decide_eq_true h6
    · subst e
      exact of_decide_eq_true h6
    · subst e
      have h7 : (decide (l12 t ≠ 0) && decide (t - 1 ≠ 0)) = true := h6
      rw [Bool.and_eq_true] at h7
      exact ⟨of_decide_eq_true h7.1, of_decide_eq_true h7.2⟩
section
variable {P : Program} {w : World} {K : PySem.W.Frag} {mg : Str → Option Value} {base : Heap}
/-! ### cubic_by of two numbers -/
def R_cubr (xs : List PD) (r : Rs) : Prop := ∃ p : Rat × Rat, p.1 ≠ 0 ∧ Qb p.1 300 ∧ Qb p.2 300 ∧ xs = [fD p.1, fD p.2] ∧ r = .ok (cubD (cubicM p))
theorem sc_cubr : FnScope ["b", "c", "rest", "square", "g", "h"] ["b", "c"] (defScope s_cubic_by_rings) := ⟨rfl, rfl, rfl, by decide +kernel, rfl, by decide +kernel, by decide +kernel⟩
theorem c_cubr (D : DefF P w K mg "cubic_by_rings" "cubic_by" s_cubic_by_rings) (T1 : Tab K mg "ONE" (fD 1)) (T4 : Tab K mg "FOUR" (fD 4)) (Fs : Fr P w K mg base) (C2 : Cal P w K mg base CX0 43 "quotient" ["top", "bottom"] (spD K R_fby)) : Cal P w K mg base CX0 44 "cubic_by_rings" ["b", "c"] (spD K R_cubr) := by
  refine cal_of D sc_cubr (fun xs r ⟨_, _, _, _, h, _⟩ => by rw [h]; rfl) (fun _ _ _ _ _ _ us hl => match us, hl with | [_, _], _ => rfl) fun f cdv A outer s H E xs r hr h => ?_
  obtain ⟨p, z0, h1, h2, rfl, rfl⟩ := h
  have i1 : QbI p.1 300 := ⟨h1⟩
  have i2 : QbI p.2 300 := ⟨h2⟩
  have hr2 := hr.mono (show 42 ≤ 43 by decide)
  have zz : p.1 * p.1 ≠ 0 := fun z => z0 (mulc z0 (by rw [z]; grind))
  refine ⟨.ret _, rfl, ?_⟩
  have nd := sc_cubr.nd
  refine sx_cons (s1_set (x := fD (1 - p.2)) 2 nd (ex_fI (x := 1) (y := p.2) Fs.less hr2 (ex_tab T1) (ex_var 1))) ?_
  refine sx_cons (s1_set (x := fD (p.1 * p.1)) 3 nd (ex_fI (x := p.1) (y := p.1) Fs.times hr2 (ex_var 0) (ex_var 0))) ?_
  refine sx_cons (s1_set (x := fD (-2 * (1 - p.2) / p.1)) 4 nd (ex_fI (x := -2 * (1 - p.2)) (y := p.1) C2 hr (ex_fI (x := -2) (y := 1 - p.2) Fs.times hr2 (ex_fr (x := -2) (ex_neg ex_int) ex_int) (ex_var 2)) (ex_var 0) z0)) ?_
  refine sx_cons (s1_set (x := fD (((1 - p.2) * (1 - p.2) - 4 * p.1) / (p.1 * p.1))) 5 nd (ex_fI (x := (1 - p.2) * (1 - p.2) - 4 * p.1) (y := p.1 * p.1) C2 hr (ex_fI (x := (1 - p.2) * (1 - p.2)) (y := 4 * p.1) Fs.less hr2 (ex_fI (x := 1 - p.2) (y := 1 - p.2) Fs.times hr2 (ex_var 2) (ex_var 2)) (ex_fI (x := 4) (y := p.1) Fs.times hr2 (ex_tab T4) (ex_var 0))) (ex_var 3) zz)) ?_
  exact sx_stop (s1_ret (ex_is (ex_tup (ea_cons (ex_var 4) (ea_cons (ex_var 5) (ea_cons (ex_fI (x := 4) (y := p.1 * p.1) C2 hr (ex_tab T4) (ex_var 3) zz) ea_nil)))) rfl))
/-! ### count_cubic -/
def countsD : PD := .tuple [.int 3, .int 4, .int 5, .int 6, .int 7, .int 8, .int 9, .int 10, .int 12]
def R_count (xs : List PD) (r : Rs) : Prop := ∃ (s : Int) (t : Rat), CountOk s t ∧ xs = [.int s, fD t] ∧ r = .ok (cubD (countM s t))
theorem sc_count : FnScope ["sides", "t", "found", "b", "c"] ["sides", "t"] (defScope s_count_cubic) := ⟨rfl, rfl, rfl, by decide +kernel, rfl, by decide +kernel, by decide +kernel⟩
theorem in_counts {s : Int} (h : s ∈ counts) : (!([.int 3, .int 4, .int 5, .int 6, .int 7, .int 8, .int 9, .int 10, .int 12] : List PD).any fun z => PyData.eqv z (.int s)) = false := by
  simp only [counts, List.mem_cons, List.not_mem_nil, or_false] at h
  rcases h with rfl | rfl | rfl | rfl | rfl | rfl | rfl | rfl | rfl <;> rfl
theorem c_count (D : DF P w K mg "count_cubic" s_count_cubic) (B : Bi mg) (T0 : Tab K mg "NOTHING_rings" (fD 0)) (T1 : Tab K mg "ONE" (fD 1)) (T2 : Tab K mg "TWO" (fD 2)) (TC : Tab K mg "COUNTS" countsD) (Fs : Fr P w K mg base) (C1 : Cal P w K mg base CX0 40 "is_number" ["thing"] (spD K R_is_number)) (C2 : Cal P w K mg base CX0 42 "is_fraction" ["thing"] (spD K R_is_frac))
    (C3 : Cal P w K mg base CX0 44 "lesser_two" ["sides", "t"] (spD K R_less2)) (C4 : Cal P w K mg base CX0 44 "greater_two" ["sides", "t"] (spD K R_gr2)) (C5 : Cal P w K mg base CX0 44 "cubic_by_rings" ["b", "c"] (spD K R_cubr)) (C6 : Cal P w K mg base CX0 44 "discriminant_of" ["cubic"] (spD K R_disc)) : Cal P w K mg base CX0 45 "count_cubic" ["sides", "t"] (spD K R_count) := by
  refine cal_of D sc_count (fun xs r ⟨_, _, _, h, _⟩ => by rw [h]; rfl) (fun _ _ _ _ _ _ us hl => match us, hl with | [_, _], _ => rfl) fun f cdv A outer s H E xs r hr h => ?_
  obtain ⟨sd, t, ok, rfl, rfl⟩ := h
  have nd := sc_count.nd
  have it : QbI t 8 := ⟨ok.tb⟩
  have hr2 := hr.mono (show 42 ≤ 44 by decide)
  refine ⟨.ret (cubD (countM sd t)), rfl, ?_⟩
  have fin : ∀ s3 s4, SX (cxOf CX0 P w K mg base ["sides", "t", "found", "b", "c"] "count_cubic" (defScope s_count_cubic) f cdv A outer s H E).nox (fun b => H b = none) E ((defBody s_count_cubic).drop 3) [.d (.int sd), .d (fD t), .d (cubD (countM sd t)), s3, s4] (.ret (cubD (countM sd t))) := fun s3 s4 =>
    sx_cons (s1_ifF (tx_is (tx_cmp (op_eqD (units_of hr)) (rd_eq (x := fD (discM (countM sd t))) (y := fD 0) rfl rfl) (ex_call C6 hr (ea_cons (z := false) (ex_var 2) ea_nil) ⟨_, countM_bits ok.tb, rfl, rfl⟩) (ex_tab T0)) (by rw [eqv_fD]; exact decide_eq_false ok.d)) sx_nil) (sx_stop (s1_ret (ex_var 2)))
  have hu : (A.deeper (envOfC "count_cubic" (defScope s_count_cubic) s.heap.objs.size f cdv)).units + 65 < cLine := by have := hr.un; omega
  refine sx_cons (s1_ifF (tx_w (wx_orF (tx_is (tx_not (tx_val (ex_call C1 (hr.mono (by decide)) (ea_cons (z := false) (ex_var 0) ea_nil) ⟨sd, rfl, rfl⟩))) rfl) (wx_or1 (tx_is (tx_cmp (op_notInT hu) (rd_notIn (d := .int sd) rfl rfl) (ex_var 0) (ex_tab TC) rfl) (in_counts ok.mem))))) sx_nil) ?_
  refine sx_cons (s1_ifF (tx_is (tx_not (tx_val (ex_call C2 hr2 (ea_cons (z := false) (ex_var 1) ea_nil) ⟨t, rfl, rfl⟩))) rfl) sx_nil) ?_
  by_cases c3 : sd = 3
  · subst c3
    exact sx_cons (s1_ifT (tx_is (tx_cmp op_eq rd_eqI (ex_var 0) ex_int) rfl) (sx_one (s1_set (x := cubD (countM 3 t)) 2 nd (ex_is (ex_tup (ea_cons (ex_fI (x := 2) (y := t) Fs.times hr2 (ex_tab T2) (ex_var 1)) (ea_cons (ex_fI (x := t) (y := t) Fs.times hr2 (ex_var 1) (ex_var 1)) (ea_cons (ex_tab T1) ea_nil)))) rfl)))) (fin _ _)
  · by_cases c8 : sd < 8
    · have e : countM sd t = cubicM (lesserM sd t) := by unfold countM; rw [if_neg c3, if_pos c8]
      have hs : sd = 4 ∨ sd = 5 ∨ sd = 6 ∨ sd = 7 := by
        have := ok.mem
        simp only [counts, List.mem_cons, List.not_mem_nil, or_false] at this
        omega
      refine sx_cons (s1_ifF (tx_is (tx_cmp op_eq rd_eqI (ex_var 0) ex_int) (decide_eq_false c3)) (sx_one (s1_ifT (tx_is (tx_cmp op_lt rd_B0 (ex_var 0) ex_int) (decide_eq_true c8)) (sx_cons (s1_asg (x := p2D (lesserM sd t)) (ex_call C3 hr (ea_cons (z := false) (ex_var 0) (ea_cons (ex_var 1) ea_nil)) ⟨sd, t, hs, ok.tb, rfl, rfl⟩) (gx_tup (js := [3, 4]) rfl (pns_cons 3 nd (pns_cons 4 nd pns_nil))))
        (sx_one (s1_set (x := cubD (countM sd t)) 2 nd (ex_call C5 hr (ea_cons (z := false) (ex_var 3) (ea_cons (ex_var 4) ea_nil)) ⟨lesserM sd t, ok.lo c3 c8, (lesserM_bits ok.tb).1, (lesserM_bits ok.tb).2, rfl, by rw [e]⟩))))))) (fin _ _)
    · have e : countM sd t = cubicM (greaterM sd t) := by unfold countM; rw [if_neg c3, if_neg c8]
      obtain ⟨z1, z2, z3, z4⟩ := ok.hi c8
      have hs : (sd = 8 ∧ t ≠ 0) ∨ sd = 9 ∨ (sd = 10 ∧ g10 t ≠ 0) ∨ (sd = 12 ∧ l12 t ≠ 0 ∧ t - 1 ≠ 0) := by
        have := ok.mem
        simp only [counts, List.mem_cons, List.not_mem_nil, or_false] at this
        rcases (show sd = 8 ∨ sd = 9 ∨ sd = 10 ∨ sd = 12 by omega) with e | e | e | e
        · exact .inl ⟨e, z2 e⟩
        · exact .inr (.inl e)
        · exact .inr (.inr (.inl ⟨e, z3 e⟩))
        · exact .inr (.inr (.inr ⟨e, z4 e⟩))
      refine sx_cons (s1_ifF (tx_is (tx_cmp op_eq rd_eqI (ex_var 0) ex_int) (decide_eq_false c3)) (sx_one (s1_ifF (tx_is (tx_cmp op_lt rd_B0 (ex_var 0) ex_int) (decide_eq_false c8)) (sx_cons (s1_asg (x := p2D (greaterM sd t)) (ex_call C4 hr (ea_cons (z := false) (ex_var 0) (ea_cons (ex_var 1) ea_nil)) ⟨sd, t, hs, ok.tb, rfl, rfl⟩) (gx_tup (js := [3, 4]) rfl (pns_cons 3 nd (pns_cons 4 nd pns_nil))))
        (sx_one (s1_set (x := cubD (countM sd t)) 2 nd (ex_call C5 hr (ea_cons (z := false) (ex_var 3) (ea_cons (ex_var 4) ea_nil)) ⟨greaterM sd t, z1, (greaterM_bits ok.tb).1, (greaterM_bits ok.tb).2, rfl, by rw [e]⟩))))))) (fin _ _)
end
end Rs


set_option maxRecDepth 100000
set_option maxHeartbeats 4000000
namespace Rs
open PySem PySem.Spec PyProof.Rows L2 Dl
def tAll (X : Cx) (es : List Expr) : TA := fun σ H Q => ∀ (pn : List (Addr × Obj)) (xe : Value → Shared → Prop), wpA (X.tr pn xe) es σ H Q
/-- try: n = f(..) / except X: n = None -/
theorem s1_tryCall {X : Cx} {F : Addr → Prop} {Γ Γ1 : Gm} {E : XK} {n fnn xc : Str} {e : Expr} {es : List Expr} {k : Nat} {ps : List Str} {R : List PD → Rs → Prop} {xs : List PD} {r : Rs} {y : PD} {cl : Addr} {z : Bool} {p1 p2 p3 p4 p5 p6 p7 np pos' pos : Pos} {j : Nat} (i : Nat) (hN : X.N.Nodup)
    (C : Cal X.prog X.w X.K X.mg X.base (L2.CX X.prog X.w) k fnn ps (spD X.K R)) (hr : Room k X.A) (ha : ∀ (pn : List (Addr × Obj)) (xe : Value → Shared → Prop), EA (X.tr pn xe) F z (e :: es) Γ Γ1 xs) (hR : R xs r)
    (hc : (r = .ok y ∧ NoL y = true) ∨ (∃ c, r = .err c ∧ PySem.W.exmOne X.K (.ref c) (.ref cl) = some true ∧ y = .none)) (gx : X.mg xc = some (.ref cl)) (hs : X.stack = X.env :: X.outer := by rfl) (hf : X.env.frame = some X.env.locals := by rfl) (hgx : Gl X xc := by rfl) (hdx : (xc == ("__debug__" : Str)) = false := by decide)
    (hi : X.N[i]? = some n := by rfl) (hx : Loc X.env.scope n := by first | exact .inl rfl | exact .inr rfl) (hsw : swapsWith (.Call (.Name fnn p2) (e :: es) [] p3) (some (.Name n p1)) p4.line X.env = pure false := by rfl) (hf2 : X.fn n = true ∨ X.env.scope.names.lookup n = some .local := by first | exact .inl rfl | exact .inr rfl)
    (hsw2 : swapsWith (.Constant .none j p6) (some (.Name n p5)) p7.line X.env = pure false := by rfl) (hg : Gl X fnn := by rfl) (hdb : (fnn == ("__debug__" : Str)) = false := by decide) (he : starEach (e :: es) X.env = (false, eval e X.env) :: starEach es X.env := by rfl) (hpl : (backTo p3 (starEach es X.env)).any (·.1) = false := by rfl) :
    S1 X F E (.Try [.Assign [.Name n p1] (.Call (.Name fnn p2) (e :: es) [] p3) p4] [.ExceptHandler (some (.Name xc np)) none [.Assign [.Name n p5] (.Constant .none j p6) p7] pos'] [] [] pos) Γ (.nx (Γ1.set i (.d y))) := by
  obtain ⟨f, fd, hm, hk, hb, Fn⟩ := C.ex
  have sub : Sub Γ1 Γ := (ha [] fun _ _ => True).sub
  refine s1_of (ps_try_only (Wout := fun _ _ _ _ => False) (c := .ref cl) (ts := fun _ _ _ => tAsg (L2.tC .non) (gName i)) (tb := fun W => tAsg (tCallS (spD X.K R) (WE W) (tAll X (e :: es))) (gName i)) hs hf ⟨hgx, hdx, .inl gx⟩ (fun u s' ⟨a, B, sI, pins, σ, H, cls, d, e, I, nb, up, sky, na, os, ag, w⟩ => w.elim) (fun W pn xe tk _ => ?_) (fun a oe cls d pn _ _ => ?_)) ⟨Sub.setD.trans sub, fun D H0 σ H S kk => ?_⟩
  · exact pss_one (ps_set (X := X.tr pn xe) hN hi hx (pe_callS (X := X.tr pn xe) Fn hr hg hm hk hb (fun σ => passAt tk σ) ⟨fun pos pins s σ H Q I h => h pn xe pos pins s I⟩ hdb he hpl) hsw hf2)
  · exact pss_one (ps_set (X := X.suite a ((a, oe) :: pn)) hN hi hx pe_non hsw2 hf2)
  · intro pn xe
    refine (ha pn xe).run H0 σ H S _ fun vs A0 A sa S1 hvs _ => ?_
    refine ⟨xs, r, hvs, hR, ?_⟩
    rcases hc with ⟨rfl, hn⟩ | ⟨c, rfl, hq, rfl⟩
    · refine ⟨hn, fun v A' ex hv => ?_⟩
      obtain ⟨s2, S2⟩ := thaw_step (ow := IsOwn Γ1) S1 ex
      exact kk _ _ A' (sa.trans s2 (sub_old sub)) (S2.set (thaw_dp ex hn hv))
    · intro A' ex
      refine ⟨true, hq, fun _ a _ => ?_, fun z => nomatch z⟩
      obtain ⟨s2, S2⟩ := thaw_step (ow := IsOwn Γ1) S1 ex
      exact kk _ _ A' (sa.trans s2 (sub_old sub)) (S2.set .non)

section
variable {P : Program} {w : World} {K : PySem.W.Frag} {mg : Str → Option Value} {base : Heap}
/-! ### whole_six -/
structure Six60 (a b c d e f : Rat) : Prop where
  a : Qb a 400
  b : Qb b 400
  c : Qb c 400
  d : Qb d 400
  e : Qb e 400
  f : Qb f 400
def sixD (a b c d e f : Rat) : List PD := [fD a, fD b, fD c, fD d, fD e, fD f]
def R_whole (xs : List PD) (r : Rs) : Prop := ∃ a b c d e f : Rat, Six60 a b c d e f ∧ gcdL (wholeM a b c d e f).l ≠ 0 ∧ xs = [.list (sixD a b c d e f)] ∧ r = .ok (cD (kept (wholeM a b c d e f)))
theorem sc_whole : FnScope ["fractions", "share", "top", "bottom"] ["fractions"] (defScope s_whole_six) := ⟨rfl, rfl, rfl, by decide +kernel, rfl, by decide +kernel, by decide +kernel⟩
def partF (S : Int) : PD → PD
  | .tuple [.int a, .int b] => .int (a * S.fdiv b)
  | d => d
theorem fdiv_bd {S b : Int} {n : Nat} (h : Bd S n) (hb : 0 < b) : Bd (S.fdiv b) (n + 1) := by
  rw [Int.fdiv_eq_ediv_of_nonneg _ (by omega)]
  refine Nat.lt_of_le_of_lt (Int.natAbs_ediv_le_natAbs S b) (Nat.lt_of_lt_of_le h (Nat.pow_le_pow_right (by decide) (by omega)))
theorem c_whole (D : DF P w K mg "whole_six" s_whole_six) (B : Bi mg) (ht : P.given.tree = none) (hs : seerB K = true) (C1 : Cal P w K mg base CX0 41 "kept_six" ["six"] (spD K R_kept)) : Cal P w K mg base CX0 42 "whole_six" ["fractions"] (spD K R_whole) := by
  refine cal_of D sc_whole (fun xs r ⟨_, _, _, _, _, _, _, _, h, _⟩ => by rw [h]; rfl) (fun _ _ _ _ _ _ us hl => match us, hl with | [_], _ => rfl) fun f cdv A outer s H E xs r hr h => ?_
  obtain ⟨a, b, c, d, e, g, hb, hg, rfl, rfl⟩ := h
  refine ⟨.ret _, rfl, ?_⟩
  have nd := sc_whole.nd
  refine sx_cons (s1_set 1 nd ex_int) ?_
  refine sx_forE (vs := [2, 3]) (fun Γ => ∃ s2 s3, Γ = [.d (.list (sixD a b c d e g)), .d (.int (shareM [a, b, c, d, e, g])), s2, s3]) PassesOwn.never rfl (ix_lstD (ds := sixD a b c d e g) (ex_var 0)) (pg_tup (t := gNames [2, 3]) (n := 2) rfl (pns_cons 2 nd (pns_cons 3 nd pns_nil)).h) ?_ fun Γ' hΓ => ?_
  · have st : ∀ (u : Int) (q : Rat) (n : Nat), Bd u n → n ≤ 100000 → Qb q 400 → SX (cxOf CX0 P w K mg base ["fractions", "share", "top", "bottom"] "whole_six" (defScope s_whole_six) f cdv A outer s H E).nox (fun b => H b = none) E (forBody ((defBody s_whole_six).drop 1)) [.d (.list (sixD a b c d e g)), .d (.int u), .d (.int q.num), .d (.int (q.den : Int))] (.nx [.d (.list (sixD a b c d e g)), .d (.int (u * (q.den : Int))), .d (.int q.num), .d (.int (q.den : Int))]) := fun u q n hu hn hq =>
      sx_one (s1_set 1 nd (ex_mul (ex_var 1) (ex_var 3) hu (qb_d hq) (by omega)))
    have b0 : Bd 1 1 := by show (1 : Int).natAbs < 2 ^ 1; decide
    have b1 := bd_mul2 b0 (qb_d hb.a)
    have b2 := bd_mul2 b1 (qb_d hb.b)
    have b3 := bd_mul2 b2 (qb_d hb.c)
    have b4 := bd_mul2 b3 (qb_d hb.d)
    have b5 := bd_mul2 b4 (qb_d hb.e)
    exact ⟨_, ⟨_, _, rfl⟩, .next (eg_tup (js := [2, 3]) rfl) (sub_sets [2, 3] _ _) (st 1 a _ b0 (by decide) hb.a) (.next (eg_tup (js := [2, 3]) rfl) (sub_sets [2, 3] _ _) (st _ b _ b1 (by decide) hb.b) (.next (eg_tup (js := [2, 3]) rfl) (sub_sets [2, 3] _ _) (st _ c _ b2 (by decide) hb.c)
      (.next (eg_tup (js := [2, 3]) rfl) (sub_sets [2, 3] _ _) (st _ d _ b3 (by decide) hb.d) (.next (eg_tup (js := [2, 3]) rfl) (sub_sets [2, 3] _ _) (st _ e _ b4 (by decide) hb.e) (.next (eg_tup (js := [2, 3]) rfl) (sub_sets [2, 3] _ _) (st _ g _ b5 (by decide) hb.f) .nil)))))⟩
  · obtain ⟨s2, s3, rfl⟩ := hΓ
    have bS : Bd (shareM [a, b, c, d, e, g]) 2401 := bd_mono (bd_mul2 (bd_mul2 (bd_mul2 (bd_mul2 (bd_mul2 (bd_mul2 (show Bd 1 1 by show (1 : Int).natAbs < 2 ^ 1; decide) (qb_d hb.a)) (qb_d hb.b)) (qb_d hb.c)) (qb_d hb.d)) (qb_d hb.e)) (qb_d hb.f)) (by decide)
    refine sx_stop (s1_ret (ex_call C1 (hr.mono (by decide)) (ea_cons (z := false) (x := cD (wholeM a b c d e g)) (ex_tuple B.tuple (el_lc (own := [("top", 2), ("bottom", 3)]) (g := gTup K 2 (gNames [2, 3])) rfl nd (ix_lstD (ds := sixD a b c d e g) (ex_var 0)) (blkOk_by (N := ["fractions", "share", "top", "bottom"]) (sc := defScope s_whole_six) (by decide +kernel))
        (fun _ _ _ _ _ => pg_tup (t := gNames [2, 3]) (n := 2) rfl (pns_cons 2 nd (pns_cons 3 nd pns_nil)).h) (lcx_map1 (partF (shareM [a, b, c, d, e, g])) rfl rfl _ _ fun x hx => ?_))) ea_nil) ⟨_, hg, rfl, rfl⟩))
    have : ∃ q : Rat, x = fD q ∧ Qb q 400 := by
      simp only [List.mem_cons, List.not_mem_nil, or_false] at hx
      rcases hx with rfl | rfl | rfl | rfl | rfl | rfl
      · exact ⟨_, rfl, hb.a⟩
      · exact ⟨_, rfl, hb.b⟩
      · exact ⟨_, rfl, hb.c⟩
      · exact ⟨_, rfl, hb.d⟩
      · exact ⟨_, rfl, hb.e⟩
      · exact ⟨_, rfl, hb.f⟩
    obtain ⟨q, rfl, hq⟩ := this
    have dp : (0 : Int) < (q.den : Int) := by have := q.den_pos; omega
    exact ⟨_, eg_tup (js := [2, 3]) rfl, sub_sets [2, 3] _ _, ev_U Sub.refl fun s' H' C cl fp => ex_mul (ex_var 2) (ex_fdivP ⟨ht, depth_of hr (by decide), hs, ⟨_, _, rfl, rfl, rfl, rfl, rfl⟩⟩ (ex_var 1) (ex_var 3) (by omega)) (qb_n hq) (fdiv_bd bS dp) (by decide), rfl⟩
end
end Rs


set_option maxRecDepth 100000
set_option maxHeartbeats 4000000
namespace Rs
open PySem PySem.Spec PyProof.Rows L2 Dl
structure CurvesOk (c : Cub) : Prop where
  g : Qb c.g 60
  h : Qb c.h 60
  k : Qb c.k 60
  k0 : c.k ≠ 0
  d : discM c ≠ 0
  w : c.k - c.g * c.h ≠ 0 → gcdL (outX c).l ≠ 0 ∧ (outR c).det ≠ 0
theorem curvesB_ok {c : Cub} (h : curvesB c = true) : CurvesOk c := by
  unfold curvesB cub20 at h
  simp only [Bool.and_eq_true, Bool.or_eq_true] at h
  obtain ⟨⟨h1, h2, h3⟩, h4, h5, h6⟩ := h
  refine ⟨bitB_ok h1, bitB_ok h2, bitB_ok h3, of_decide_eq_true h4, of_decide_eq_true h5, fun z => ?_⟩
  rcases h6 with h6 | ⟨h6, h7⟩
  · exact absurd (of_decide_eq_true h6) z
  · exact ⟨of_decide_eq_true h6, of_decide_eq_true h7⟩
theorem CurvesOk.c60 {c : Cub} (h : CurvesOk c) : Cub60 c := ⟨h.g.mono (by decide), h.h.mono (by decide), h.k.mono (by decide)⟩
theorem CurvesOk.six {c : Cub} (h : CurvesOk c) : Six60 (-1 * (c.h / (c.k - c.g * c.h))) c.g (c.k - c.g * c.h) 0 0 2 := by
  have i1 : QbI c.g 60 := ⟨h.g⟩
  have i2 : QbI c.h 60 := ⟨h.h⟩
  have i3 : QbI c.k 60 := ⟨h.k⟩
  exact ⟨qb_lit (x := -1 * (c.h / (c.k - c.g * c.h))), qb_lit (x := c.g), qb_lit (x := c.k - c.g * c.h), qb_lit (x := 0), qb_lit (x := 0), qb_lit (x := 2)⟩
theorem whole_bits {a b c d e f : Rat} (hb : Six60 a b c d e f) : Cb (wholeM a b c d e f) 3000 := by
  have bS : Bd (shareM [a, b, c, d, e, f]) 2401 := bd_mono (bd_mul2 (bd_mul2 (bd_mul2 (bd_mul2 (bd_mul2 (bd_mul2 (show Bd 1 1 by show (1 : Int).natAbs < 2 ^ 1; decide) (qb_d hb.a)) (qb_d hb.b)) (qb_d hb.c)) (qb_d hb.d)) (qb_d hb.e)) (qb_d hb.f)) (by decide)
  have g : ∀ {q : Rat}, Qb q 400 → (q.num * (shareM [a, b, c, d, e, f]).fdiv q.den).natAbs ≤ 2 ^ 3000 := fun {q} hq => by
    have dp : (0 : Int) < (q.den : Int) := by have := q.den_pos; omega
    exact Nat.le_of_lt (bd_mono (bd_mul2 (qb_n hq) (fdiv_bd bS dp)) (by decide))
  exact cb_iff.mpr ⟨g hb.a, g hb.b, g hb.c, g hb.d, g hb.e, g hb.f⟩
section
variable {P : Program} {w : World} {K : PySem.W.Frag} {mg : Str → Option Value} {base : Heap}
/-! ### cubic_curves -/
def R_curves (C : Addr) (xs : List PD) (r : Rs) : Prop := ∃ c : Cub, CurvesOk c ∧ xs = [cubD c] ∧ r = (match curvesM c with | some o => Rs.ok (.tuple [cD o, cD innR]) | none => .err C)
theorem sc_curves : FnScope ["cubic", "g", "h", "k", "e", "a", "outer"] ["cubic"] (defScope s_cubic_curves) := ⟨rfl, rfl, rfl, by decide +kernel, rfl, by decide +kernel, by decide +kernel⟩
theorem c_curves {C : Addr} (D : DF P w K mg "cubic_curves" s_cubic_curves) (XC : ExK K mg "NoPair" C) (T0 : Tab K mg "NOTHING_rings" (fD 0)) (T2 : Tab K mg "TWO" (fD 2)) (Fs : Fr P w K mg base) (C1 : Cal P w K mg base CX0 45 "look_at_cubic" ["cubic"] (spD K R_lookc)) (C2 : Cal P w K mg base CX0 42 "whole_six" ["fractions"] (spD K R_whole)) (C5 : Cal P w K mg base CX0 40 "determinant_of" ["six"] (spD K R_det)) :
    Cal P w K mg base (L2.CX P w) 46 "cubic_curves" ["cubic"] (spD K (R_curves C)) := by
  refine cal_ofX D sc_curves (fun xs r ⟨_, _, h, _⟩ => by rw [h]; rfl) (fun _ _ _ _ _ _ us hl => match us, hl with | [_], _ => rfl) fun f cdv A outer s H E xs r hr h => ?_
  obtain ⟨c, ok, rfl, rfl⟩ := h
  have nd := sc_curves.nd
  have i1 : QbI c.g 60 := ⟨ok.g⟩
  have i2 : QbI c.h 60 := ⟨ok.h⟩
  have i3 : QbI c.k 60 := ⟨ok.k⟩
  have hr2 := hr.mono (show 42 ≤ 45 by decide)
  have step : ∀ out, SX (cxOf (L2.CX P w) P w K mg base ["cubic", "g", "h", "k", "e", "a", "outer"] "cubic_curves" (defScope s_cubic_curves) f cdv A outer s H E) (fun b => H b = none) E ((defBody s_cubic_curves).drop 3) [.d (cubD c), .d (fD c.g), .d (fD c.h), .d (fD c.k), .d (fD (c.k - c.g * c.h)), .no, .no] out → SX (cxOf (L2.CX P w) P w K mg base ["cubic", "g", "h", "k", "e", "a", "outer"] "cubic_curves" (defScope s_cubic_curves) f cdv A outer s H E) (fun b => H b = none) E (defBody s_cubic_curves) [.d (cubD c), .no, .no, .no, .no, .no, .no] out := by
    intro out h
    refine sx_cons (s1_expr (ex_call C1 hr (ea_cons (z := false) (ex_var 0) ea_nil) ⟨c, ok.c60, ok.k0, ok.d, rfl, rfl⟩)) ?_
    refine sx_cons (s1_asg (ex_var 0) (gx_tup (js := [1, 2, 3]) rfl (pns_cons 1 nd (pns_cons 2 nd (pns_cons 3 nd pns_nil))))) ?_
    exact sx_cons (s1_set (x := fD (c.k - c.g * c.h)) 4 nd (ex_fI (x := c.k) (y := c.g * c.h) Fs.less hr2 (ex_var 3) (ex_fI (x := c.g) (y := c.h) Fs.times hr2 (ex_var 1) (ex_var 2)))) h
  unfold curvesM
  by_cases z : c.k - c.g * c.h = 0
  · refine ⟨.ex C, by rw [if_pos z]; rfl, step _ (sx_stop (s1_ifT (tx_is (tx_cmp (op_eqD (units_of hr)) (rd_eq (x := fD (c.k - c.g * c.h)) (y := fD 0) rfl rfl) (ex_var 4) (ex_tab T0)) (by rw [eqv_fD]; exact decide_eq_true z)) (sx_stop (s1_rais rfl (takes_of rfl rfl rfl rfl) XC))))⟩
  · obtain ⟨hg, hd⟩ := ok.w z
    have cb : CB (outR c) := cb_mono (kept_bits (whole_bits ok.six)) (by decide)
    refine ⟨.ret (.tuple [cD (outR c), cD innR]), by rw [if_neg z]; rfl, step _ (sx_cons (s1_ifF (tx_is (tx_cmp (op_eqD (units_of hr)) (rd_eq (x := fD (c.k - c.g * c.h)) (y := fD 0) rfl rfl) (ex_var 4) (ex_tab T0)) (by rw [eqv_fD]; exact decide_eq_false z)) sx_nil) ?_)⟩
    refine sx_cons (s1_set (x := fD (-1 * (c.h / (c.k - c.g * c.h)))) 5 nd (ex_fI (x := -1) (y := c.h / (c.k - c.g * c.h)) Fs.times hr2 (ex_fr (x := -1) (ex_neg ex_int) ex_int) (ex_fI (x := c.h) (y := c.k - c.g * c.h) Fs.by_ hr2 (ex_var 2) (ex_var 4) z))) ?_
    refine sx_cons (s1_set (x := cD (outR c)) 6 nd (ex_call C2 hr2 (ea_consL (el_lst (xs := sixD (-1 * (c.h / (c.k - c.g * c.h))) c.g (c.k - c.g * c.h) 0 0 2) (ea_cons (ex_var 5) (ea_cons (ex_var 1) (ea_cons (ex_var 4) (ea_cons (ex_tab T0) (ea_cons (ex_tab T0) (ea_cons (ex_tab T2) ea_nil))))))) ea_nil) ⟨_, _, _, _, _, _, ok.six, hg, rfl, rfl⟩)) ?_
    refine sx_cons (s1_ifF (tx_is (tx_cmp op_eq rd_eqI (ex_call C5 (hr.mono (by decide)) (ea_cons (z := false) (ex_var 6) ea_nil) ⟨_, cb, rfl, rfl⟩) ex_int) (decide_eq_false hd)) sx_nil) ?_
    exact sx_stop (s1_ret (ex_is (ex_tup (ea_cons (ex_var 6) (ea_cons (ex_tup (ea_cons ex_int (ea_cons ex_int (ea_cons ex_int (ea_cons ex_int (ea_cons ex_int (ea_cons ex_int ea_nil))))))) ea_nil))) rfl))
end
end Rs


set_option maxRecDepth 100000
set_option maxHeartbeats 4000000
namespace Rs
open PySem PySem.Spec PyProof.Rows L2 Dl
theorem map_getD {α : Type} (f : α → PD) (d : α) : ∀ (l : List α) (i : Nat), i < l.length → (l.map f)[i]? = some (f (l.getD i d))
  | [], i, h => absurd h (Nat.not_lt_zero _)
  | a :: l, 0, _ => rfl
  | a :: l, i + 1, h => by
    have := map_getD f d l i (Nat.lt_of_succ_lt_succ h)
    simpa using this
def c6O : Option C6 → PD
  | some x => cD x
  | none => .none
theorem nol_c6O : ∀ x, NoL (c6O x) = true
  | some _ => rfl
  | none => rfl
def pairO : Option C6 → PD
  | some o => .tuple [cD o, cD innR]
  | none => .none
section
variable {P : Program} {w : World} {K : PySem.W.Frag} {mg : Str → Option Value} {base : Heap}
/-! ### _law_chord -/
def R_lchord (xs : List PD) (r : Rs) : Prop := ∃ (o i : C6) (n : Nat), 1 ≤ n ∧ n ≤ 12 ∧ ChB o i n ∧ xs = [cD o, cD i, .int (n : Int)] ∧ r = .ok (c6O (chordM o i n))
theorem sc_lchord : FnScope ["_law_outer", "_law_inner", "_law_steps", "_law_found"] ["_law_outer", "_law_inner", "_law_steps"] (defScope s__law_chord) := ⟨rfl, rfl, rfl, by decide +kernel, rfl, by decide +kernel, by decide +kernel⟩
theorem c_lchord {C : Addr} (D : DF P w K mg "_law_chord" s__law_chord) (XC : ExK K mg "NoChord" C) (hx : PySem.W.exmOne K (.ref C) (.ref C) = some true) (C1 : Cal P w K mg base (L2.CX P w) 46 "chord_curve" ["outer", "inner", "steps"] (spD K (R_chord C))) :
    Cal P w K mg base CX0 47 "_law_chord" ["_law_outer", "_law_inner", "_law_steps"] (spD K R_lchord) := by
  refine cal_of D sc_lchord (fun xs r ⟨_, _, _, _, _, _, h, _⟩ => by rw [h]; rfl) (fun _ _ _ _ _ _ us hl => match us, hl with | [_, _, _], _ => rfl) fun f cdv A outer s H E xs r hr h => ?_
  obtain ⟨o, i, n, h1, h2, hb, rfl, rfl⟩ := h
  have nd := sc_lchord.nd
  refine ⟨.ret _, rfl, ?_⟩
  refine sx_cons (s1_set 3 nd ex_non) ?_
  refine sx_cons (s1_tryCall (cl := C) (y := c6O (chordM o i n)) 3 nd C1 hr (fun pn xe => ea_cons (z := false) (ex_var 0) (ea_cons (ex_var 1) (ea_cons (ex_var 2) ea_nil))) ⟨o, i, n, h1, h2, hb, rfl, rfl⟩ ?_ XC.g) ?_
  · cases chordM o i n with
    | none => exact .inr ⟨C, rfl, hx, rfl⟩
    | some F => exact .inl ⟨rfl, rfl⟩
  · exact sx_stop (s1_ret (ex_var 3))
/-! ### _law_ring -/
theorem fr13 : PyData.tuple [.int 1, .int 3] = fD ((1 : Rat) / 3) := by
  have e1 : ((1 : Rat) / 3).num = 1 := by decide +kernel
  have e2 : ((1 : Rat) / 3).den = 3 := by decide +kernel
  unfold fD
  rw [e1, e2]
  rfl
theorem fr12 : PyData.tuple [.int (-1), .int 2] = fD (-(1 : Rat) / 2) := by
  have e1 : (-(1 : Rat) / 2).num = -1 := by decide +kernel
  have e2 : (-(1 : Rat) / 2).den = 2 := by decide +kernel
  unfold fD
  rw [e1, e2]
  rfl
def R_ring (xs : List PD) (r : Rs) : Prop := ∃ n : Int, xs = [.int n] ∧ r = .ok (pairO (ringM n))
theorem sc_ring : FnScope ["_law_cell_here", "_law_curves_here", "_law_sides", "_law_t"] ["_law_cell_here"] (defScope s__law_ring) := ⟨rfl, rfl, rfl, by decide +kernel, rfl, by decide +kernel, by decide +kernel⟩
theorem c_ring {C C0 : Addr} (D : DF P w K mg "_law_ring" s__law_ring) (XC : ExK K mg "NoPair" C) (X0 : mg "RoundError" = some (.ref C0)) (hx : PySem.W.exmOne K (.ref C) (.ref C0) = some true) (C1 : Cal P w K mg base (L2.CX P w) 46 "cubic_curves" ["cubic"] (spD K (R_curves C))) (C2 : Cal P w K mg base CX0 45 "count_cubic" ["sides", "t"] (spD K R_count)) :
    Cal P w K mg base CX0 47 "_law_ring" ["_law_cell_here"] (spD K R_ring) := by
  refine cal_of D sc_ring (fun xs r ⟨_, h, _⟩ => by rw [h]; rfl) (fun _ _ _ _ _ _ us hl => match us, hl with | [_], _ => rfl) fun f cdv A outer s H E xs r hr h => ?_
  obtain ⟨n, rfl, rfl⟩ := h
  have nd := sc_ring.nd
  refine ⟨.ret (pairO (ringM n)), rfl, ?_⟩
  have ok := ok_ring n
  have okb : countB (ringS n) (ringT n) = true ∧ curvesB (countM (ringS n) (ringT n)) = true := by
    unfold okB at ok
    simp only [Bool.and_eq_true] at ok
    exact ⟨ok.1, ok.2.1⟩
  have fin : ∀ s1, SX (cxOf CX0 P w K mg base ["_law_cell_here", "_law_curves_here", "_law_sides", "_law_t"] "_law_ring" (defScope s__law_ring) f cdv A outer s H E).nox (fun b => H b = none) E ((defBody s__law_ring).drop 4) [.d (.int n), s1, .d (.int (ringS n)), .d (fD (ringT n))] (.ret (pairO (ringM n))) := fun s1 => by
    refine sx_cons (s1_tryCall (cl := C0) (y := pairO (ringM n)) 1 nd C1 hr (fun pn xe => ea_cons (z := false) (ex_call C2 (hr.mono (by decide)) (ea_cons (z := false) (ex_var 2) (ea_cons (ex_var 3) ea_nil)) ⟨ringS n, ringT n, countB_ok okb.1, rfl, rfl⟩) ea_nil) ⟨_, curvesB_ok okb.2, rfl, rfl⟩ ?_ X0) (sx_stop (s1_ret (ex_var 1)))
    unfold ringM
    cases curvesM (countM (ringS n) (ringT n)) with
    | none => exact .inr ⟨C, rfl, hx, rfl⟩
    | some F => exact .inl ⟨rfl, rfl⟩
  refine sx_cons (s1_set 1 nd ex_non) ?_
  refine sx_cons (s1_set (x := .int (ringS n)) 2 nd (ex_ixN (i := n % 9) (el_lst (xs := counts.map PyData.int) (ea_cons ex_int (ea_cons ex_int (ea_cons ex_int (ea_cons ex_int (ea_cons ex_int (ea_cons ex_int (ea_cons ex_int (ea_cons ex_int (ea_cons ex_int ea_nil)))))))))) (ex_mod (ex_var 0) ex_int (by decide)) (map_getD _ 0 counts _ (by show (n % 9).toNat < 9; omega)) (by omega))) ?_
  refine sx_cons (s1_set (x := fD (([2, 3, -2, (1 : Rat) / 3, -(1 : Rat) / 2, 4] : List Rat).getD (n / 9 % 6).toNat 0)) 3 nd (ex_ixN (i := n / 9 % 6) (el_lst (xs := ([2, 3, -2, (1 : Rat) / 3, -(1 : Rat) / 2, 4] : List Rat).map fD) (ea_cons (ex_fr (x := 2) ex_int ex_int) (ea_cons (ex_fr (x := 3) ex_int ex_int) (ea_cons (ex_fr (x := -2) (ex_neg ex_int) ex_int)
    (ea_cons (ex_fr (x := (1 : Rat) / 3) ex_int ex_int fr13) (ea_cons (ex_fr (x := -(1 : Rat) / 2) (ex_neg ex_int) ex_int fr12) (ea_cons (ex_fr (x := 4) ex_int ex_int) ea_nil))))))) (ex_mod (ex_fdiv (ex_var 0) ex_int ⟨by decide, by decide⟩) ex_int (by decide)) (map_getD fD 0 _ _ (by show (n / 9 % 6).toNat < 6; omega)) (by omega))) ?_
  by_cases c : ringS n > 8
  · refine sx_cons (s1_ifT (tx_is (tx_cmp op_gt rd_B0 (ex_var 2) ex_int) (decide_eq_true c)) (sx_one (s1_set (x := fD (ringT n)) 3 nd (ex_is (ex_ixN (x := fD (([2, 3, -2] : List Rat).getD (n / 9 % 3).toNat 0)) (i := n / 9 % 3) (el_lst (xs := ([2, 3, -2] : List Rat).map fD) (ea_cons (ex_fr (x := 2) ex_int ex_int) (ea_cons (ex_fr (x := 3) ex_int ex_int) (ea_cons (ex_fr (x := -2) (ex_neg ex_int) ex_int) ea_nil)))) (ex_mod (ex_fdiv (ex_var 0) ex_int ⟨by decide, by decide⟩) ex_int (by decide)) (map_getD fD 0 _ _ (by show (n / 9 % 3).toNat < 3; omega)) (by omega)) ?_)))) (fin _)
    unfold ringT
    rw [if_pos c]
  · have e : ringT n = ([2, 3, -2, (1 : Rat) / 3, -(1 : Rat) / 2, 4] : List Rat).getD (n / 9 % 6).toNat 0 := by unfold ringT; rw [if_neg c]
    refine sx_cons (s1_ifF (tx_is (tx_cmp op_gt rd_B0 (ex_var 2) ex_int) (decide_eq_false c)) sx_nil) ?_
    rw [← e]
    exact fin _
end
end Rs


set_option maxRecDepth 100000
set_option maxHeartbeats 4000000
namespace Rs
open PySem PySem.Spec PyProof.Rows L2 Dl
/-! ### numbers of a cell -/
def mix0 (c k : Int) : Int := (c % 2147483629 * 48271 + k * 69621 + 11) % 2147483629
def mixS (p : Int × Int) (j : Nat) : Int × Int := ((p.1 * p.1 + 69621 * (j : Int) + 7) % 2147483587, p.2 * 2147483563 + (p.1 * p.1 + 69621 * (j : Int) + 7) % 2147483587 * ((p.1 * p.1 + 69621 * (j : Int) + 7) % 2147483587) % 2147483563)
def mixN (c k : Int) : Nat → Int × Int
  | 0 => (mix0 c k, 0)
  | j + 1 => mixS (mixN c k j) j
def cellX (c k : Int) : Int := if c ≥ 10 ^ 18 then (c - 10 ^ 18) % 10 ^ 60 else (mixN c k 8).2
def cellM (ns : List Int) (k : Nat) : Int := cellX (ns.getD k 0) k
theorem bd_mod {i m : Int} {n : Nat} (h : 0 < m) (hm : m.natAbs ≤ 2 ^ n) : Bd (i % m) n := by
  have h1 := Int.emod_nonneg i (Int.ne_of_gt h)
  have h2 := Int.emod_lt_of_pos i h
  show (i % m).natAbs < 2 ^ n
  omega
theorem mix_b (c k : Int) : ∀ j : Nat, Bd (mixN c k j).1 31 ∧ Bd (mixN c k j).2 (32 * j + 1)
  | 0 => ⟨bd_mod (by decide) (by decide), show (0 : Int).natAbs < 2 ^ (32 * 0 + 1) by decide⟩
  | j + 1 => by
    have ih := (mix_b c k j).2
    refine ⟨bd_mod (by decide) (by decide), ?_⟩
    have a := bd_mul2 ih (show Bd 2147483563 31 by show (2147483563 : Int).natAbs < 2 ^ 31; decide)
    have b := bd_mod (i := ((mixN c k j).1 * (mixN c k j).1 + 69621 * (j : Int) + 7) % 2147483587 * (((mixN c k j).1 * (mixN c k j).1 + 69621 * (j : Int) + 7) % 2147483587)) (m := 2147483563) (n := 31) (by decide) (by decide)
    exact bd_mono (bd_add2 a b (absa _ _)) (by omega)
theorem forx_rngP {K : PySem.W.Frag} {F : Addr → Prop} {E : XK} {g : TG} {vs : List Nat} {tb : TS} {Pq : Gm → Prop} {Γ : Gm} {n : Nat} (T : Nat → Gm → Prop) (h0 : T 0 Γ) (st : ∀ (j : Nat) (Γ : Gm), j < n → T j Γ → ∃ Γt Γ1, EvG K F g vs (.int (j : Int)) Γ Γt ∧ Sub Γt Γ ∧ SR K F E tb Γt (.nx Γ1) ∧ T (j + 1) Γ1) (he : ∀ Γ', T n Γ' → Pq Γ') :
    ∃ Γ', Pq Γ' ∧ ForX K F E g vs tb Γ ((List.range n).map fun (i : Nat) => PyData.int (i : Int)) (.nx Γ') := by
  have go : ∀ (m j : Nat) (Γ : Gm), j + m = n → T j Γ → ∃ Γ', T n Γ' ∧ ForX K F E g vs tb Γ ((List.range' j m).map fun (i : Nat) => PyData.int (i : Int)) (.nx Γ') := by
    intro m
    induction m with
    | zero => exact fun j Γ e h => ⟨Γ, by have : j = n := by omega
                                          rw [← this]; exact h, .nil⟩
    | succ m ih =>
      intro j Γ e h
      obtain ⟨Γt, Γ1, h1, h2, h3, h4⟩ := st j Γ (by omega) h
      obtain ⟨Γ', h5, h6⟩ := ih (j + 1) Γ1 (by omega) h4
      refine ⟨Γ', h5, ?_⟩
      rw [List.range'_succ, List.map_cons]
      exact .next h1 h2 h3 h6
  obtain ⟨Γ', h5, h6⟩ := go n 0 Γ (by omega) h0
  refine ⟨Γ', he Γ' h5, ?_⟩
  rw [List.range_eq_range']
  exact h6
theorem fmod_gcd (a b : Int) : Nat.gcd b.natAbs (a.fmod b).natAbs = Nat.gcd a.natAbs b.natAbs := by
  have e : a.fmod b = a - b * a.fdiv b := by have := Int.fmod_add_mul_fdiv a b; omega
  apply Nat.dvd_antisymm
  · have d1 : ((Nat.gcd b.natAbs (a.fmod b).natAbs : Nat) : Int) ∣ b := Int.ofNat_dvd_left.mpr (Nat.gcd_dvd_left _ _)
    have d2 : ((Nat.gcd b.natAbs (a.fmod b).natAbs : Nat) : Int) ∣ a.fmod b := Int.ofNat_dvd_left.mpr (Nat.gcd_dvd_right _ _)
    have d3 : ((Nat.gcd b.natAbs (a.fmod b).natAbs : Nat) : Int) ∣ a := by
      have e2 : a.fmod b + b * a.fdiv b = a := by omega
      have d4 := Int.dvd_add d2 (Int.dvd_mul_of_dvd_left (c := a.fdiv b) d1)
      rw [e2] at d4
      exact d4
    exact Nat.dvd_gcd (Int.ofNat_dvd_left.mp d3) (Int.ofNat_dvd_left.mp d1)
  · have d1 : ((Nat.gcd a.natAbs b.natAbs : Nat) : Int) ∣ b := Int.ofNat_dvd_left.mpr (Nat.gcd_dvd_right _ _)
    have d2 : ((Nat.gcd a.natAbs b.natAbs : Nat) : Int) ∣ a := Int.ofNat_dvd_left.mpr (Nat.gcd_dvd_left _ _)
    have d3 : ((Nat.gcd a.natAbs b.natAbs : Nat) : Int) ∣ a.fmod b := by
      rw [e]
      exact Int.dvd_sub d2 (Int.dvd_mul_of_dvd_left d1)
    exact Nat.dvd_gcd (Int.ofNat_dvd_left.mp d1) (Int.ofNat_dvd_left.mp d3)
theorem fmod_lt (a : Int) {b : Int} (h : b ≠ 0) : (a.fmod b).natAbs < b.natAbs := by
  have h1 := Int.emod_nonneg a h
  have h2 := Int.emod_lt a h
  rw [Int.fmod_eq_emod]
  by_cases c : 0 ≤ b ∨ b ∣ a
  · rw [if_pos c]; omega
  · rw [if_neg c]
    have : a % b ≠ 0 := fun z => c (.inr (Int.dvd_of_emod_eq_zero z))
    omega
theorem while_gcdS {K : PySem.W.Frag} {F : Addr → Prop} {E : XK} {tc : TT} {tb : TS} (test : ∀ a b : Int, EvT K F tc [.d (.int a), .d (.int b)] [.d (.int a), .d (.int b)] (!decide (b = 0)))
    (step : ∀ a b : Int, b ≠ 0 → SR K F E tb [.d (.int a), .d (.int b)] (.nx [.d (.int b), .d (.int (a.fmod b))])) : ∀ (m : Nat) (a b : Int), b.natAbs ≤ m → ∃ n a', WhlX K F E tc tb n [.d (.int a), .d (.int b)] (.nx [.d (.int a'), .d (.int 0)]) ∧ a'.natAbs = Nat.gcd a.natAbs b.natAbs := by
  intro m
  induction m with
  | zero =>
    intro a b hb
    have : b = 0 := by omega
    subst this
    exact ⟨0, a, .done (test a 0), by simp⟩
  | succ m ih =>
    intro a b hb
    have t := test a b
    by_cases z : b = 0
    · subst z
      exact ⟨0, a, .done t, by simp⟩
    · have lt := fmod_lt a z
      rw [decide_eq_false z] at t
      obtain ⟨n, a', h1, h2⟩ := ih b (a.fmod b) (by omega)
      refine ⟨n + 1, a', .step t (step a b z) h1, ?_⟩
      rw [h2, fmod_gcd]
theorem while_gcdP {K : PySem.W.Frag} {F : Addr → Prop} {E : XK} {tc : TT} {tb : TS} {a b : Int} {Pq : Gm → Prop} (he : ∀ a' : Int, a'.natAbs = Nat.gcd a.natAbs b.natAbs → Pq [.d (.int a'), .d (.int 0)]) (test : ∀ a b : Int, EvT K F tc [.d (.int a), .d (.int b)] [.d (.int a), .d (.int b)] (!decide (b = 0)))
    (step : ∀ a b : Int, b ≠ 0 → SR K F E tb [.d (.int a), .d (.int b)] (.nx [.d (.int b), .d (.int (a.fmod b))])) : ∃ Γ', Pq Γ' ∧ ∃ n, WhlX K F E tc tb n [.d (.int a), .d (.int b)] (.nx Γ') := by
  obtain ⟨n, a', h1, h2⟩ := while_gcdS test step b.natAbs a b (Nat.le_refl _)
  exact ⟨_, he a' h2, n, h1⟩
theorem sx_whileE {X : Cx} {F : Addr → Prop} {E : XK} {Γ : Gm} {c : Expr} {pos : Pos} {body rest : List Stmt} {o : Out} (Pq : Gm → Prop) (hp : PassesOwn (model X.prog X.w) X.A X.env X.xe) (h : ∃ Γ', Pq Γ' ∧ ∃ n, WhlX X.K F E (wpT X c) (wpS X body) n Γ (.nx Γ')) (h2 : ∀ Γ', Pq Γ' → SX X F E rest Γ' o) : SX X F E (.While c body [] pos :: rest) Γ o := by
  obtain ⟨Γ', p, n, f⟩ := h
  exact sx_cons (s1_while hp f) (h2 Γ' p)
section
variable {P : Program} {w : World} {K : PySem.W.Frag} {mg : Str → Option Value} {base : Heap}
/-! ### _law_cell -/
def R_cell (xs : List PD) (r : Rs) : Prop := ∃ (ns : List Int) (k : Nat), k ≤ 1 ∧ xs = [.list (ns.map PyData.int), .int (k : Int)] ∧ r = .ok (.int (cellM ns k))
theorem sc_cell : FnScope ["_law_script", "_law_k", "_law_cell_here", "_law_number", "_law_found", "_law_turn"] ["_law_script", "_law_k"] (defScope s__law_cell) := ⟨rfl, rfl, rfl, by decide +kernel, rfl, by decide +kernel, by decide +kernel⟩
theorem c_cell (D : DF P w K mg "_law_cell" s__law_cell) (B : Bi mg) : Cal P w K mg base CX0 40 "_law_cell" ["_law_script", "_law_k"] (spD K R_cell) := by
  refine cal_of D sc_cell (fun xs r ⟨_, _, _, h, _⟩ => by rw [h]; rfl) (fun _ _ _ _ _ _ us hl => match us, hl with | [_, _], _ => rfl) fun f cdv A outer s H E xs r hr h => ?_
  obtain ⟨ns, k, hk, rfl, rfl⟩ := h
  have nd := sc_cell.nd
  refine ⟨.ret (.int (cellM ns k)), rfl, ?_⟩
  have fin : SX (cxOf CX0 P w K mg base ["_law_script", "_law_k", "_law_cell_here", "_law_number", "_law_found", "_law_turn"] "_law_cell" (defScope s__law_cell) f cdv A outer s H E).nox (fun b => H b = none) E ((defBody s__law_cell).drop 2) [.d (.list (ns.map PyData.int)), .d (.int (k : Int)), .d (.int (ns.getD k 0)), .no, .no, .no] (.ret (.int (cellM ns k))) := by
    unfold cellM cellX
    generalize ns.getD k 0 = c
    by_cases h18 : c ≥ 10 ^ 18
    · rw [if_pos h18]
      exact sx_stop (s1_ifT (tx_is (tx_cmp op_ge rd_B0 (ex_var 2) (ex_pow ex_int ex_int ⟨by decide, by decide, by decide⟩)) (decide_eq_true h18)) (sx_stop (s1_ret (ex_is (ex_mod (ex_sub (ex_var 2) (ex_pow ex_int ex_int ⟨by decide, by decide, by decide⟩)) (ex_pow ex_int ex_int ⟨by decide, by decide, by decide⟩) (by decide)) rfl))))
    · rw [if_neg h18]
      refine sx_cons (s1_ifF (tx_is (tx_cmp op_ge rd_B0 (ex_var 2) (ex_pow ex_int ex_int ⟨by decide, by decide, by decide⟩)) (decide_eq_false h18)) sx_nil) ?_
      refine sx_cons (s1_set (x := .int (mix0 c k)) 3 nd (ex_mod (ex_add (ex_add (ex_mul (n := 31) (m := 16) (ex_mod (ex_var 2) ex_int (by decide)) ex_int (bd_mod (by decide) (by decide)) (show (48271 : Int).natAbs < 2 ^ 16 by decide) (by decide)) (ex_mul (n := 1) (m := 17) (ex_var 1) ex_int (show (k : Int).natAbs < 2 ^ 1 by omega) (show (69621 : Int).natAbs < 2 ^ 17 by decide) (by decide))) ex_int) ex_int (by decide))) ?_
      refine sx_cons (s1_set 4 nd ex_int) ?_
      refine sx_forE (vs := [5]) (fun Γ => ∃ s5, Γ = [.d (.list (ns.map PyData.int)), .d (.int (k : Int)), .d (.int c), .d (.int (mixN c k 8).1), .d (.int (mixN c k 8).2), s5]) PassesOwn.never rfl (ix_rng1 (n := 8) B.range ex_int ⟨by decide, by decide⟩) (pg_name (i := 5) nd rfl (.inl rfl)) ?_ fun Γ' hΓ => ?_
      · refine forx_rngP (n := (8 : Int).toNat) (fun j Γ => ∃ s5, Γ = [.d (.list (ns.map PyData.int)), .d (.int (k : Int)), .d (.int c), .d (.int (mixN c k j).1), .d (.int (mixN c k j).2), s5]) ⟨.no, rfl⟩ ?_ fun Γ' h => h
        rintro j Γ hj ⟨s5, rfl⟩
        have hj8 : j < 8 := hj
        obtain ⟨b1, b2⟩ := mix_b c k j
        refine ⟨_, [.d (.list (ns.map PyData.int)), .d (.int (k : Int)), .d (.int c), .d (.int (mixN c k (j + 1)).1), .d (.int (mixN c k (j + 1)).2), .d (.int (j : Int))], eg_name, Sub.setD, ?_, ⟨_, rfl⟩⟩
        refine sx_cons (s1_set (x := .int (mixN c k (j + 1)).1) 3 nd (ex_mod (ex_add (ex_add (ex_mul (n := 31) (m := 31) (ex_var 3) (ex_var 3) b1 b1 (by decide)) (ex_mul (n := 17) (m := 4) ex_int (ex_var 5) (show (69621 : Int).natAbs < 2 ^ 17 by decide) (show (j : Int).natAbs < 2 ^ 4 by omega) (by decide))) ex_int) ex_int (by decide))) ?_
        obtain ⟨b3, _⟩ := mix_b c k (j + 1)
        exact sx_one (s1_set (x := .int (mixN c k (j + 1)).2) 4 nd (ex_add (ex_mul (n := 32 * j + 1) (m := 31) (ex_var 4) ex_int b2 (show (2147483563 : Int).natAbs < 2 ^ 31 by decide) (by omega)) (ex_mod (ex_mul (n := 31) (m := 31) (ex_var 3) (ex_var 3) b3 b3 (by decide)) ex_int (by decide))))
      · obtain ⟨s5, rfl⟩ := hΓ
        exact sx_stop (s1_ret (ex_var 4))
  refine sx_cons (s1_set 2 nd ex_int) ?_
  by_cases hl : k < ns.length
  · refine sx_cons (s1_ifT (tx_is (tx_cmp op_lt rd_B0 (ex_var 1) (ex_len (ds := ns.map PyData.int) B.len (ex_var 0) (.inr rfl))) (decide_eq_true (by rw [List.length_map]; omega))) (sx_one (s1_set (x := .int (ns.getD k 0)) 2 nd (ex_ixL (ex_var 0) (ex_var 1) (by rw [Int.toNat_natCast]; exact map_getD PyData.int 0 ns k hl) (by omega))))) fin
  · refine sx_cons (s1_ifF (tx_is (tx_cmp op_lt rd_B0 (ex_var 1) (ex_len (ds := ns.map PyData.int) B.len (ex_var 0) (.inr rfl))) (decide_eq_false (by rw [List.length_map]; omega))) sx_nil) ?_
    have e : ns.getD k 0 = 0 := by rw [List.getD_eq_getElem?_getD, List.getElem?_eq_none (by omega)]; rfl
    rw [e] at fin
    exact fin
/-! ### _law_shared -/
def R_shared (xs : List PD) (r : Rs) : Prop := ∃ a b : Int, xs = [.int a, .int b] ∧ r = .ok (.int (Nat.gcd a.natAbs b.natAbs : Nat))
theorem sc_shared : FnScope ["_law_one", "_law_other"] ["_law_one", "_law_other"] (defScope s__law_shared) := ⟨rfl, rfl, rfl, by decide +kernel, rfl, by decide +kernel, by decide +kernel⟩
theorem c_shared (D : DF P w K mg "_law_shared" s__law_shared) (B : Bi mg) : Cal P w K mg base CX0 40 "_law_shared" ["_law_one", "_law_other"] (spD K R_shared) := by
  refine cal_of D sc_shared (fun xs r ⟨_, _, h, _⟩ => by rw [h]; rfl) (fun _ _ _ _ _ _ us hl => match us, hl with | [_, _], _ => rfl) fun f cdv A outer s H E xs r hr h => ?_
  obtain ⟨a, b, rfl, rfl⟩ := h
  have nd := sc_shared.nd
  refine ⟨.ret _, rfl, ?_⟩
  refine sx_whileE (fun Γ => ∃ a' : Int, a'.natAbs = Nat.gcd a.natAbs b.natAbs ∧ Γ = [.d (.int a'), .d (.int 0)]) PassesOwn.never (while_gcdP (fun a' h => ⟨a', h, rfl⟩) (fun a b => ?_) (fun a b hb => ?_)) (fun Γ' hΓ => ?_)
  · exact tx_cmp op_ne rd_neI (ex_var 1) ex_int
  · exact sx_one (s1_par 0 1 rfl nd (ea_cons (ex_var 1) (ea_cons (ex_modN (ex_var 0) (ex_var 1) hb) ea_nil)))
  · obtain ⟨a', h2, rfl⟩ := hΓ
    refine sx_stop (s1_ret (ex_is (ex_abs B.abs (ex_var 0)) ?_))
    rw [h2]
end
end Rs


set_option maxRecDepth 100000
set_option maxHeartbeats 4000000
namespace Rs
open PySem PySem.Spec PyProof.Rows L2 Dl
theorem ix_seqD {X : Cx} {F : Addr → Prop} {Γ Γ1 : Gm} {tg a : Expr} {x : PD} {ds : List PD} (h : EX X F a Γ Γ1 x) (hx : x = .tuple ds ∨ x = .list ds) : IX X F tg a Γ Γ1 ds := by
  rcases hx with rfl | rfl
  · exact ix_tupD h
  · exact ix_lstD h
theorem lcx_filter {K : PySem.W.Frag} {F : Addr → Prop} {g : TG} {tt : TT} {te : TE} {vs : List Nat} {Γ : Gm} (p : PD → Bool) (f : PD → PD) (hz : setNo Γ vs = Γ) : ∀ ds : List PD, (∀ d, d ∈ ds → ∃ Γt, EvG K F g vs d Γ Γt ∧ Sub Γt Γ ∧ EvT K F tt Γt Γt (p d) ∧ EvE K F te Γt Γt (f d) ∧ setNo Γt vs = Γ) → LcX K F g tt te vs Γ ds Γ ((ds.filter p).map f)
  | [], _ => .nil
  | d :: ds, h => by
    obtain ⟨Γt, h1, h2, h3, h4, h5⟩ := h d List.mem_cons_self
    have rest := lcx_filter p f hz ds fun e he => h e (List.mem_cons_of_mem _ he)
    by_cases c : p d = true
    · rw [List.filter_cons_of_pos c, List.map_cons]
      rw [c] at h3
      exact .cons (Γt := Γt) (Γu := Γt) (by rw [hz]; exact h1) (by rw [hz]; exact h2) h3 h4 (by rw [h5]; exact rest)
    · rw [List.filter_cons_of_neg c]
      rw [Bool.not_eq_true] at c
      rw [c] at h3
      exact .skip (Γt := Γt) (by rw [hz]; exact h1) (by rw [hz]; exact h2) h3 (by rw [h5]; exact rest)
theorem lcx_filter1 {K : PySem.W.Frag} {F : Addr → Prop} {g : TG} {tt : TT} {te : TE} {vs : List Nat} {Γ0 Γ : Gm} (p : PD → Bool) (f : PD → PD) (h0 : setNo Γ0 vs = Γ) (hz : setNo Γ vs = Γ) (d : PD) (ds : List PD) (h : ∀ e, e ∈ d :: ds → ∃ Γt, EvG K F g vs e Γ Γt ∧ Sub Γt Γ ∧ EvT K F tt Γt Γt (p e) ∧ EvE K F te Γt Γt (f e) ∧ setNo Γt vs = Γ) : LcX K F g tt te vs Γ0 (d :: ds) Γ (((d :: ds).filter p).map f) := by
  obtain ⟨Γt, h1, h2, h3, h4, h5⟩ := h d List.mem_cons_self
  have rest := lcx_filter p f hz ds fun e he => h e (List.mem_cons_of_mem _ he)
  by_cases c : p d = true
  · rw [List.filter_cons_of_pos c, List.map_cons]
    rw [c] at h3
    exact .cons (Γt := Γt) (Γu := Γt) (by rw [h0]; exact h1) (by rw [h0]; exact h2) h3 h4 (by rw [h5]; exact rest)
  · rw [List.filter_cons_of_neg c]
    rw [Bool.not_eq_true] at c
    rw [c] at h3
    exact .skip (Γt := Γt) (by rw [h0]; exact h1) (by rw [h0]; exact h2) h3 (by rw [h5]; exact rest)
/-! the sign of the first that isn't 0 -/
def fstM (l : List Int) : Int := (l.filter fun n => decide (n ≠ 0)).headD 0
theorem fst_sgn : ∀ l : List Int, (∃ x ∈ l, x ≠ 0) → fstM l ≠ 0 ∧ (fstM l < 0 ↔ sgnL l = -1) ∧ (0 < fstM l ↔ sgnL l = 1)
  | [], ⟨x, h, _⟩ => nomatch h
  | n :: l, ⟨x, hx, h0⟩ => by
    have e : sgnL (n :: l) = if 0 < n then 1 else if n < 0 then -1 else sgnL l := rfl
    by_cases c : n = 0
    · subst c
      have ex : ∃ x ∈ l, x ≠ 0 := by
        rcases List.mem_cons.mp hx with rfl | hx
        · exact absurd rfl h0
        · exact ⟨x, hx, h0⟩
      have ih := fst_sgn l ex
      have e2 : fstM (0 :: l) = fstM l := rfl
      rw [e2, e, if_neg (by decide), if_neg (by decide)]
      exact ih
    · have e2 : fstM (n :: l) = n := by
        unfold fstM
        rw [List.filter_cons_of_pos (p := fun n => decide (n ≠ 0)) (decide_eq_true c)]
        rfl
      rw [e2, e]
      refine ⟨c, ?_, ?_⟩
      · by_cases p : 0 < n
        · rw [if_pos p]; constructor <;> intro z <;> omega
        · rw [if_neg p, if_pos (by omega)]; constructor <;> intro z <;> omega
      · by_cases p : 0 < n
        · rw [if_pos p]; constructor <;> intro z <;> omega
        · rw [if_neg p, if_pos (by omega)]; constructor <;> intro z <;> omega
theorem sgn_div (l : List Int) : sgnL (divL l) = sgnL l := by
  unfold divL
  have g : ∀ (m : Nat) (l : List Int), m ≠ 0 → (∀ x ∈ l, (m : Int) ∣ x) → sgnL (l.map fun n => n / (m : Int)) = sgnL l := by
    intro m l m0
    induction l with
    | nil => exact fun _ => rfl
    | cons n l ih =>
      intro h
      obtain ⟨k, hk⟩ := h n List.mem_cons_self
      have hq : n / (m : Int) = k := by rw [hk]; exact Int.mul_ediv_cancel_left _ (by omega)
      have e1 : sgnL ((n :: l).map fun n => n / (m : Int)) = if 0 < n / (m : Int) then 1 else if n / (m : Int) < 0 then -1 else sgnL (l.map fun n => n / (m : Int)) := rfl
      have e2 : sgnL (n :: l) = if 0 < n then 1 else if n < 0 then -1 else sgnL l := rfl
      rw [e1, e2, ih fun x hx => h x (List.mem_cons_of_mem _ hx), hq]
      have mp : (0 : Int) < (m : Int) := by omega
      have s1 : 0 < n ↔ 0 < k := by
        rw [hk]
        constructor
        · intro z
          rcases Int.lt_or_le 0 k with q | q
          · exact q
          · have := Int.mul_le_mul_of_nonneg_left q (Int.le_of_lt mp)
            rw [Int.mul_zero] at this
            omega
        · intro z; exact Int.mul_pos mp z
      have s2 : n < 0 ↔ k < 0 := by
        have : n = 0 ↔ k = 0 := by
          rw [hk]
          constructor
          · intro z
            rcases Int.mul_eq_zero.mp z with q | q
            · omega
            · exact q
          · intro z; rw [z, Int.mul_zero]
        omega
      by_cases c1 : 0 < n
      · rw [if_pos c1, if_pos (s1.mp c1)]
      · rw [if_neg c1, if_neg (fun z => c1 (s1.mpr z))]
        by_cases c2 : n < 0
        · rw [if_pos c2, if_pos (s2.mp c2)]
        · rw [if_neg c2, if_neg (fun z => c2 (s2.mpr z))]
  by_cases z : gcdL l = 0
  · have hz := gcdL_zero z
    rw [z]
    have e : (l.map fun n => n / ((0 : Nat) : Int)) = l := by
      conv => rhs; rw [← List.map_id l]
      refine List.map_congr_left fun x hx => ?_
      rw [hz x hx]
      rfl
    rw [e]
  · exact g _ l z fun x hx => gcdL_dvd hx
theorem kept_fdiv {l : List Int} (hg : gcdL l ≠ 0) {s : Int} (hs : s = sgnL l) : (l.map fun n => n.fdiv (s * (gcdL l : Int))) = keptL l := by
  unfold keptL
  rw [sgn_div, ← hs]
  unfold divL
  rw [List.map_map]
  refine List.map_congr_left fun n hn => ?_
  obtain ⟨k, hk⟩ := gcdL_dvd hn
  show n.fdiv (s * (gcdL l : Int)) = s * (n / (gcdL l : Int))
  have q : n / (gcdL l : Int) = k := by rw [hk]; exact Int.mul_ediv_cancel_left _ (by omega)
  rw [q]
  have ss : s * s = 1 := by rw [hs]; exact sgnL_sq l
  have s0 : s ≠ 0 := fun z => by rw [z] at ss; exact absurd ss (by decide)
  have e : n = (s * k) * (s * (gcdL l : Int)) := by
    have : (s * k) * (s * (gcdL l : Int)) = (s * s) * ((gcdL l : Int) * k) := by grind
    rw [this, ss, Int.one_mul]
    exact hk
  rw [e]
  refine Int.mul_fdiv_cancel _ fun z => ?_
  rcases Int.mul_eq_zero.mp z with q | q
  · exact s0 q
  · omega
section
variable {P : Program} {w : World} {K : PySem.W.Frag} {mg : Str → Option Value} {base : Heap}
/-! ### _law_kept -/
def R_lkept (xs : List PD) (r : Rs) : Prop := ∃ x : C6, gcdL x.l ≠ 0 ∧ (∃ d, (d = .tuple (x.l.map PyData.int) ∨ d = .list (x.l.map PyData.int)) ∧ xs = [d]) ∧ r = .ok (cD (kept x))
theorem sc_lkept : FnScope ["_law_some", "_law_share", "_law_number", "_law_first"] ["_law_some"] (defScope s__law_kept) := ⟨rfl, rfl, rfl, by decide +kernel, rfl, by decide +kernel, by decide +kernel⟩
def isNz : PD → Bool
  | .int n => decide (n ≠ 0)
  | _ => false
theorem filt_head (l : List Int) (h : fstM l ≠ 0) : (((l.map PyData.int).filter isNz).map id)[0]? = some (.int (fstM l)) := by
  have e : (l.map PyData.int).filter isNz = (l.filter fun n => decide (n ≠ 0)).map PyData.int := by
    rw [List.filter_map]
    rfl
  rw [e, List.map_id]
  unfold fstM at *
  cases q : l.filter fun n => decide (n ≠ 0) with
  | nil => rw [q] at h; exact absurd rfl h
  | cons a b => rfl
theorem c_lkept (D : DF P w K mg "_law_kept" s__law_kept) (B : Bi mg) (ht : P.given.tree = none) (hs : seerB K = true) (C1 : Cal P w K mg base CX0 40 "_law_shared" ["_law_one", "_law_other"] (spD K R_shared)) : Cal P w K mg base CX0 41 "_law_kept" ["_law_some"] (spD K R_lkept) := by
  refine cal_of D sc_lkept (fun xs r ⟨_, _, ⟨_, _, h⟩, _⟩ => by rw [h]; rfl) (fun _ _ _ _ _ _ us hl => match us, hl with | [_], _ => rfl) fun f cdv A outer s H E xs r hr h => ?_
  obtain ⟨x, hg, ⟨d, hd, rfl⟩, rfl⟩ := h
  have nd := sc_lkept.nd
  have ex : ∃ n ∈ x.l, n ≠ 0 := by
    apply Classical.byContradiction
    intro z
    apply hg
    have hz : ∀ n ∈ x.l, n = 0 := fun n hn => Classical.byContradiction fun q => z ⟨n, hn, q⟩
    have e : x.l = x.l.map fun n => (0 : Int) * n := by
      conv => lhs; rw [← List.map_id x.l]
      exact List.map_congr_left fun n hn => by rw [hz n hn]; rfl
    rw [e, gcdL_mul]
    simp
  obtain ⟨f0, f1, f2⟩ := fst_sgn x.l ex
  refine ⟨.ret (cD (kept x)), rfl, ?_⟩
  have bits : ∀ n ∈ x.l, True := fun _ _ => trivial
  have fin : ∀ sg : Int, sg = sgnL x.l → SX (cxOf CX0 P w K mg base ["_law_some", "_law_share", "_law_number", "_law_first"] "_law_kept" (defScope s__law_kept) f cdv A outer s H E).nox (fun b => H b = none) E ((defBody s__law_kept).drop 4) [.d d, .d (.int (sg * (gcdL x.l : Int))), .no, .d (.int (fstM x.l))] (.ret (cD (kept x))) := fun sg hsg => by
    have s0 : sg * (gcdL x.l : Int) ≠ 0 := fun z => by
      rcases Int.mul_eq_zero.mp z with q | q
      · have := sgnL_sq x.l
        rw [← hsg, q] at this
        exact absurd this (by decide)
      · omega
    refine sx_stop (s1_ret (ex_is (ex_tuple B.tuple (el_lc (own := [("_law_number", 2)]) (g := gName 2) rfl nd (ix_seqD (ex_var 0) hd) (blkOk_by (N := ["_law_some", "_law_share", "_law_number", "_law_first"]) (sc := defScope s__law_kept) (by decide +kernel))
      (fun _ _ _ _ _ => pg_name (i := 2) nd rfl (Or.inl rfl)) (lcx_map (fun d => match d with | .int m => .int (m.fdiv (sg * (gcdL x.l : Int))) | d => d) rfl _ fun d hd => ?_) (by show 6 ≤ 50000; decide))) ?_))
    · obtain ⟨m, _, rfl⟩ := List.mem_map.mp (show d ∈ x.l.map PyData.int from hd)
      exact ⟨_, eg_name, Sub.setD, ev_U Sub.refl fun s' H' C cl fp => ex_fdivP ⟨ht, depth_of hr (by decide), hs, ⟨_, _, rfl, rfl, rfl, rfl, rfl⟩⟩ (ex_var 2) (ex_var 1) s0, rfl⟩
    · show PyData.tuple ((x.l.map PyData.int).map _) = PyData.tuple ((kept x).l.map PyData.int)
      rw [kept_l, ← kept_fdiv hg hsg, List.map_map, List.map_map]
      rfl
  refine sx_cons (s1_set 1 nd ex_int) ?_
  refine sx_forE (vs := [2]) (fun Γ => ∃ n5 : Int, Γ = [.d d, .d (.int (gcdL x.l : Int)), .d (.int n5), .no]) PassesOwn.never rfl (ix_seqD (ex_var 0) hd) (pg_name (i := 2) nd rfl (.inl rfl)) ?_ (fun Γ' hΓ => ?_)
  · have st : ∀ (g : Nat) (n : Int), SX (cxOf CX0 P w K mg base ["_law_some", "_law_share", "_law_number", "_law_first"] "_law_kept" (defScope s__law_kept) f cdv A outer s H E).nox (fun b => H b = none) E (forBody ((defBody s__law_kept).drop 1)) [.d d, .d (.int (g : Int)), .d (.int n), .no] (.nx [.d d, .d (.int (Nat.gcd g n.natAbs : Nat)), .d (.int n), .no]) := fun g n =>
      sx_one (s1_set (x := .int (Nat.gcd g n.natAbs : Nat)) 1 nd (ex_call C1 hr (ea_cons (z := false) (ex_var 1) (ea_cons (ex_var 2) ea_nil)) ⟨(g : Int), n, rfl, by rw [Int.natAbs_natCast]⟩))
    exact ⟨_, ⟨x.f, rfl⟩, .next eg_name Sub.setD (st 0 x.a) (.next eg_name Sub.setD (st _ x.b) (.next eg_name Sub.setD (st _ x.c) (.next eg_name Sub.setD (st _ x.d) (.next eg_name Sub.setD (st _ x.e) (.next eg_name Sub.setD (st _ x.f) .nil)))))⟩
  · obtain ⟨n5, rfl⟩ := hΓ
    refine sx_cons (Γ1 := [.d d, .d (.int (gcdL x.l : Int)), .no, .d (.int (fstM x.l))]) (s1_set (x := .int (fstM x.l)) 3 nd (ex_ixN (i := 0) (ds := ((x.l.map PyData.int).filter isNz).map id) (el_lcIf (own := [("_law_number", 2)]) (g := gName 2) rfl nd (ix_seqD (ex_var 0) hd) (blkOk_by (N := ["_law_some", "_law_share", "_law_number", "_law_first"]) (sc := defScope s__law_kept) (by decide +kernel))
      (fun _ _ _ _ _ => pg_name (i := 2) nd rfl (Or.inl rfl)) (lcx_filter1 isNz id rfl rfl _ _ fun e he => ?_) (by show 6 ≤ 50000; decide)) ex_int (filt_head x.l f0))) ?_
    · obtain ⟨m, _, rfl⟩ := List.mem_map.mp (show e ∈ x.l.map PyData.int from he)
      refine ⟨_, eg_name, Sub.setD, et_U Sub.refl fun s' H' C cl fp => tx_is (tx_cmp op_ne rd_neI (ex_var 2) ex_int) ?_, ev_U Sub.refl fun s' H' C cl fp => ex_var 2, rfl⟩
      show (!decide (m = 0)) = decide (m ≠ 0)
      by_cases z : m = 0
      · rw [decide_eq_true z, decide_eq_false (fun q => q z)]; rfl
      · rw [decide_eq_false z, decide_eq_true z]; rfl
    · by_cases c : fstM x.l < 0
      · refine sx_cons (s1_ifT (tx_is (tx_cmp op_lt rd_B0 (ex_var 3) ex_int) (decide_eq_true c)) (sx_one (s1_set (x := .int (-1 * (gcdL x.l : Int))) 1 nd (ex_is (ex_sub ex_int (ex_var 1)) (by congr 1; omega))))) (fin (-1) (f1.mp c).symm)
      · have e1 : (gcdL x.l : Int) = 1 * (gcdL x.l : Int) := (Int.one_mul _).symm
        have := fin 1 (f2.mp (by omega)).symm
        rw [← e1] at this
        exact sx_cons (s1_ifF (tx_is (tx_cmp op_lt rd_B0 (ex_var 3) ex_int) (decide_eq_false c)) sx_nil) this
end
end Rs


set_option maxRecDepth 100000
set_option maxHeartbeats 4000000
namespace Rs
open PySem PySem.Spec PyProof.Rows L2 Dl
def vD (p : V3) : PD := .list [.int p.x, .int p.y, .int p.z]
def lD (x : C6) : PD := .list (x.l.map PyData.int)
structure VBI (p : V3) (n : Nat) : Prop where
  x : BdI p.x n
  y : BdI p.y n
  z : BdI p.z n
theorem lcx_is {K : PySem.W.Frag} {F : Addr → Prop} {g : TG} {tt : TT} {te : TE} {vs : List Nat} {Γ Γ2 : Gm} {ds ys zs : List PD} (h : LcX K F g tt te vs Γ ds Γ2 ys) (e : ys = zs) : LcX K F g tt te vs Γ ds Γ2 zs := e ▸ h
section
variable {P : Program} {w : World} {K : PySem.W.Frag} {mg : Str → Option Value} {base : Heap}
/-! ### _law_det -/
def R_ldet (xs : List PD) (r : Rs) : Prop := ∃ x : C6, CB x ∧ (xs = [cD x] ∨ xs = [lD x]) ∧ r = .ok (.int x.det)
theorem sc_ldet : FnScope ["_law_curve", "_law_a", "_law_b", "_law_c", "_law_d", "_law_e", "_law_f", "_law_first"] ["_law_curve"] (defScope s__law_det) := ⟨rfl, rfl, rfl, by decide +kernel, rfl, by decide +kernel, by decide +kernel⟩
theorem c_ldet (D : DF P w K mg "_law_det" s__law_det) : Cal P w K mg base CX0 40 "_law_det" ["_law_curve"] (spD K R_ldet) := by
  refine cal_of D sc_ldet (fun xs r ⟨_, _, h, _⟩ => by rcases h with h | h <;> (rw [h]; rfl)) (fun _ _ _ _ _ _ us hl => match us, hl with | [_], _ => rfl) fun f cdv A outer s H E xs r hr h => ?_
  obtain ⟨x, hb, hx, rfl⟩ := h
  refine ⟨.ret (.int x.det), rfl, ?_⟩
  have nd := sc_ldet.nd
  obtain ⟨i1, i2, i3, i4, i5, i6⟩ := hb.i
  have fin : ∀ d, SX (cxOf CX0 P w K mg base ["_law_curve", "_law_a", "_law_b", "_law_c", "_law_d", "_law_e", "_law_f", "_law_first"] "_law_det" (defScope s__law_det) f cdv A outer s H E).nox (fun b => H b = none) E ((defBody s__law_det).drop 1) [.d d, .d (.int x.a), .d (.int x.b), .d (.int x.c), .d (.int x.d), .d (.int x.e), .d (.int x.f), .no] (.ret (.int x.det)) := fun d => by
    refine sx_cons (s1_set 7 nd (ex_add (ex_mulI (ex_var 1) (ex_sub (ex_mulI (ex_mulI ex_int (ex_var 2)) (ex_var 3)) (ex_mulI (ex_var 4) (ex_var 4)))) (ex_mulI (ex_mulI (ex_var 4) (ex_var 5)) (ex_var 6)))) ?_
    refine sx_stop (s1_ret (ex_is (ex_sub (ex_sub (ex_var 7) (ex_mulI (ex_mulI (ex_var 2) (ex_var 5)) (ex_var 5))) (ex_mulI (ex_mulI (ex_var 3) (ex_var 6)) (ex_var 6))) ?_))
    congr 1
    simp only [C6.det]
    grind
  rcases hx with rfl | rfl
  · exact sx_cons (s1_asg (x := cD x) (ex_var 0) (gx_tup (js := [1, 2, 3, 4, 5, 6]) rfl (pns_cons 1 nd (pns_cons 2 nd (pns_cons 3 nd (pns_cons 4 nd (pns_cons 5 nd (pns_cons 6 nd pns_nil)))))))) (fin _)
  · exact sx_cons (s1_asg (x := lD x) (ex_var 0) (gx_lst (js := [1, 2, 3, 4, 5, 6]) rfl (pns_cons 1 nd (pns_cons 2 nd (pns_cons 3 nd (pns_cons 4 nd (pns_cons 5 nd (pns_cons 6 nd pns_nil)))))))) (fin _)
/-! ### _law_dual -/
def R_ldual (xs : List PD) (r : Rs) : Prop := ∃ x : C6, CB x ∧ gcdL (dualC x).l ≠ 0 ∧ xs = [cD x] ∧ r = .ok (cD (dualM x))
theorem sc_ldual : FnScope ["_law_curve", "_law_a", "_law_b", "_law_c", "_law_d", "_law_e", "_law_f", "_law_six", "_law_more"] ["_law_curve"] (defScope s__law_dual) := ⟨rfl, rfl, rfl, by decide +kernel, rfl, by decide +kernel, by decide +kernel⟩
theorem c_ldual (D : DF P w K mg "_law_dual" s__law_dual) (C1 : Cal P w K mg base CX0 41 "_law_kept" ["_law_some"] (spD K R_lkept)) : Cal P w K mg base CX0 42 "_law_dual" ["_law_curve"] (spD K R_ldual) := by
  refine cal_of D sc_ldual (fun xs r ⟨_, _, _, h, _⟩ => by rw [h]; rfl) (fun _ _ _ _ _ _ us hl => match us, hl with | [_], _ => rfl) fun f cdv A outer s H E xs r hr h => ?_
  obtain ⟨x, hb, hg, rfl, rfl⟩ := h
  refine ⟨.ret (cD (dualM x)), rfl, ?_⟩
  have nd := sc_ldual.nd
  obtain ⟨i1, i2, i3, i4, i5, i6⟩ := hb.i
  refine sx_cons (s1_asg (ex_var 0) (gx_tup (js := [1, 2, 3, 4, 5, 6]) rfl (pns_cons 1 nd (pns_cons 2 nd (pns_cons 3 nd (pns_cons 4 nd (pns_cons 5 nd (pns_cons 6 nd pns_nil)))))))) ?_
  refine sx_cons (s1_set 7 nd (ex_tup (ea_cons (ex_sub (ex_mulI (ex_mulI ex_int (ex_var 2)) (ex_var 3)) (ex_mulI (ex_var 4) (ex_var 4))) (ea_cons (ex_sub (ex_mulI (ex_mulI ex_int (ex_var 1)) (ex_var 3)) (ex_mulI (ex_var 5) (ex_var 5))) (ea_cons (ex_sub (ex_mulI (ex_mulI ex_int (ex_var 1)) (ex_var 2)) (ex_mulI (ex_var 6) (ex_var 6))) ea_nil))))) ?_
  refine sx_cons (s1_set 8 nd (ex_tup (ea_cons (ex_sub (ex_mulI (ex_mulI ex_int (ex_var 5)) (ex_var 6)) (ex_mulI (ex_mulI ex_int (ex_var 1)) (ex_var 4))) (ea_cons (ex_sub (ex_mulI (ex_mulI ex_int (ex_var 4)) (ex_var 6)) (ex_mulI (ex_mulI ex_int (ex_var 2)) (ex_var 5))) (ea_cons (ex_sub (ex_mulI (ex_mulI ex_int (ex_var 4)) (ex_var 5)) (ex_mulI (ex_mulI ex_int (ex_var 3)) (ex_var 6))) ea_nil))))) ?_
  exact sx_stop (s1_ret (ex_call C1 hr (ea_cons (z := false) (ex_cat (ex_var 7) (ex_var 8)) ea_nil) ⟨dualC x, hg, ⟨_, .inl rfl, rfl⟩, rfl⟩))
/-! ### _law_worth, _law_both -/
def R_worth (xs : List PD) (r : Rs) : Prop := ∃ (x : C6) (p : V3), CB x ∧ VBI p 100 ∧ xs = [cD x, vD p] ∧ r = .ok (.int (worth x p))
theorem sc_worth : FnScope ["_law_curve", "_law_point", "_law_a", "_law_b", "_law_c", "_law_d", "_law_e", "_law_f", "_law_x", "_law_y", "_law_z", "_law_squares"] ["_law_curve", "_law_point"] (defScope s__law_worth) := ⟨rfl, rfl, rfl, by decide +kernel, rfl, by decide +kernel, by decide +kernel⟩
theorem c_worth (D : DF P w K mg "_law_worth" s__law_worth) : Cal P w K mg base CX0 40 "_law_worth" ["_law_curve", "_law_point"] (spD K R_worth) := by
  refine cal_of D sc_worth (fun xs r ⟨_, _, _, _, h, _⟩ => by rw [h]; rfl) (fun _ _ _ _ _ _ us hl => match us, hl with | [_, _], _ => rfl) fun f cdv A outer s H E xs r hr h => ?_
  obtain ⟨x, p, hb, hp, rfl, rfl⟩ := h
  refine ⟨.ret (.int (worth x p)), rfl, ?_⟩
  have nd := sc_worth.nd
  obtain ⟨i1, i2, i3, i4, i5, i6⟩ := hb.i
  obtain ⟨j1, j2, j3⟩ := hp
  refine sx_cons (s1_asg (ex_var 0) (gx_tup (js := [2, 3, 4, 5, 6, 7]) rfl (pns_cons 2 nd (pns_cons 3 nd (pns_cons 4 nd (pns_cons 5 nd (pns_cons 6 nd (pns_cons 7 nd pns_nil)))))))) ?_
  refine sx_cons (s1_asg (ex_var 1) (gx_lst (js := [8, 9, 10]) rfl (pns_cons 8 nd (pns_cons 9 nd (pns_cons 10 nd pns_nil))))) ?_
  refine sx_cons (s1_set 11 nd (ex_add (ex_add (ex_mulI (ex_mulI (ex_var 2) (ex_var 8)) (ex_var 8)) (ex_mulI (ex_mulI (ex_var 3) (ex_var 9)) (ex_var 9))) (ex_mulI (ex_mulI (ex_var 4) (ex_var 10)) (ex_var 10)))) ?_
  exact sx_stop (s1_ret (ex_is (ex_add (ex_add (ex_add (ex_var 11) (ex_mulI (ex_mulI (ex_var 5) (ex_var 9)) (ex_var 10))) (ex_mulI (ex_mulI (ex_var 6) (ex_var 8)) (ex_var 10))) (ex_mulI (ex_mulI (ex_var 7) (ex_var 8)) (ex_var 9))) rfl))
def R_both (xs : List PD) (r : Rs) : Prop := ∃ (x : C6) (p q : V3), CB x ∧ VBI p 99 ∧ VBI q 99 ∧ xs = [cD x, vD p, vD q] ∧ r = .ok (.int (both x p q))
def plusF : PD → PD
  | .tuple [.int a, .int b] => .int (a + b)
  | d => d
theorem sc_both : FnScope ["_law_curve", "_law_one", "_law_other", "_law_total", "_law_a", "_law_b"] ["_law_curve", "_law_one", "_law_other"] (defScope s__law_both) := ⟨rfl, rfl, rfl, by decide +kernel, rfl, by decide +kernel, by decide +kernel⟩
theorem vbi_plus {p q : V3} (h1 : VBI p 99) (h2 : VBI q 99) : VBI (p.plus q) 100 := by
  obtain ⟨a1, a2, a3⟩ := h1
  obtain ⟨b1, b2, b3⟩ := h2
  exact ⟨bdi_le (z := p.x + q.x) (by decide), bdi_le (z := p.y + q.y) (by decide), bdi_le (z := p.z + q.z) (by decide)⟩
theorem VBI.mono {p : V3} {n m : Nat} (h : VBI p n) (l : n ≤ m) : VBI p m := ⟨bdi_mono h.x l, bdi_mono h.y l, bdi_mono h.z l⟩
theorem c_both (D : DF P w K mg "_law_both" s__law_both) (B : Bi mg) (C1 : Cal P w K mg base CX0 40 "_law_worth" ["_law_curve", "_law_point"] (spD K R_worth)) : Cal P w K mg base CX0 41 "_law_both" ["_law_curve", "_law_one", "_law_other"] (spD K R_both) := by
  refine cal_of D sc_both (fun xs r ⟨_, _, _, _, _, _, h, _⟩ => by rw [h]; rfl) (fun _ _ _ _ _ _ us hl => match us, hl with | [_, _, _], _ => rfl) fun f cdv A outer s H E xs r hr h => ?_
  obtain ⟨x, p, q, hb, hp, hq, rfl, rfl⟩ := h
  refine ⟨.ret (.int (both x p q)), rfl, ?_⟩
  have nd := sc_both.nd
  refine sx_setLc (own := [("_law_a", 4), ("_law_b", 5)]) (g := gTup K 2 (gNames [4, 5])) (ys := [.int (p.x + q.x), .int (p.y + q.y), .int (p.z + q.z)]) 3 rfl nd (ix_zip (ds := [.int p.x, .int p.y, .int p.z]) (es := [.int q.x, .int q.y, .int q.z]) B.zip (ex_var 1) (ex_var 2) (.inr ⟨rfl, rfl⟩) rfl) (blkOk_by (N := ["_law_curve", "_law_one", "_law_other", "_law_total", "_law_a", "_law_b"]) (sc := defScope s__law_both) (by decide +kernel))
    (fun _ _ _ _ _ => pg_tup (t := gNames [4, 5]) (n := 2) rfl (pns_cons 4 nd (pns_cons 5 nd pns_nil)).h) (lcx_map plusF rfl _ fun d hd => ?_) fun a fa no => ?_
  · have : ∃ i j : Int, d = .tuple [.int i, .int j] := by
      simp only [List.zipWith_cons_cons, List.zipWith_nil_left, List.mem_cons, List.not_mem_nil, or_false] at hd
      rcases hd with rfl | rfl | rfl <;> exact ⟨_, _, rfl⟩
    obtain ⟨i, j, rfl⟩ := this
    exact ⟨_, eg_tup (js := [4, 5]) rfl, sub_sets [4, 5] _ _, ev_U Sub.refl fun s' H' C cl fp => ex_add (ex_var 4) (ex_var 5), rfl⟩
  · exact sx_stop (s1_ret (ex_sub (ex_sub (ex_call C1 hr (ea_cons (z := false) (ex_var 0) (ea_consO (e := .Constant .none 0 ⟨0, 0, 0, 0⟩) 3 ea_nil)) ⟨x, p.plus q, hb, vbi_plus hp hq, rfl, rfl⟩) (ex_call C1 hr (ea_cons (z := false) (ex_var 0) (ea_cons (ex_var 1) ea_nil)) ⟨x, p, hb, hp.mono (by decide), rfl, rfl⟩)) (ex_call C1 hr (ea_cons (z := false) (ex_var 0) (ea_cons (ex_var 2) ea_nil)) ⟨x, q, hb, hq.mono (by decide), rfl, rfl⟩)))
/-! ### _law_numbers, _law_apart, _law_is_pair -/
def R_lnum (xs : List PD) (r : Rs) : Prop := ∃ o i : C6, Cb o 1000 ∧ Cb i 1000 ∧ xs = [cD o, cD i] ∧ r = .ok (nD (numb o i))
theorem sc_lnum : FnScope ["_law_outer", "_law_inner", "_law_worths", "_law_t", "_law_lead", "_law_second", "_law_first", "_law_one", "_law_other"] ["_law_outer", "_law_inner"] (defScope s__law_numbers) := ⟨rfl, rfl, rfl, by decide +kernel, rfl, by decide +kernel, by decide +kernel⟩
def linT (t : Int) : PD → PD
  | .tuple [.int a, .int b] => .int (t * a + b)
  | d => d
theorem lin_cb {o i : C6} {t : Int} {n : Nat} (ho : Cb o n) (hi : Cb i n) (ht : t.natAbs ≤ 1) : Cb (C6.lin t o 1 i) (n + 1) := by
  obtain ⟨h1, h2, h3, h4, h5, h6⟩ := cb_iff.mp ho
  obtain ⟨k1, k2, k3, k4, k5, k6⟩ := cb_iff.mp hi
  have e : 2 ^ (n + 1) = 2 * 2 ^ n := by rw [Nat.pow_succ]; omega
  have g : ∀ {a b : Int}, a.natAbs ≤ 2 ^ n → b.natAbs ≤ 2 ^ n → (t * a + 1 * b).natAbs ≤ 2 * 2 ^ n := fun {a b} ha hb => by
    have := abs_mul_le ht ha
    rw [Int.one_mul]
    generalize t * a = ta at *
    omega
  refine cb_iff.mpr ?_
  rw [e]
  exact ⟨g h1 k1, g h2 k2, g h3 k3, g h4 k4, g h5 k5, g h6 k6⟩
theorem c_lnum (D : DF P w K mg "_law_numbers" s__law_numbers) (B : Bi mg) (C1 : Cal P w K mg base CX0 40 "_law_det" ["_law_curve"] (spD K R_ldet)) : Cal P w K mg base CX0 41 "_law_numbers" ["_law_outer", "_law_inner"] (spD K R_lnum) := by
  refine cal_of D sc_lnum (fun xs r ⟨_, _, _, _, h, _⟩ => by rw [h]; rfl) (fun _ _ _ _ _ _ us hl => match us, hl with | [_, _], _ => rfl) fun f cdv A outer s H E xs r hr h => ?_
  obtain ⟨o, i, ho, hi, rfl, rfl⟩ := h
  refine ⟨.ret (nD (numb o i)), rfl, ?_⟩
  have nd := sc_lnum.nd
  refine sx_setL 2 nd (el_lst ea_nil) fun a fa no => ?_
  refine sx_forE (vs := [3]) (fun Γ => ∃ s3, Γ = [.d (cD o), .d (cD i), .own a [.int (C6.lin 0 o 1 i).det, .int (C6.lin 1 o 1 i).det, .int (C6.lin (-1) o 1 i).det], s3, .no, .no, .no, .no, .no]) PassesOwn.never rfl (ix_new (el_lst (xs := [.int 0, .int 1, .int (-1)]) (ea_cons ex_int (ea_cons ex_int (ea_cons (ex_neg ex_int) ea_nil))))) (pg_name (i := 3) nd rfl (.inr rfl)) ?_ (fun Γ' hΓ => ?_)
  · have st : ∀ (t : Int) (ys : List PD), t.natAbs ≤ 1 → ys.length ≤ 10 → SX (cxOf CX0 P w K mg base ["_law_outer", "_law_inner", "_law_worths", "_law_t", "_law_lead", "_law_second", "_law_first", "_law_one", "_law_other"] "_law_numbers" (defScope s__law_numbers) f cdv A outer s H E).nox (fun b => H b = none) E (forBody ((defBody s__law_numbers).drop 1)) [.d (cD o), .d (cD i), .own a ys, .d (.int t), .no, .no, .no, .no, .no] (.nx [.d (cD o), .d (cD i), .own a (ys ++ [.int (C6.lin t o 1 i).det]), .d (.int t), .no, .no, .no, .no, .no]) := fun t ys h1 hl => by
      refine sx_one (s1_app 2 (ex_call C1 hr (ea_consL (ys := (C6.lin t o 1 i).l.map PyData.int) (el_lc (own := [("_law_one", 7), ("_law_other", 8)]) (g := gTup K 2 (gNames [7, 8])) rfl nd (ix_zip (ds := o.l.map PyData.int) (es := i.l.map PyData.int) B.zip (ex_var 0) (ex_var 1) (.inl ⟨rfl, rfl⟩) rfl) (blkOk_by (N := ["_law_outer", "_law_inner", "_law_worths", "_law_t", "_law_lead", "_law_second", "_law_first", "_law_one", "_law_other"]) (sc := defScope s__law_numbers) (by decide +kernel))
        (fun _ _ _ _ _ => pg_tup (t := gNames [7, 8]) (n := 2) rfl (pns_cons 7 nd (pns_cons 8 nd pns_nil)).h) (lcx_is (lcx_map (linT t) rfl _ fun d hd => ?_) ?_)) ea_nil) ⟨C6.lin t o 1 i, cb_mono (lin_cb ho hi h1) (by decide), .inr rfl, rfl⟩) rfl rfl (by omega))
      · obtain ⟨b, c, rfl, bb, bc⟩ := zip_mem ho hi hd
        exact ⟨_, eg_tup (js := [7, 8]) rfl, sub_sets [7, 8] _ _, ev_U Sub.refl fun s' H' C cl fp => ex_add (ex_mul (n := 1) (ex_var 3) (ex_var 7) (show t.natAbs < 2 ^ 1 by omega) bb (by decide)) (ex_var 8), rfl⟩
      · simp only [C6.l, C6.lin, Int.one_mul]
        rfl
    exact ⟨_, ⟨_, rfl⟩, .next eg_name Sub.setD (st 0 [] (by decide) (by decide)) (.next eg_name Sub.setD (st 1 _ (by decide) (Nat.le_of_ble_eq_true rfl)) (.next eg_name Sub.setD (st (-1) _ (by decide) (Nat.le_of_ble_eq_true rfl)) .nil))⟩
  · obtain ⟨s3, rfl⟩ := hΓ
    refine sx_cons (s1_set 4 nd (ex_call C1 hr (ea_cons (z := false) (ex_var 0) ea_nil) ⟨o, cb_mono ho (by decide), .inl rfl, rfl⟩)) ?_
    have bd : Bd (C6.lin 0 o 1 i).det 200000 := by
      obtain ⟨i1, i2, i3, i4, i5, i6⟩ := CB.i (x := C6.lin 0 o 1 i) (cb_mono (lin_cb ho hi (t := 0) (by decide)) (by decide))
      generalize C6.lin 0 o 1 i = x at *
      exact (bdi_le (z := 4 * x.a * x.b * x.c + x.d * x.e * x.f - x.a * x.d * x.d - x.b * x.e * x.e - x.c * x.f * x.f) (by decide)).h
    refine sx_cons (s1_set 5 nd (ex_fdiv (ex_sub (ex_add (ex_ixO 2 ex_int) (ex_ixO 2 ex_int)) (ex_mul (n := 2) (m := 200000) ex_int (ex_ixO 2 ex_int) (show (2 : Int).natAbs < 2 ^ 2 by decide) bd (by decide))) ex_int ⟨by decide, by decide⟩)) ?_
    refine sx_cons (s1_set 6 nd (ex_sub (ex_sub (ex_sub (ex_ixO 2 ex_int) (ex_ixO 2 ex_int)) (ex_var 5)) (ex_var 4))) ?_
    refine sx_stop (s1_ret (ex_is (ex_tup (ea_cons (ex_ixO 2 ex_int) (ea_cons (ex_var 6) (ea_cons (ex_var 5) (ea_cons (ex_var 4) ea_nil))))) ?_))
    rw [← numL_eq]
    rfl
def R_apart (xs : List PD) (r : Rs) : Prop := ∃ n : N4, NB n ∧ xs = [nD n] ∧ r = .ok (.int n.disc)
theorem sc_apart : FnScope ["_law_numbers_here", "_law_w", "_law_u", "_law_v", "_law_r", "_law_first"] ["_law_numbers_here"] (defScope s__law_apart) := ⟨rfl, rfl, rfl, by decide +kernel, rfl, by decide +kernel, by decide +kernel⟩
theorem c_apart (D : DF P w K mg "_law_apart" s__law_apart) : Cal P w K mg base CX0 40 "_law_apart" ["_law_numbers_here"] (spD K R_apart) := by
  refine cal_of D sc_apart (fun xs r ⟨_, _, h, _⟩ => by rw [h]; rfl) (fun _ _ _ _ _ _ us hl => match us, hl with | [_], _ => rfl) fun f cdv A outer s H E xs r hr h => ?_
  obtain ⟨n, hb, rfl, rfl⟩ := h
  refine ⟨.ret (.int n.disc), rfl, ?_⟩
  have nd := sc_apart.nd
  obtain ⟨i1, i2, i3, i4⟩ := hb
  refine sx_cons (s1_asg (ex_var 0) (gx_tup (js := [1, 2, 3, 4]) rfl (pns_cons 1 nd (pns_cons 2 nd (pns_cons 3 nd (pns_cons 4 nd pns_nil)))))) ?_
  refine sx_cons (s1_set 5 nd (ex_sub (ex_mulI (ex_mulI (ex_mulI (ex_var 2) (ex_var 2)) (ex_var 3)) (ex_var 3)) (ex_mulI (ex_mulI (ex_mulI (ex_mulI ex_int (ex_var 1)) (ex_var 3)) (ex_var 3)) (ex_var 3)))) ?_
  refine sx_cons (s1_set 5 nd (ex_sub (ex_var 5) (ex_mulI (ex_mulI (ex_mulI (ex_mulI ex_int (ex_var 2)) (ex_var 2)) (ex_var 2)) (ex_var 4)))) ?_
  exact sx_stop (s1_ret (ex_is (ex_add (ex_sub (ex_var 5) (ex_mulI (ex_mulI (ex_mulI (ex_mulI ex_int (ex_var 1)) (ex_var 1)) (ex_var 4)) (ex_var 4))) (ex_mulI (ex_mulI (ex_mulI (ex_mulI ex_int (ex_var 1)) (ex_var 2)) (ex_var 3)) (ex_var 4))) rfl))
def R_lpair (xs : List PD) (r : Rs) : Prop := ∃ o i : C6, Cb o 1000 ∧ Cb i 1000 ∧ xs = [cD o, cD i] ∧ r = .ok (.bool (!decide ((numb o i).disc = 0)))
theorem c_lpair (D : DF P w K mg "_law_is_pair" s__law_is_pair) (C1 : Cal P w K mg base CX0 41 "_law_numbers" ["_law_outer", "_law_inner"] (spD K R_lnum)) (C2 : Cal P w K mg base CX0 40 "_law_apart" ["_law_numbers_here"] (spD K R_apart)) : Cal P w K mg base CX0 42 "_law_is_pair" ["_law_outer", "_law_inner"] (spD K R_lpair) := by
  refine cal_of D ⟨rfl, rfl, rfl, by decide +kernel, rfl, by decide +kernel, by decide +kernel⟩ (N := ["_law_outer", "_law_inner"]) (fun xs r ⟨_, _, _, _, h, _⟩ => by rw [h]; rfl) (fun _ _ _ _ _ _ us hl => match us, hl with | [_, _], _ => rfl) fun f cdv A outer s H E xs r hr h => ?_
  obtain ⟨o, i, ho, hi, rfl, rfl⟩ := h
  refine ⟨.ret _, rfl, sx_stop (s1_ret (ex_cmp op_ne rd_neI (ex_call C2 (hr.mono (by decide)) (ea_cons (z := false) (ex_call C1 hr (ea_cons (z := false) (ex_var 0) (ea_cons (ex_var 1) ea_nil)) ⟨o, i, ho, hi, rfl, rfl⟩) ea_nil) ⟨_, nb_of (cb_mono ho (by decide)) (cb_mono hi (by decide)), rfl, rfl⟩) ex_int))⟩
/-! ### _law_laid -/
def R_laid (xs : List PD) (r : Rs) : Prop := ∃ s t u v w x y : Int, Bd s 50 ∧ Bd t 50 ∧ Bd u 50 ∧ Bd v 50 ∧ Bd w 50 ∧ Bd x 50 ∧ Bd y 50 ∧ xs = [.int s, .int t, .list [.int u, .int v, .int w, .int x, .int y]] ∧ r = .ok (cD (laidC s t u v w x y))
theorem sc_laid : FnScope ["_law_s", "_law_t", "_law_some", "_law_m", "_law_q", "_law_u", "_law_v", "_law_w", "_law_x", "_law_y", "_law_first"] ["_law_s", "_law_t", "_law_some"] (defScope s__law_laid) := ⟨rfl, rfl, rfl, by decide +kernel, rfl, by decide +kernel, by decide +kernel⟩
theorem c_laid (D : DF P w K mg "_law_laid" s__law_laid) : Cal P w K mg base CX0 40 "_law_laid" ["_law_s", "_law_t", "_law_some"] (spD K R_laid) := by
  refine cal_of D sc_laid (fun xs r ⟨_, _, _, _, _, _, _, _, _, _, _, _, _, _, h, _⟩ => by rw [h]; rfl) (fun _ _ _ _ _ _ us hl => match us, hl with | [_, _, _], _ => rfl) fun f cdv A outer sh H E xs r hr h => ?_
  obtain ⟨s, t, u, v, w, x, y, h1, h2, h3, h4, h5, h6, h7, rfl, rfl⟩ := h
  refine ⟨.ret (cD (laidC s t u v w x y)), rfl, ?_⟩
  have nd := sc_laid.nd
  have i1 : BdI s 50 := ⟨h1⟩
  have i2 : BdI t 50 := ⟨h2⟩
  have i3 : BdI u 50 := ⟨h3⟩
  have i4 : BdI v 50 := ⟨h4⟩
  have i5 : BdI w 50 := ⟨h5⟩
  have i6 : BdI x 50 := ⟨h6⟩
  have i7 : BdI y 50 := ⟨h7⟩
  refine sx_cons (s1_set 3 nd (ex_sub (ex_sub ex_int (ex_var 0)) (ex_var 1))) ?_
  refine sx_cons (s1_set 4 nd (ex_mulI (ex_var 0) (ex_var 1))) ?_
  refine sx_cons (s1_asg (ex_var 2) (gx_lst (js := [5, 6, 7, 8, 9]) rfl (pns_cons 5 nd (pns_cons 6 nd (pns_cons 7 nd (pns_cons 8 nd (pns_cons 9 nd pns_nil))))))) ?_
  refine sx_cons (s1_set 10 nd (ex_add (ex_add (ex_mulI (ex_mulI (ex_var 6) (ex_var 3)) (ex_var 3)) (ex_mulI (ex_mulI (ex_var 7) (ex_var 4)) (ex_var 4))) (ex_mulI (ex_mulI (ex_mulI ex_int (ex_var 8)) (ex_var 3)) (ex_var 4)))) ?_
  refine sx_cons (s1_set 10 nd (ex_add (ex_add (ex_var 10) (ex_mulI (ex_mulI ex_int (ex_var 9)) (ex_var 4))) (ex_mulI (ex_mulI ex_int (ex_var 5)) (ex_var 3)))) ?_
  exact sx_stop (s1_ret (ex_is (ex_tup (ea_cons (ex_sub ex_int (ex_var 10)) (ea_cons (ex_var 6) (ea_cons (ex_var 7) (ea_cons (ex_mulI ex_int (ex_var 8)) (ea_cons (ex_mulI ex_int (ex_var 9)) (ea_cons (ex_mulI ex_int (ex_var 5)) ea_nil))))))) rfl))
end
end Rs


set_option maxRecDepth 100000
set_option maxHeartbeats 4000000
namespace Rs
open PySem PySem.Spec PyProof.Rows L2 Dl
/-! ### a pile that a call changes -/
def spTake (_ : PySem.W.Frag) : Sp := fun vs H Q _ => ∃ (a : Addr) (n m : Int), vs = [.ref a, .int m] ∧ H a = some (.lst [.int n]) ∧ 0 < m ∧ m ≤ 100 ∧ ∀ H' : Hp, H' a = some (.lst [.int (n / m)]) → (∀ b o, b ≠ a → H b = some o → H' b = some o) → Q (.int (n % m)) H'
def startO (N : List Str) (a : Addr) (n m : Int) : Gm := .own a [.int n] :: .d (.int m) :: List.replicate (N.length - 2) Sl.no
theorem startO_std {K : PySem.W.Frag} {H : Hp} {N : List Str} {a : Addr} {n m : Int} (hH : H a = some (.lst [.int n])) : StD K (fun b => H b = none) (fun b => if b = a then none else H b) H (L2.start N [.ref a, .int m]) (startO N a n m) where
  len := by simp [L2.start, startO]
  ex := fun b o h0 => by
    have h : (if b = a then none else H b) = some o := h0
    by_cases z : b = a
    · rw [if_pos z] at h; cases h
    · rw [if_neg z] at h; exact h
  dat := fun i x h => by
    match i with
    | 0 => cases h
    | 1 => cases h; exact ⟨_, rfl, .int m⟩
    | i + 2 =>
      have e : (List.replicate (N.length - 2) Sl.no)[i]? = some (.d x) := h
      have := List.eq_of_mem_replicate (List.mem_of_getElem? e)
      cases this
  own := fun i b xs h => by
    match i with
    | 0 =>
      cases h
      exact ⟨rfl, if_pos rfl, _, hH, .cons (.int n) .nil⟩
    | 1 => cases h
    | i + 2 =>
      have e : (List.replicate (N.length - 2) Sl.no)[i]? = some (.own b xs) := h
      have := List.eq_of_mem_replicate (List.mem_of_getElem? e)
      cases this
  inj := fun i j b xs ys h1 h2 => by
    have z : ∀ (i : Nat) (b : Addr) (xs : List PD), (startO N a n m)[i]? = some (.own b xs) → i = 0 := fun i b xs h => by
      match i with
      | 0 => rfl
      | 1 => cases h
      | i + 2 =>
        have e : (List.replicate (N.length - 2) Sl.no)[i]? = some (.own b xs) := h
        have := List.eq_of_mem_replicate (List.mem_of_getElem? e)
        cases this
    rw [z i b xs h1, z j b ys h2]
  fre := fun b h => h
theorem startO_own {N : List Str} {a b : Addr} {n m : Int} (h : IsOwn (startO N a n m) b) : b = a := by
  obtain ⟨i, xs, h⟩ := h
  match i with
  | 0 => cases h; rfl
  | 1 => cases h
  | i + 2 =>
    have e : (List.replicate (N.length - 2) Sl.no)[i]? = some (.own b xs) := h
    have := List.eq_of_mem_replicate (List.mem_of_getElem? e)
    cases this
theorem dpa_int1 {K : PySem.W.Frag} {H : Hp} {us : List V} {n : Int} (h : DpAll K H us [.int n]) : us = [.int n] := by
  cases h with
  | cons h1 h2 => cases h1; cases h2; rfl
theorem logB {m : Int} (h : m ≤ 100) (h0 : 0 < m) : m.natAbs.log2 < 9000 := Nat.lt_of_le_of_lt (Nat.log2_le_self _) (by omega)
section
variable {P : Program} {w : World} {K : PySem.W.Frag} {mg : Str → Option Value} {base : Heap}
/-! ### _law_take -/
theorem sc_take : FnScope ["_law_pile", "_law_size", "_law_digit"] ["_law_pile", "_law_size"] (defScope s__law_take) := ⟨rfl, rfl, rfl, by decide +kernel, rfl, by decide +kernel, by decide +kernel⟩
theorem c_take (D : DF P w K mg "_law_take" s__law_take) : Cal P w K mg base CX0 40 "_law_take" ["_law_pile", "_law_size"] (spTake K) := by
  obtain ⟨f, fd, Fd, hm⟩ := D.ex
  refine ⟨f, fd, hm, Fd.kp, Fd.bindsN (fun _ _ _ _ _ _ us hl => match us, hl with | [_, _], _ => rfl), Fd.ok sc_take (fun vs H Q E h => ?_) fun cdv A outer s H vs Q E hr h => ?_⟩
  · obtain ⟨a, n, m, rfl, _⟩ := h
    rfl
  · obtain ⟨a, n, m, rfl, hH, m0, m1, k⟩ := h
    refine ⟨_, PSs.nox pssW, ?_⟩
    have nd := sc_take.nd
    have sx : SX (cxOf CX0 P w K mg base ["_law_pile", "_law_size", "_law_digit"] "_law_take" (defScope s__law_take) f cdv A outer s H E).nox (fun b => H b = none) E (defBody s__law_take) (startO ["_law_pile", "_law_size", "_law_digit"] a n m) (.retM a [.int (n / m)] (.int (n % m))) :=
      sx_cons (s1_set 2 nd (ex_mod (ex_ixO (ds := [.int n]) (o := a) 0 ex_int) (ex_var 1) m0)) (sx_cons (s1_setO (p := a) (xs := [.int n]) 0 (ex_fdiv (ex_ixO (ds := [.int n]) (o := a) 0 ex_int) (ex_var 1) ⟨m0, logB m1 m0⟩) ex_int rfl ⟨by decide, Nat.zero_lt_one⟩) (sx_stop (s1_retM 0 (ex_var 2))))
    refine sx.run _ _ _ H (startO_std hH) fun v H0' H' us st hd he hus _ => ?_
    cases hd
    rw [dpa_int1 hus] at he
    exact k H' he fun b o hb h => st.fr b o (fun z => hb (startO_own z)) h
theorem ex_take {X : Cx} {F : Addr → Prop} {Γ : Gm} {n m : Int} {a : Addr} {nm : Str} {p1 p2 p3 pos : Pos} {k : Nat} (i : Nat) (C : Cal X.prog X.w X.K X.mg X.base CX0 40 "_law_take" ["_law_pile", "_law_size"] (spTake X.K)) (hr : Room 40 X.A) (hm : 0 < m ∧ m ≤ 100 := by decide) (hG : Γ[i]? = some (.own a [.int n]) := by rfl)
    (hN : X.N[i]? = some nm := by rfl) (hv : Vis X.env.scope nm := by first | exact Or.inl rfl | exact Or.inr (Or.inl rfl) | exact Or.inr (Or.inr rfl)) (hd : (nm == ("__debug__" : Str)) = false := by decide) (hcd : (nm == ("__classdict__" : Str)) = false := by decide) (hg : Gl X "_law_take" := by rfl)
    (he : starEach [.Name nm p2, .Constant (.int m) k p3] X.env = (false, eval (.Name nm p2) X.env) :: starEach [.Constant (.int m) k p3] X.env := by rfl) (he2 : starEach [.Constant (.int m) k p3] X.env = (false, eval (.Constant (.int m) k p3) X.env) :: starEach [] X.env := by rfl) (hpl : (backTo pos (starEach [.Constant (.int m) k p3] X.env)).any (·.1) = false := by rfl) :
    EX X F (.Call (.Name "_law_take" p1) [.Name nm p2, .Constant (.int m) k p3] [] pos) Γ (Γ.set i (.own a [.int (n / m)])) (.int (n % m)) := by
  obtain ⟨f, fd, hmg, hk, hb, Fn⟩ := C.ex
  refine ex_of (pe_call Fn hr hg hmg hk hb .nil pass0 (pa_cons (pe_var hN hv hd hcd) (pa_cons pe_int pa_nil he2) he) (by decide) he hpl) ⟨Sub.setOwn hG, fun H0 σ H S Q kk => ?_⟩
  obtain ⟨q1, q2, vs, q3, q4⟩ := S.own i a _ hG
  refine ⟨_, q1, ?_⟩
  rw [dpa_int1 q4] at q3
  refine ⟨a, n, m, rfl, q3, hm.1, hm.2, fun H' ha hb => ?_⟩
  obtain ⟨S2, s2⟩ := std_own S hG ha hb (.cons (.int _) .nil) fun b hb0 => by
    by_cases z : b = a
    · rw [z, ha]; exact fun z => nomatch z
    · cases q : H b with
      | none => exact absurd q hb0
      | some o => rw [hb b o z q]; exact fun z => nomatch z
  exact kk _ H0 H' s2 S2 (.int _)
end
end Rs


set_option maxRecDepth 100000
set_option maxHeartbeats 4000000
namespace Rs
open PySem PySem.Spec PyProof.Rows L2 Dl
def shrD (s : Shr) : PD := .tuple [.int (s.1 : Int), .int (s.2.1 : Int), .int s.2.2]
def restS : Nat → Int → Int
  | 0, n => n
  | k + 1, n => restS k (n / 3 / 2 / 5)
def spShears (K : PySem.W.Frag) : Sp := fun vs H Q _ => ∃ (a : Addr) (n : Int) (k : Nat), vs = [.ref a, .int (k : Int)] ∧ H a = some (.lst [.int n]) ∧ k ≤ 3 ∧ ∀ (H' : Hp) (p : Addr) (ws : List V), H' a = some (.lst [.int (restS k n)]) → (∀ b o, b ≠ a → H b = some o → H' b = some o) → H p = none → p ≠ a → H' p = some (.lst ws) → DpAll K H' ws ((shM k n).map shrD) → Q (.ref p) H'
/-- the frozen part behind a call that changes one list and hands a new one back -/
def thawP (H0 H H' : Hp) (p : Addr) : Hp := fun b => if b = p then none else thaw H0 H H' b
theorem nol_shr : ∀ l : List Shr, NoL.NoLs (l.map shrD) = true
  | [] => rfl
  | s :: l => nol_shr l
section
variable {K : PySem.W.Frag} {F : Addr → Prop} {H0 H H' : Hp} {σ : L2.St} {Γ : Gm} {i : Nat} {a p : Addr} {xs ys : List PD} {us : List V}
theorem thawP_step (S : StD K F H0 H σ Γ) (hG : Γ[i]? = some (.own a xs)) (e : ∀ b o, b ≠ a → H b = some o → H' b = some o) (ha : H' a = some (.lst us)) (hd : DpAll K H0 us ys) (hp : H p = none) : Step (IsOwn Γ) H0 H (thawP H0 H H' p) H' ∧ StD K F (thawP H0 H H' p) H' σ (Γ.set i (.own a ys)) := by
  obtain ⟨q1, q2, ws, q3, q4⟩ := S.own i a xs hG
  have ne : ∀ b o, H0 b = some o → b ≠ a ∧ b ≠ p ∧ H b = some o := fun b o h => ⟨(fun z => by rw [z, q2] at h; cases h), (fun z => by rw [z] at h; rw [S.ex p o h] at hp; cases hp), S.ex b o h⟩
  have im : Ex H0 (thawP H0 H H' p) := fun b o h => by
    obtain ⟨n1, n2, n3⟩ := ne b o h
    unfold thawP thaw
    rw [if_neg n2, h]
    exact e b o n1 n3
  have ex : Ex (thawP H0 H H' p) H' := fun b o h => by
    unfold thawP at h
    by_cases z : b = p
    · rw [if_pos z] at h; cases h
    · rw [if_neg z] at h
      exact thaw_ex b o h
  have off : ∀ b zs, H b = some (.lst zs) → H0 b = none → thawP H0 H H' p b = none := fun b zs hb h0 => by
    unfold thawP
    by_cases z : b = p
    · rw [if_pos z]
    · rw [if_neg z]; exact thaw_off h0 hb
  have dm : ∀ b, H b ≠ none → H' b ≠ none := fun b hb => by
    by_cases z : b = a
    · rw [z, ha]; exact fun z => nomatch z
    · cases q : H b with
      | none => exact absurd q hb
      | some o => rw [e b o z q]; exact fun z => nomatch z
  have S2 : StD K F (thawP H0 H H' p) H' σ (Γ.set i (.own a ys)) :=
    { len := by rw [List.length_set]; exact S.len
      ex := ex
      dat := fun j x h => by
        by_cases z : i = j
        · subst z
          have l : i < Γ.length := (List.getElem?_eq_some_iff.mp hG).1
          rw [List.getElem?_set_self (by exact l)] at h
          cases h
        · rw [List.getElem?_set_ne z] at h
          obtain ⟨v, r1, r2⟩ := S.dat j x h
          exact ⟨v, r1, dp_ex im _ _ r2⟩
      own := fun j b zs h => by
        by_cases z : i = j
        · subst z
          have l : i < Γ.length := (List.getElem?_eq_some_iff.mp hG).1
          rw [List.getElem?_set_self (by exact l)] at h
          cases h
          exact ⟨q1, off _ _ q3 q2, us, ha, dpa_ex im _ _ hd⟩
        · rw [List.getElem?_set_ne z] at h
          obtain ⟨r1, r2, vs, r3, r4⟩ := S.own j b zs h
          have nb : b ≠ a := fun q => by subst q; exact z (S.inj i j b xs zs hG h)
          exact ⟨r1, off _ _ r3 r2, vs, e b _ nb r3, dpa_ex im _ _ r4⟩
      inj := fun j k b zs ws h1 h2 => by
        have f : ∀ {j : Nat} {zs}, (Γ.set i (.own a ys))[j]? = some (.own b zs) → ∃ zs', Γ[j]? = some (.own b zs') := fun {j zs} hj => by
          by_cases z : i = j
          · subst z
            have l : i < Γ.length := (List.getElem?_eq_some_iff.mp hG).1
            rw [List.getElem?_set_self (by exact l)] at hj
            cases hj
            exact ⟨xs, hG⟩
          · rw [List.getElem?_set_ne z] at hj
            exact ⟨zs, hj⟩
        obtain ⟨z1, g1⟩ := f h1
        obtain ⟨z2, g2⟩ := f h2
        exact S.inj j k b z1 z2 g1 g2
      fre := fun b h => S.fre b (by
        cases q : H b with
        | none => rfl
        | some o => exact absurd h (dm b (by rw [q]; exact fun z => nomatch z))) }
  exact ⟨⟨im, fun b o hn hb => e b o (fun z => hn ⟨i, xs, by rw [z]; exact hG⟩) hb, dm, fun b zs _ hb h0 => off b zs hb h0⟩, S2⟩
theorem thawP_dpa (e : ∀ b o, b ≠ a → H b = some o → H' b = some o) (h0 : ∃ zs, H a = some (.lst zs)) (ha : H' a = some (.lst us)) {ws : List V} (hp : H' p = some (.lst ws)) {ds : List PD} {vs : List V} (n : NoL.NoLs ds = true) (h : DpAll K H' vs ds) : DpAll K (thawP H0 H H' p) vs ds := by
  refine dpa_off (q := fun b => b = p ∨ (H0 b = none ∧ ∃ xs, H b = some (.lst xs))) (fun b o hq ho => ?_) (fun b o hn ho => ?_) ds vs n h
  · rcases hq with rfl | ⟨_, xs, hx⟩
    · rw [hp] at ho; exact ⟨ws, (Option.some.inj ho).symm⟩
    · by_cases z : b = a
      · subst z
        rw [ha] at ho; exact ⟨us, (Option.some.inj ho).symm⟩
      · rw [e b _ z hx] at ho
        exact ⟨xs, (Option.some.inj ho).symm⟩
  · unfold thawP
    rw [if_neg fun z => hn (.inl z)]
    unfold thaw
    split
    · rename_i h1 h2
      exact absurd (.inr ⟨h1, _, h2⟩) hn
    · exact ho
end
section
variable {P : Program} {w : World} {K : PySem.W.Frag} {mg : Str → Option Value} {base : Heap}
/-! ### _law_shears -/
theorem sc_shears : FnScope ["_law_pile", "_law_many", "_law_found", "_law_k", "_law_place"] ["_law_pile", "_law_many"] (defScope s__law_shears) := ⟨rfl, rfl, rfl, by decide +kernel, rfl, by decide +kernel, by decide +kernel⟩
theorem shr_one (n : Int) : PyData.tuple [.int (n % 3), .int ((n % 3 + 1 + n / 3 % 2) % 3), .int (n / 3 / 2 % 5 - 2)] = shrD (shOne n) := by
  have e1 : ((n % 3).toNat : Int) = n % 3 := by omega
  have e2 : (((n % 3 + 1 + n / 3 % 2) % 3).toNat : Int) = (n % 3 + 1 + n / 3 % 2) % 3 := by omega
  show _ = PyData.tuple [.int ((n % 3).toNat : Int), .int (((n % 3 + 1 + n / 3 % 2) % 3).toNat : Int), .int (n / 3 / 2 % 5 - 2)]
  rw [e1, e2]
theorem c_shears (D : DF P w K mg "_law_shears" s__law_shears) (B : Bi mg) (C1 : Cal P w K mg base CX0 40 "_law_take" ["_law_pile", "_law_size"] (spTake K)) : Cal P w K mg base CX0 41 "_law_shears" ["_law_pile", "_law_many"] (spShears K) := by
  obtain ⟨f, fd, Fd, hm⟩ := D.ex
  refine ⟨f, fd, hm, Fd.kp, Fd.bindsN (fun _ _ _ _ _ _ us hl => match us, hl with | [_, _], _ => rfl), Fd.ok sc_shears (fun vs H Q E h => ?_) fun cdv A outer s H vs Q E hr h => ?_⟩
  · obtain ⟨a, n, m, rfl, _⟩ := h
    rfl
  · obtain ⟨a, n, k, rfl, hH, hk, kk⟩ := h
    refine ⟨_, PSs.nox pssW, ?_⟩
    have nd := sc_shears.nd
    have sx : SX (cxOf CX0 P w K mg base ["_law_pile", "_law_many", "_law_found", "_law_k", "_law_place"] "_law_shears" (defScope s__law_shears) f cdv A outer s H E).nox (fun b => H b = none) E (defBody s__law_shears) (startO ["_law_pile", "_law_many", "_law_found", "_law_k", "_law_place"] a n (k : Int)) (.retN a [.int (restS k n)] ((shM k n).map shrD)) := by
      refine sx_setL 2 nd (el_lst ea_nil) fun p fp no => ?_
      refine sx_forE (vs := [3]) (fun Γ => ∃ s3 s4, Γ = [.own a [.int (restS k n)], .d (.int (k : Int)), .own p ((shM k n).map shrD), s3, s4]) PassesOwn.never rfl (ix_rng1 B.range (ex_var 1) ⟨by omega, by omega⟩) (pg_name (i := 3) nd rfl (.inl rfl)) ?_ fun Γ' hΓ => ?_
      · refine forx_rngP (n := (k : Int).toNat) (fun j Γ => ∃ (L : List Shr) (m : Int) (s3 s4 : Sl), Γ = [.own a [.int m], .d (.int (k : Int)), .own p (L.map shrD), s3, s4] ∧ L ++ shM (k - j) m = shM k n ∧ restS (k - j) m = restS k n ∧ L.length = j) ⟨[], n, .no, .no, rfl, rfl, rfl, rfl⟩ ?_ ?_
        · rintro j Γ hj ⟨L, m, s3, s4, rfl, e1, e2, e3⟩
          have hjk : j < k := by omega
          have ek : k - j = (k - (j + 1)) + 1 := by omega
          rw [ek] at e1 e2
          refine ⟨_, [.own a [.int (m / 3 / 2 / 5)], .d (.int (k : Int)), .own p ((L ++ [shOne m]).map shrD), .d (.int (j : Int)), .d (.int (m % 3))], eg_name, Sub.setD, ?_, L ++ [shOne m], m / 3 / 2 / 5, _, _, rfl, ?_, e2, by rw [List.length_append, e3]; rfl⟩
          · refine sx_cons (s1_set 4 nd (ex_take (n := m) (m := 3) (a := a) 0 C1 hr)) ?_
            rw [List.map_append]
            exact sx_one (s1_app 2 (ex_is (ex_tup (ea_cons (ex_var 4) (ea_cons (ex_mod (ex_add (ex_add (ex_var 4) ex_int) (ex_take (n := m / 3) (m := 2) (a := a) 0 C1 hr)) ex_int (by decide)) (ea_cons (ex_sub (ex_take (n := m / 3 / 2) (m := 5) (a := a) 0 C1 hr) ex_int) ea_nil)))) (shr_one m)) rfl rfl (by rw [List.length_map, e3]; omega))
          · rw [List.append_assoc]; exact e1
        · rintro Γ' ⟨L, m, s3, s4, rfl, e1, e2, e3⟩
          have z : k - (k : Int).toNat = 0 := by omega
          rw [z] at e1 e2
          refine ⟨s3, s4, ?_⟩
          rw [← e1, ← e2]
          show _ = [.own a [.int m], .d (.int (k : Int)), .own p ((L ++ []).map shrD), s3, s4]
          rw [List.append_nil]
      · obtain ⟨s3, s4, rfl⟩ := hΓ
        exact sx_stop (s1_retN 2 0 fp)
    refine sx.run _ _ _ H (startO_std hH) fun p H0' H' vs us st fp hp0 hp hvs hpa _ ha hus ex => ?_
    rw [dpa_int1 hus] at ha
    exact kk H' p vs ha (fun b o hb h => st.fr b o (fun z => hb (startO_own z)) h) fp hpa hp (dpa_ex ex _ _ hvs)
theorem el_shears {X : Cx} {F : Addr → Prop} {Γ Γ1 : Gm} {n n0 : Int} {k : Nat} {a : Addr} {nm : Str} {e : Expr} {p1 p2 pos : Pos} (i : Nat) (C : Cal X.prog X.w X.K X.mg X.base CX0 41 "_law_shears" ["_law_pile", "_law_many"] (spShears X.K)) (hr : Room 41 X.A) (hk : k ≤ 3) (hG : Γ[i]? = some (.own a [.int n0])) (h : EX X F e Γ Γ1 (.int (k : Int))) (hG1 : Γ1[i]? = some (.own a [.int n]))
    (hN : X.N[i]? = some nm := by rfl) (hv : Vis X.env.scope nm := by first | exact Or.inl rfl | exact Or.inr (Or.inl rfl) | exact Or.inr (Or.inr rfl)) (hd : (nm == ("__debug__" : Str)) = false := by decide) (hcd : (nm == ("__classdict__" : Str)) = false := by decide) (hg : Gl X "_law_shears" := by rfl)
    (he : starEach [.Name nm p2, e] X.env = (false, eval (.Name nm p2) X.env) :: starEach [e] X.env := by rfl) (he2 : starEach [e] X.env = (false, eval e X.env) :: starEach [] X.env := by rfl) (hpl : (backTo pos (starEach [e] X.env)).any (·.1) = false := by rfl) :
    EL X F (.Call (.Name "_law_shears" p1) [.Name nm p2, e] [] pos) Γ (Γ1.set i (.own a [.int (restS k n)])) ((shM k n).map shrD) := by
  obtain ⟨f, fd, hmg, hk1, hb, Fn⟩ := C.ex
  refine el_of (pe_call Fn hr hg hmg hk1 hb .nil pass0 (pa_cons (pe_var hN hv hd hcd) (pa_cons peW pa_nil he2) he) (by decide) he hpl) ⟨(Sub.setOwn hG1).trans h.sub, fun H0 σ H S Q kk => ?_⟩
  obtain ⟨q1, _⟩ := S.own i a _ hG
  refine ⟨_, q1, h.run H0 σ H S _ fun v A0 A sa S1 hv => ?_⟩
  cases hv
  obtain ⟨r1, r2, vs, r3, r4⟩ := S1.own i a _ hG1
  rw [dpa_int1 r4] at r3
  refine ⟨a, n, k, rfl, r3, hk, fun H' p ws ha hb hp hpa hpw hws => ?_⟩
  obtain ⟨s2, S2⟩ := thawP_step (p := p) S1 hG1 hb ha (ys := [.int (restS k n)]) (.cons (.int _) .nil) hp
  have hpH : H p = none := by
    cases q : H p with
    | none => rfl
    | some o => exact absurd hp (sa.dm p (by rw [q]; exact fun z => nomatch z))
  refine kk p _ H' ws (sa.trans s2 (sub_old h.sub)) S2 (S1.fre p hp) hpH (by unfold thawP; rw [if_pos rfl]) ?_ hpw (thawP_dpa hb ⟨_, r3⟩ ha hpw (nol_shr _) hws)
  rintro ⟨j, zs, hj⟩
  by_cases z : i = j
  · subst z
    have l : i < Γ1.length := (List.getElem?_eq_some_iff.mp hG1).1
    rw [List.getElem?_set_self (by exact l)] at hj
    cases hj
    exact hpa rfl
  · rw [List.getElem?_set_ne z] at hj
    obtain ⟨_, _, vs2, t3, _⟩ := S1.own j p zs hj
    rw [hp] at t3
    cases t3
end
end Rs


set_option maxRecDepth 100000
set_option maxHeartbeats 4000000
namespace Rs
open PySem PySem.Spec PyProof.Rows L2 Dl
theorem dpa_rev {K : PySem.W.Frag} {H : Hp} : ∀ {vs : List V} {ds : List PD}, DpAll K H vs ds → DpAll K H vs.reverse ds.reverse
  | _, [], h => by cases h; exact .nil
  | _, d :: ds, h => by
    cases h with
    | cons h1 h2 =>
      rw [List.reverse_cons, List.reverse_cons]
      exact dpa_app (dpa_rev h2) (dpa_one h1)
theorem el_rev {X : Cx} {F : Addr → Prop} {Γ Γ1 : Gm} {e : Expr} {ds : List PD} {k : Nat} {p1 p2 p3 pos : Pos} (ha : EX X F e Γ Γ1 (.list ds)) : EL X F (.Subscript e (.Slice none none (some (.UnaryOp .USub (.Constant (.int 1) k p1) p2)) p3) pos) Γ Γ1 ds.reverse :=
  el_of (pe_revL peW) ⟨ha.sub, fun H0 σ H S Q k => ha.run H0 σ H S _ fun v A0 A sa S1 hv => by
    cases hv with
    | @lst p xs _ hp hd =>
      refine ⟨p, xs, rfl, Evl.ex_l S1.ex hp, fun l hl => ?_⟩
      obtain ⟨s2, S2⟩ := lay_lst (ow := IsOwn Γ1) (vs := xs.reverse) S1 hl
      have hpH : H l = none := by
        cases q : H l with
        | none => rfl
        | some o => exact absurd hl (sa.dm l (by rw [q]; exact fun z => nomatch z))
      exact k l _ _ _ (sa.trans s2 (sub_old ha.sub)) S2 (S1.fre l hl) hpH (Evl.fresh_back S1.ex hl) (not_own S1 hl) upd_same (dpa_rev hd)⟩
/-- a slot is forgotten -/
theorem sx_drop {X : Cx} {F : Addr → Prop} {E : XK} {Γ : Gm} {o : Out} {st : List Stmt} (i : Nat) (h : SX X F E st (Γ.set i .no) o) : SX X F E st Γ o :=
  ⟨h.sub.trans Sub.setNo, fun D H0 σ H S k => by
    have es : ∃ w : Option V, σ.set i w = σ := by
      cases q : σ[i]? with
      | none => exact ⟨none, List.set_eq_of_length_le (List.getElem?_eq_none_iff.mp q)⟩
      | some w =>
        refine ⟨w, List.ext_getElem? fun j => ?_⟩
        by_cases z : i = j
        · subst z
          have l : i < σ.length := (List.getElem?_eq_some_iff.mp q).1
          rw [q]
          exact List.getElem?_set_self l
        · exact List.getElem?_set_ne z
    obtain ⟨w, es⟩ := es
    have S2 := S.drop (i := i) (o := w)
    rw [es] at S2
    exact h.run D H0 σ H S2 (CtD.on k Step.refl fun b q => .inl (Sub.setNo b q))⟩
def vL (p : V3) : List PD := [.int p.x, .int p.y, .int p.z]
theorem vL_get (p : V3) {i : Nat} (h : i < 3) : (vL p)[i]? = some (.int (p.get i)) := by
  match i, h with
  | 0, _ => rfl
  | 1, _ => rfl
  | 2, _ => rfl
theorem vL_set (p : V3) {i : Nat} {v : Int} (h : i < 3) : (vL p).set i (.int v) = vL (p.set i v) := by
  match i, h with
  | 0, _ => rfl
  | 1, _ => rfl
  | 2, _ => rfl
theorem sh_lt {s : Shr} (h : ShOk s) : s.1 < 3 ∧ s.2.1 < 3 := by
  rcases h.ij with ⟨a, b⟩ | ⟨a, b⟩ | ⟨a, b⟩ | ⟨a, b⟩ | ⟨a, b⟩ | ⟨a, b⟩ <;> (rw [a, b]; decide)
theorem forx_shP {K : PySem.W.Frag} {F : Addr → Prop} {E : XK} {tb : TS} {q : Addr} {A0 A1 A2 A3 B8 B9 B10 B11 : Sl} {Pq : Gm → Prop} {p : V3} {ls : List Shr} (hok : ∀ s ∈ ls, ShOk s) (hl : ls.length ≤ 3) (hp : Vb p 1)
    (he : ∀ s5 s6 s7, Pq [A0, A1, A2, A3, .own q (vL (ls.foldl (fun p s => applyS s p) p)), s5, s6, s7, B8, B9, B10, B11])
    (st : ∀ (s : Shr) (p : V3), ShOk s → Vb p 27 → SR K F E tb [A0, A1, A2, A3, .own q (vL p), .d (.int (s.1 : Int)), .d (.int (s.2.1 : Int)), .d (.int s.2.2), B8, B9, B10, B11] (.nx [A0, A1, A2, A3, .own q (vL (applyS s p)), .d (.int (s.1 : Int)), .d (.int (s.2.1 : Int)), .d (.int s.2.2), B8, B9, B10, B11])) :
    ∃ Γ', Pq Γ' ∧ ForX K F E (gTup K 3 (gNames [5, 6, 7])) [5, 6, 7] tb [A0, A1, A2, A3, .own q (vL p), .no, .no, .no, B8, B9, B10, B11] (ls.map shrD) (.nx Γ') := by
  have go : ∀ (ls : List Shr) (p : V3) (m : Nat) (s5 s6 s7 : Sl), (∀ s ∈ ls, ShOk s) → (∀ j k, s5 ≠ .own j k) → (∀ j k, s6 ≠ .own j k) → (∀ j k, s7 ≠ .own j k) → Vb p m → m * 3 ^ ls.length ≤ 27 → ∃ s5' s6' s7', ForX K F E (gTup K 3 (gNames [5, 6, 7])) [5, 6, 7] tb [A0, A1, A2, A3, .own q (vL p), s5, s6, s7, B8, B9, B10, B11] (ls.map shrD) (.nx [A0, A1, A2, A3, .own q (vL (ls.foldl (fun p s => applyS s p) p)), s5', s6', s7', B8, B9, B10, B11]) := by
    intro ls
    induction ls with
    | nil => exact fun p m s5 s6 s7 _ _ _ _ _ _ => ⟨s5, s6, s7, .nil⟩
    | cons s ls ih =>
      intro p m s5 s6 s7 ok n5 n6 n7 hv hm
      have o1 := ok s List.mem_cons_self
      have e : m * 3 ^ (s :: ls).length = 3 * m * 3 ^ ls.length := by rw [List.length_cons, Nat.pow_succ]; grind
      rw [e] at hm
      have l1 : 1 ≤ 3 ^ ls.length := Nat.one_le_pow _ _ (by decide)
      have l2 : 3 * m ≤ 27 := Nat.le_trans (Nat.le_mul_of_pos_right _ l1) hm
      obtain ⟨t5, t6, t7, f⟩ := ih (applyS s p) (3 * m) (.d (.int (s.1 : Int))) (.d (.int (s.2.1 : Int))) (.d (.int s.2.2)) (fun t ht => ok t (List.mem_cons_of_mem _ ht)) (fun _ _ z => nomatch z) (fun _ _ z => nomatch z) (fun _ _ z => nomatch z) (vb_apply o1 hv) hm
      exact ⟨t5, t6, t7, .next (Γt := [A0, A1, A2, A3, .own q (vL p), .d (.int (s.1 : Int)), .d (.int (s.2.1 : Int)), .d (.int s.2.2), B8, B9, B10, B11]) (eg_tup (js := [5, 6, 7]) rfl) (sub_sets [5, 6, 7] [.int (s.1 : Int), .int (s.2.1 : Int), .int s.2.2] [A0, A1, A2, A3, .own q (vL p), s5, s6, s7, B8, B9, B10, B11]) (st s p o1 (vb_mono hv (by omega))) f⟩
  obtain ⟨s5, s6, s7, f⟩ := go ls p 1 .no .no .no hok (fun _ _ z => nomatch z) (fun _ _ z => nomatch z) (fun _ _ z => nomatch z) hp (by
    rw [Nat.one_mul]
    exact Nat.pow_le_pow_right (n := 3) (by decide) hl)
  exact ⟨_, he s5 s6 s7, f⟩
def worthF (x : C6) : PD → PD
  | .list [.int a, .int b, .int c] => .int (worth x ⟨a, b, c⟩)
  | d => d
theorem vb_bi {p : V3} (h : Vb p 27) : VBI p 99 := ⟨⟨Nat.lt_of_le_of_lt h.1 (by decide)⟩, ⟨Nat.lt_of_le_of_lt h.2.1 (by decide)⟩, ⟨Nat.lt_of_le_of_lt h.2.2 (by decide)⟩⟩
theorem sub_ends {A B C D : PD} {q : Addr} {ys zs : List PD} {s4 : Sl} : OSub (.nx [.d A, .d B, .own q zs, .d C, .d D, .no, .no, .no, .no, .no, .no, .no]) [.d A, .d B, .own q ys, .d C, s4, .no, .no, .no, .no, .no, .no, .no] := fun b ⟨j, ws, e⟩ => by
  match j, e with
  | 0, e => cases e
  | 1, e => cases e
  | 2, e => cases e; exact ⟨2, ys, rfl⟩
  | 3, e => cases e
  | 4, e => cases e
  | 5, e => cases e
  | 6, e => cases e
  | 7, e => cases e
  | 8, e => cases e
  | 9, e => cases e
  | 10, e => cases e
  | 11, e => cases e
section
variable {P : Program} {w : World} {K : PySem.W.Frag} {mg : Str → Option Value} {base : Heap}
/-! ### _law_moved_curve -/
def R_moved (xs : List PD) (r : Rs) : Prop := ∃ (l : List Shr) (x : C6), (∀ s ∈ l, ShOk s) ∧ l.length ≤ 3 ∧ Cb x 1000 ∧ x.det ≠ 0 ∧ xs = [.list (l.map shrD), cD x] ∧ r = .ok (cD (kept (moveC x l)))
abbrev nMoved : List Str := ["_law_shears_here", "_law_curve", "_law_ends", "_law_unit", "_law_point", "_law_i", "_law_j", "_law_a", "_law_six", "_law_one", "_law_other", "_law_end"]
theorem sc_moved : FnScope nMoved ["_law_shears_here", "_law_curve"] (defScope s__law_moved_curve) := ⟨rfl, rfl, rfl, by decide +kernel, rfl, by decide +kernel, by decide +kernel⟩
theorem c_moved (D : DF P w K mg "_law_moved_curve" s__law_moved_curve) (B : Bi mg) (C1 : Cal P w K mg base CX0 40 "_law_worth" ["_law_curve", "_law_point"] (spD K R_worth)) (C2 : Cal P w K mg base CX0 41 "_law_both" ["_law_curve", "_law_one", "_law_other"] (spD K R_both)) (C3 : Cal P w K mg base CX0 41 "_law_kept" ["_law_some"] (spD K R_lkept)) :
    Cal P w K mg base CX0 42 "_law_moved_curve" ["_law_shears_here", "_law_curve"] (spD K R_moved) := by
  refine cal_of D sc_moved (fun xs r ⟨_, _, _, _, _, _, h, _⟩ => by rw [h]; rfl) (fun _ _ _ _ _ _ us hl => match us, hl with | [_, _], _ => rfl) fun f cdv A outer s H E xs r hr h => ?_
  obtain ⟨l, x, hok, hl, hb, hd, rfl, rfl⟩ := h
  refine ⟨.ret (cD (kept (moveC x l))), rfl, ?_⟩
  have nd := sc_moved.nd
  have cbx : CB x := cb_mono hb (by decide)
  have pb : ∀ u : V3, Vb u 1 → Vb (ptM l u) 27 := fun u hu => vb_mono (vb_pt l u 1 hok hu) (by rw [Nat.mul_one]; exact Nat.pow_le_pow_right (n := 3) (by decide) hl)
  refine sx_setL 2 nd (el_lst ea_nil) fun q fq no => ?_
  refine sx_forE (vs := [3]) (fun Γ => ∃ s3 s4, Γ = [.d (.list (l.map shrD)), .d (cD x), .own q [vD (ptM l ⟨1, 0, 0⟩), vD (ptM l ⟨0, 1, 0⟩), vD (ptM l ⟨0, 0, 1⟩)], s3, s4, .no, .no, .no, .no, .no, .no, .no]) PassesOwn.never rfl (ix_new (el_lst (xs := [.tuple (vL ⟨1, 0, 0⟩), .tuple (vL ⟨0, 1, 0⟩), .tuple (vL ⟨0, 0, 1⟩)]) (ea_cons (ex_tup (ea_cons ex_int (ea_cons ex_int (ea_cons ex_int ea_nil)))) (ea_cons (ex_tup (ea_cons ex_int (ea_cons ex_int (ea_cons ex_int ea_nil)))) (ea_cons (ex_tup (ea_cons ex_int (ea_cons ex_int (ea_cons ex_int ea_nil)))) ea_nil))))) (pg_name (i := 3) nd rfl (.inl rfl)) ?_ (fun Γ' hΓ => ?_)
  · have st : ∀ (u : V3) (ys : List PD) (s4 : Sl), Vb u 1 → ys.length ≤ 10 → SX (cxOf CX0 P w K mg base nMoved "_law_moved_curve" (defScope s__law_moved_curve) f cdv A outer s H E).nox (fun b => H b = none) E (forBody ((defBody s__law_moved_curve).drop 1)) [.d (.list (l.map shrD)), .d (cD x), .own q ys, .d (.tuple (vL u)), s4, .no, .no, .no, .no, .no, .no, .no] (.nx [.d (.list (l.map shrD)), .d (cD x), .own q (ys ++ [vD (ptM l u)]), .d (.tuple (vL u)), .d (vD (ptM l u)), .no, .no, .no, .no, .no, .no, .no]) := fun u ys s4 hu hy => by
      refine sx_setL 4 nd (el_list (ds := vL u) B.list (ex_var 3) (.inl rfl)) (ho := sub_ends) fun t ft nt => ?_
      refine sx_forE (vs := [5, 6, 7]) (fun Γ => ∃ s5 s6 s7, Γ = [.d (.list (l.map shrD)), .d (cD x), .own q ys, .d (.tuple (vL u)), .own t (vL (ptM l u)), s5, s6, s7, .no, .no, .no, .no]) PassesOwn.never rfl (ix_new (el_rev (ex_var 0))) (pg_tup (t := gNames [5, 6, 7]) (n := 3) rfl (pns_cons 5 nd (pns_cons 6 nd (pns_cons 7 nd pns_nil))).h) ?_ (fun Γ' hΓ => ?_)
      · rw [← List.map_reverse]
        refine forx_shP (p := u) (ls := l.reverse) (fun s hs => hok s (List.mem_reverse.mp hs)) (by rw [List.length_reverse]; exact hl) hu (fun s5 s6 s7 => ⟨s5, s6, s7, ?_⟩) (fun s p ho hp => ?_)
        · rw [List.foldl_reverse]
          rfl
        · obtain ⟨l1, l2⟩ := sh_lt ho
          have b1 : Bd s.2.2 3 := Nat.lt_of_le_of_lt ho.k (by decide)
          have b2 : Bd (p.get s.2.1) 10 := Nat.lt_of_le_of_lt (hp.get _) (by decide)
          have g1 := vL_get p l1
          have g2 := vL_get p l2
          have es := vL_set p (v := p.get s.1 - s.2.2 * p.get s.2.1) l1
          have e0 : applyS s p = p.set s.1 (p.get s.1 - s.2.2 * p.get s.2.1) := rfl
          rw [e0, ← es]
          exact sx_one (s1_setO (j := (s.1 : Int)) (p := t) (xs := vL p) 4 (ex_sub (ex_ixO (x := .int (p.get s.1)) (ds := vL p) (o := t) (i := (s.1 : Int)) 4 (ex_var 5) rfl rfl (by rw [Int.toNat_natCast]; exact g1) (by omega)) (ex_mul (ex_var 7) (ex_ixO (x := .int (p.get s.2.1)) (ds := vL p) (o := t) (i := (s.2.1 : Int)) 4 (ex_var 6) rfl rfl (by rw [Int.toNat_natCast]; exact g2) (by omega)) b1 b2 (by decide))) (ex_var 5) rfl ⟨by omega, by rw [Int.toNat_natCast]; exact l1⟩)
      · obtain ⟨s5, s6, s7, rfl⟩ := hΓ
        refine sx_freeze 4 rfl (sx_drop 5 (sx_drop 6 (sx_drop 7 ?_)))
        exact sx_one (s1_app 2 (ex_var 4) rfl rfl (by omega))
    exact ⟨_, ⟨_, _, rfl⟩, .next eg_name Sub.setD (st ⟨1, 0, 0⟩ [] .no ⟨by decide, by decide, by decide⟩ (by decide)) (.next eg_name Sub.setD (st ⟨0, 1, 0⟩ _ _ ⟨by decide, by decide, by decide⟩ (Nat.le_of_ble_eq_true rfl)) (.next eg_name Sub.setD (st ⟨0, 0, 1⟩ _ _ ⟨by decide, by decide, by decide⟩ (Nat.le_of_ble_eq_true rfl)) .nil))⟩
  · obtain ⟨s3, s4, rfl⟩ := hΓ
    have v1 := pb ⟨1, 0, 0⟩ ⟨by decide, by decide, by decide⟩
    have v2 := pb ⟨0, 1, 0⟩ ⟨by decide, by decide, by decide⟩
    have v3 := pb ⟨0, 0, 1⟩ ⟨by decide, by decide, by decide⟩
    have fin := six_move hok x
    have dm : (moveC x l).det ≠ 0 := by rw [det_move l _ hok]; exact hd
    generalize ptM l ⟨1, 0, 0⟩ = e1 at *
    generalize ptM l ⟨0, 1, 0⟩ = e2 at *
    generalize ptM l ⟨0, 0, 1⟩ = e3 at *
    refine sx_freeze 2 rfl ?_
    refine sx_setLc (own := [("_law_end", 11)]) (g := gName 11) (ys := [.int (worth x e1), .int (worth x e2), .int (worth x e3)]) 8 rfl nd (ix_lstD (ds := [vD e1, vD e2, vD e3]) (ex_var 2)) (blkOk_by (N := nMoved) (sc := defScope s__law_moved_curve) (by decide +kernel))
      (fun _ _ _ _ _ => pg_name (i := 11) nd rfl (Or.inl rfl)) (lcx_map (worthF x) rfl _ fun d hd => ?_) fun b fb nb => ?_
    · have : ∃ v, d = vD v ∧ Vb v 27 := by
        simp only [List.mem_cons, List.not_mem_nil, or_false] at hd
        rcases hd with rfl | rfl | rfl
        · exact ⟨_, rfl, v1⟩
        · exact ⟨_, rfl, v2⟩
        · exact ⟨_, rfl, v3⟩
      obtain ⟨v, rfl, hv⟩ := this
      exact ⟨_, eg_name, Sub.setD, ev_U Sub.refl fun s' H' C cl fp => ex_call C1 (hr.mono (by decide)) (ea_cons (z := false) (ex_var 1) (ea_cons (ex_var 11) ea_nil)) ⟨x, v, cbx, (vb_bi hv).mono (by decide), rfl, rfl⟩, rfl⟩
    · refine sx_forE (vs := [9, 10]) (fun Γ => ∃ s9 s10, Γ = [.d (.list (l.map shrD)), .d (cD x), .d (.list [vD e1, vD e2, vD e3]), s3, s4, .no, .no, .no, .own b ((moveC x l).l.map PyData.int), s9, s10, .no]) PassesOwn.never rfl (ix_new (el_lst (xs := [.tuple [.int 1, .int 2], .tuple [.int 0, .int 2], .tuple [.int 0, .int 1]]) (ea_cons (ex_tup (ea_cons ex_int (ea_cons ex_int ea_nil))) (ea_cons (ex_tup (ea_cons ex_int (ea_cons ex_int ea_nil))) (ea_cons (ex_tup (ea_cons ex_int (ea_cons ex_int ea_nil))) ea_nil))))) (pg_tup (t := gNames [9, 10]) (n := 2) rfl (pns_cons 9 nd (pns_cons 10 nd pns_nil)).h) ?_ (fun Γ' hΓ => ?_)
      · have st : ∀ (i j : Nat) (u v : V3) (ys : List PD), [vD e1, vD e2, vD e3][i]? = some (vD u) → [vD e1, vD e2, vD e3][j]? = some (vD v) → Vb u 27 → Vb v 27 → ys.length ≤ 10 → SX (cxOf CX0 P w K mg base nMoved "_law_moved_curve" (defScope s__law_moved_curve) f cdv A outer s H E).nox (fun b => H b = none) E (forBody ((defBody s__law_moved_curve).drop 3)) [.d (.list (l.map shrD)), .d (cD x), .d (.list [vD e1, vD e2, vD e3]), s3, s4, .no, .no, .no, .own b ys, .d (.int (i : Int)), .d (.int (j : Int)), .no] (.nx [.d (.list (l.map shrD)), .d (cD x), .d (.list [vD e1, vD e2, vD e3]), s3, s4, .no, .no, .no, .own b (ys ++ [.int (both x u v)]), .d (.int (i : Int)), .d (.int (j : Int)), .no]) := fun i j u v ys hi hj hu hv hy =>
          sx_one (s1_app 8 (ex_call C2 hr (ea_cons (z := false) (ex_var 1) (ea_cons (ex_ixL (x := vD u) (ex_var 2) (ex_var 9) (by rw [Int.toNat_natCast]; exact hi) (by omega)) (ea_cons (ex_ixL (x := vD v) (ex_var 2) (ex_var 10) (by rw [Int.toNat_natCast]; exact hj) (by omega)) ea_nil))) ⟨x, u, v, cbx, vb_bi hu, vb_bi hv, rfl, rfl⟩) rfl rfl (by omega))
        refine ⟨[.d (.list (l.map shrD)), .d (cD x), .d (.list [vD e1, vD e2, vD e3]), s3, s4, .no, .no, .no, .own b ((sixM x e1 e2 e3).l.map PyData.int), .d (.int 0), .d (.int 1), .no], ⟨.d (.int 0), .d (.int 1), by rw [fin]⟩, ?_⟩
        exact .next (eg_tup (js := [9, 10]) rfl) (sub_sets [9, 10] _ _) (st 1 2 e2 e3 _ rfl rfl v2 v3 (Nat.le_of_ble_eq_true rfl)) (.next (eg_tup (js := [9, 10]) rfl) (sub_sets [9, 10] _ _) (st 0 2 e1 e3 _ rfl rfl v1 v3 (Nat.le_of_ble_eq_true rfl)) (.next (eg_tup (js := [9, 10]) rfl) (sub_sets [9, 10] _ _) (st 0 1 e1 e2 _ rfl rfl v1 v2 (Nat.le_of_ble_eq_true rfl)) .nil))
      · obtain ⟨s9, s10, rfl⟩ := hΓ
        exact sx_stop (s1_ret (ex_call C3 hr (ea_consO (e := .Constant .none 0 ⟨0, 0, 0, 0⟩) 8 ea_nil) ⟨moveC x l, gcdL_pos (some_ne dm), ⟨_, .inr rfl, rfl⟩, rfl⟩))
end
end Rs


set_option maxRecDepth 100000
set_option maxHeartbeats 1000000
namespace Rs
open PySem PySem.Spec PyProof.Rows L2 Dl
theorem lcx_dig {K : PySem.W.Frag} {F : Addr → Prop} {te : TE} (Γf : Int → Gm) (hz : ∀ m, setNo (Γf m) [9] = Γf m) (step : ∀ (m : Int) (d : PD), ∃ Γt Γu, EvG K F (gName 9) [9] d (Γf m) Γt ∧ Sub Γt (Γf m) ∧ EvE K F te Γt Γu (.int (m % 7 - 3)) ∧ setNo Γu [9] = Γf (m / 7)) :
    ∀ (k : Nat) (ds : List PD) (m : Int), ds.length = k → LcX K F (gName 9) tYes te [9] (Γf m) ds (Γf (restM k m)) ((digM k m).map PyData.int)
  | 0, [], m, _ => .nil
  | 0, _ :: _, _, h => nomatch h
  | k + 1, [], _, h => nomatch h
  | k + 1, d :: ds, m, h => by
    obtain ⟨Γt, Γu, h1, h2, h3, h4⟩ := step m d
    refine .cons (Γt := Γt) (Γu := Γu) (by rw [hz]; exact h1) (by rw [hz]; exact h2) et_yes h3 ?_
    rw [h4]
    exact lcx_dig Γf hz step k ds (m / 7) (Nat.succ.inj h)
theorem laid_call {s t : Int} {l : List Int} (hs : s.natAbs ≤ 5) (ht : t.natAbs ≤ 5) (h : Lb l 200) : R_laid [.int s, .int t, .list (l.map PyData.int)] (.ok (cD (laidM s t l))) := by
  obtain ⟨h1, h2⟩ := h
  have b : ∀ z : Int, z.natAbs ≤ 200 → Bd z 50 := fun z hz => Nat.lt_of_le_of_lt hz (by decide)
  match l, h1 with
  | [u, v, w, x, y], _ => exact ⟨s, t, u, v, w, x, y, b s (by omega), b t (by omega), b u (h2 u (by simp)), b v (h2 v (by simp)), b w (h2 w (by simp)), b x (h2 x (by simp)), b y (h2 y (by simp)), rfl, rfl⟩
theorem map_set (l : List Int) (i : Nat) (v : Int) : (l.map PyData.int).set i (.int v) = (l.set i v).map PyData.int := by
  induction l generalizing i with
  | nil => rfl
  | cons a l ih =>
    cases i with
    | zero => rfl
    | succ i => exact congrArg (fun z => PyData.int a :: z) (ih i)
theorem emod_nat (m : Int) : PyData.int (m % 4) = PyData.int ((m % 4).toNat : Int) := congrArg PyData.int (by omega)
theorem okM_iff {x : C6} : okM x = true ↔ x.det ≠ 0 ∧ (numb outL (dualM x)).disc ≠ 0 := by
  unfold okM
  rw [Bool.and_eq_true]
  constructor
  · exact fun h => ⟨of_decide_eq_true h.1, of_decide_eq_true h.2⟩
  · exact fun h => ⟨decide_eq_true h.1, decide_eq_true h.2⟩
def ifThen : List Stmt → List Stmt
  | .If _ t _ _ :: _ => t
  | _ => []
def ifTest : List Stmt → Expr
  | .If c _ _ _ :: _ => c
  | _ => .Constant .none 0 ⟨0, 0, 0, 0⟩
def headS : List Stmt → Stmt
  | st :: _ => st
  | [] => .Pass ⟨0, 0, 0, 0⟩
section
variable {P : Program} {w : World} {K : PySem.W.Frag} {mg : Str → Option Value} {base : Heap}
/-! ### _law_curves -/
def R_lcurves (xs : List PD) (r : Rs) : Prop := ∃ n : Int, xs = [.int n] ∧ r = .ok (.tuple [cD (outC n), cD (innC n)])
abbrev nCur : List Str := ["_law_cell_here", "_law_pile", "_law_s", "_law_t", "_law_some", "_law_shears_here", "_law_outer", "_law_six", "_law_turn", "_law_k"]
theorem sc_lcurves : FnScope nCur ["_law_cell_here"] (defScope s__law_curves) := ⟨rfl, rfl, rfl, by decide +kernel, rfl, by decide +kernel, by decide +kernel⟩
theorem c_lcurves (D : DF P w K mg "_law_curves" s__law_curves) (B : Bi mg) (Ct : Cal P w K mg base CX0 40 "_law_take" ["_law_pile", "_law_size"] (spTake K)) (Cs : Cal P w K mg base CX0 41 "_law_shears" ["_law_pile", "_law_many"] (spShears K)) (Cl : Cal P w K mg base CX0 40 "_law_laid" ["_law_s", "_law_t", "_law_some"] (spD K R_laid))
    (Cd : Cal P w K mg base CX0 40 "_law_det" ["_law_curve"] (spD K R_ldet)) (Cu : Cal P w K mg base CX0 42 "_law_dual" ["_law_curve"] (spD K R_ldual)) (Cp : Cal P w K mg base CX0 42 "_law_is_pair" ["_law_outer", "_law_inner"] (spD K R_lpair)) (Cm : Cal P w K mg base CX0 42 "_law_moved_curve" ["_law_shears_here", "_law_curve"] (spD K R_moved)) :
    Cal P w K mg base CX0 43 "_law_curves" ["_law_cell_here"] (spD K R_lcurves) := by
  refine cal_of D sc_lcurves (fun xs r ⟨_, h, _⟩ => by rw [h]; rfl) (fun _ _ _ _ _ _ us hl => match us, hl with | [_], _ => rfl) fun f cdv A outer sh H E xs r hr h => ?_
  obtain ⟨n, rfl, rfl⟩ := h
  refine ⟨.ret (.tuple [cD (outC n), cD (innC n)]), rfl, ?_⟩
  have nd := sc_lcurves.nd
  have hr40 := hr.mono (show 40 ≤ 42 by decide)
  have hr41 := hr.mono (show 41 ≤ 42 by decide)
  have hr42 := hr
  have outb : Cb outL 1000 := cbm outL_b (by decide)
  obtain ⟨bs, bt⟩ := st_b n
  refine sx_setL 1 nd (el_lst (ea_cons (ex_var 0) ea_nil)) fun a fa na => ?_
  refine sx_cons (s1_set (x := .int (sC n)) 2 nd (ex_sub (ex_take (n := n) (m := 9) (a := a) 1 Ct hr40) ex_int)) ?_
  refine sx_cons (s1_set (x := .int (tC0 n)) 3 nd (ex_sub (ex_take (n := n / 9) (m := 9) (a := a) 1 Ct hr40) ex_int)) ?_
  -- behind the digits
  have rest : SX (cxOf CX0 P w K mg base nCur "_law_curves" (defScope s__law_curves) f cdv A outer sh H E).nox (fun b => H b = none) E ((defBody s__law_curves).drop 4) [.d (.int n), .own a [.int (n3C n)], .d (.int (sC n)), .d (.int (tC n)), .no, .no, .no, .no, .no, .no] (.ret (.tuple [cD (outC n), cD (innC n)])) := by
    have lb0 := dig_lb (n3C n)
    have hsix : sixC n = sixL (sC n) (tC n) (digM 5 (n3C n)) := rfl
    have hsh : shC n = shM (restM 5 (n3C n) % 4).toNat (restM 5 (n3C n) / 4) := rfl
    refine sx_setLc (own := [("_law_k", 9)]) (g := gName 9) (ys := (digM 5 (n3C n)).map PyData.int) 4 rfl nd (ix_rng1 (n := 5) B.range ex_int ⟨by decide, by decide⟩) (blkOk_by (N := nCur) (sc := defScope s__law_curves) (by decide +kernel))
      (fun _ _ _ _ _ => pg_name (i := 9) nd rfl (Or.inl rfl)) (lcx_dig (fun m => [.d (.int n), .own a [.int m], .d (.int (sC n)), .d (.int (tC n)), .no, .no, .no, .no, .no, .no]) (fun m => rfl) (fun m d => ?_) 5 _ (n3C n) rfl) fun b fb nb => ?_
    · exact ⟨_, [.d (.int n), .own a [.int (m / 7)], .d (.int (sC n)), .d (.int (tC n)), .no, .no, .no, .no, .no, .d d], eg_name, Sub.setD, ev_U (Sub.setOwn (Γ := [.d (.int n), .own a [.int m], .d (.int (sC n)), .d (.int (tC n)), .no, .no, .no, .no, .no, .d d]) (i := 1) rfl) fun s' H' C cl fp => ex_sub (ex_take (n := m) (m := 7) (a := a) 1 Ct hr40) ex_int, rfl⟩
    · generalize hl0 : digM 5 (n3C n) = l0 at *
      generalize restM 5 (n3C n) = m5 at *
      refine sx_setL 5 nd (el_shears (n0 := m5) (n := m5 / 4) (k := (m5 % 4).toNat) (a := a) 1 Cs hr41 (by omega) rfl (ex_is (ex_take (n := m5) (m := 4) (a := a) 1 Ct hr40) (emod_nat m5)) rfl) fun p fp np => ?_
      refine sx_freeze 5 rfl ?_
      rw [← hsh]
      refine sx_cons (s1_set (x := cD outL) 6 nd (ex_is (ex_tup (ea_cons ex_int (ea_cons ex_int (ea_cons ex_int (ea_cons ex_int (ea_cons (ex_neg ex_int) (ea_cons ex_int ea_nil))))))) rfl)) ?_
      refine sx_cons (s1_set (x := cD (laidM (sC n) (tC n) l0)) 7 nd (ex_call Cl hr40 (ea_cons (z := false) (ex_var 2) (ea_cons (ex_var 3) (ea_consO (e := .Constant .none 0 ⟨0, 0, 0, 0⟩) 4 ea_nil))) (laid_call bs bt (lb_mono lb0 (by decide))))) ?_
      generalize restS (m5 % 4).toNat (m5 / 4) = m6
      have fin : ∀ s8, SX (cxOf CX0 P w K mg base nCur "_law_curves" (defScope s__law_curves) f cdv A outer sh H E).nox (fun b => H b = none) E ((defBody s__law_curves).drop 10) [.d (.int n), .own a [.int m6], .d (.int (sC n)), .d (.int (tC n)), .own b (((List.range 12).foldl (turnM (sC n) (tC n)) l0).map PyData.int), .d (.list ((shC n).map shrD)), .d (cD outL), .d (cD (sixC n)), s8, .no] (.ret (.tuple [cD (outC n), cD (innC n)])) := fun s8 => by
        obtain ⟨k1, k2, k3⟩ := sixC_ok n
        have kb := sixC_b n
        exact sx_stop (s1_ret (ex_tup (ea_cons (ex_call Cm hr42 (ea_cons (z := false) (ex_var 5) (ea_cons (ex_var 6) ea_nil)) ⟨shC n, outL, shC_ok n, shC_len n, outb, outL_det, rfl, rfl⟩) (ea_cons (ex_call Cm hr42 (ea_cons (z := false) (ex_var 5) (ea_cons (ex_call Cu hr42 (ea_cons (z := false) (ex_var 7) ea_nil) ⟨sixC n, cb_mono kb (by decide), gcdL_pos (some_ne (dual_ne k1)), rfl, rfl⟩) ea_nil)) ⟨shC n, dualM (sixC n), shC_ok n, shC_len n, cbm (dualM_b kb) (by decide), k2, rfl, rfl⟩) ea_nil))))
      refine sx_forE (vs := [8]) (fun Γ => ∃ s8, Γ = [.d (.int n), .own a [.int m6], .d (.int (sC n)), .d (.int (tC n)), .own b (((List.range 12).foldl (turnM (sC n) (tC n)) l0).map PyData.int), .d (.list ((shC n).map shrD)), .d (cD outL), .d (cD (laidM (sC n) (tC n) ((List.range 12).foldl (turnM (sC n) (tC n)) l0))), s8, .no]) PassesOwn.never rfl (ix_rng1 (n := 12) B.range ex_int ⟨by decide, by decide⟩) (pg_name (i := 8) nd rfl (.inl rfl)) ?_ (fun Γ' hΓ => ?_)
      · refine forx_rngP (n := (12 : Int).toNat) (fun j Γ => ∃ s8, Γ = [.d (.int n), .own a [.int m6], .d (.int (sC n)), .d (.int (tC n)), .own b (((List.range j).foldl (turnM (sC n) (tC n)) l0).map PyData.int), .d (.list ((shC n).map shrD)), .d (cD outL), .d (cD (laidM (sC n) (tC n) ((List.range j).foldl (turnM (sC n) (tC n)) l0))), s8, .no]) ⟨.no, rfl⟩ ?_ fun Γ' h => h
        rintro j Γ hj ⟨s8, rfl⟩
        have hj12 : j < 12 := hj
        have lb := lb_turns (s := sC n) (t := tC n) lb0 j (by omega)
        have e12 : (List.range (j + 1)).foldl (turnM (sC n) (tC n)) l0 = turnM (sC n) (tC n) ((List.range j).foldl (turnM (sC n) (tC n)) l0) j := by rw [List.range_succ, List.foldl_append]; rfl
        rw [e12]
        generalize (List.range j).foldl (turnM (sC n) (tC n)) l0 = l at *
        have kb : Cb (laidM (sC n) (tC n) l) 18 := laid_bits bs bt (lb_mono lb (by omega))
        have dub : Cb (dualM (laidM (sC n) (tC n) l)) 1000 := cbm (dualM_b kb) (by decide)
        have cbX : CB (laidM (sC n) (tC n) l) := cb_mono kb (by decide)
        have lb2 := lb_turn (k := j) lb (sC n) (tC n)
        refine ⟨_, [.d (.int n), .own a [.int m6], .d (.int (sC n)), .d (.int (tC n)), .own b ((turnM (sC n) (tC n) l j).map PyData.int), .d (.list ((shC n).map shrD)), .d (cD outL), .d (cD (laidM (sC n) (tC n) (turnM (sC n) (tC n) l j))), .d (.int (j : Int)), .no], eg_name, Sub.setD, ?_, ⟨_, rfl⟩⟩
        by_cases c : okM (laidM (sC n) (tC n) l) = true
        · obtain ⟨d0, d1⟩ := okM_iff.mp c
          have e : turnM (sC n) (tC n) l j = l := by unfold turnM; rw [if_pos c]
          rw [e]
          exact sx_one (s1_ifF (tx_w (wx_orF (tx_is (tx_cmp op_eq rd_eqI (ex_call Cd hr40 (ea_cons (z := false) (ex_var 7) ea_nil) ⟨(laidM (sC n) (tC n) l), cbX, .inl rfl, rfl⟩) ex_int) (decide_eq_false d0)) (wx_or1 (tx_is (tx_not (tx_val (ex_call Cp hr42 (ea_cons (z := false) (ex_var 6) (ea_cons (ex_call Cu hr42 (ea_cons (z := false) (ex_var 7) ea_nil) ⟨(laidM (sC n) (tC n) l), cbX, gcdL_pos (some_ne (dual_ne d0)), rfl, rfl⟩) ea_nil)) ⟨outL, dualM (laidM (sC n) (tC n) l), outb, dub, rfl, rfl⟩))) (by rw [decide_eq_false d1]; rfl))))) sx_nil)
        · have e : turnM (sC n) (tC n) l j = l.set (j % 5) (l.getD (j % 5) 0 + 1 + (j : Int)) := by unfold turnM; rw [if_neg c]
          have hj5 : ((j : Int) % 5).toNat = j % 5 := by omega
          have lt5 : j % 5 < l.length := by rw [lb.1]; omega
          have fix : SX (cxOf CX0 P w K mg base nCur "_law_curves" (defScope s__law_curves) f cdv A outer sh H E).nox (fun b => H b = none) E (ifThen (forBody ((defBody s__law_curves).drop 8))) [.d (.int n), .own a [.int m6], .d (.int (sC n)), .d (.int (tC n)), .own b (l.map PyData.int), .d (.list ((shC n).map shrD)), .d (cD outL), .d (cD (laidM (sC n) (tC n) l)), .d (.int (j : Int)), .no]
              (.nx [.d (.int n), .own a [.int m6], .d (.int (sC n)), .d (.int (tC n)), .own b ((turnM (sC n) (tC n) l j).map PyData.int), .d (.list ((shC n).map shrD)), .d (cD outL), .d (cD (laidM (sC n) (tC n) (turnM (sC n) (tC n) l j))), .d (.int (j : Int)), .no]) := by
            have st : S1 (cxOf CX0 P w K mg base nCur "_law_curves" (defScope s__law_curves) f cdv A outer sh H E).nox (fun b => H b = none) E (headS (ifThen (forBody ((defBody s__law_curves).drop 8)))) [.d (.int n), .own a [.int m6], .d (.int (sC n)), .d (.int (tC n)), .own b (l.map PyData.int), .d (.list ((shC n).map shrD)), .d (cD outL), .d (cD (laidM (sC n) (tC n) l)), .d (.int (j : Int)), .no] (.nx [.d (.int n), .own a [.int m6], .d (.int (sC n)), .d (.int (tC n)), .own b ((l.map PyData.int).set ((j : Int) % 5).toNat (.int (l.getD (j % 5) 0 + 1 + (j : Int)))), .d (.list ((shC n).map shrD)), .d (cD outL), .d (cD (laidM (sC n) (tC n) l)), .d (.int (j : Int)), .no]) :=
              s1_setO (p := b) (xs := l.map PyData.int) (j := (j : Int) % 5) 4 (ex_add (ex_add (ex_ixO (x := .int (l.getD (j % 5) 0)) (ds := l.map PyData.int) (o := b) (i := (j : Int) % 5) 4 (ex_mod (ex_var 8) ex_int (by decide)) rfl rfl (by rw [hj5]; exact map_getD _ 0 l _ lt5) (by omega)) ex_int) (ex_var 8)) (ex_mod (ex_var 8) ex_int (by decide)) rfl ⟨by omega, by rw [List.length_map, hj5]; exact lt5⟩
            rw [hj5, map_set, ← e] at st
            exact sx_cons st (sx_one (s1_set (x := cD (laidM (sC n) (tC n) (turnM (sC n) (tC n) l j))) 7 nd (ex_call Cl hr40 (ea_cons (z := false) (ex_var 2) (ea_cons (ex_var 3) (ea_consO (e := .Constant .none 0 ⟨0, 0, 0, 0⟩) 4 ea_nil))) (laid_call bs bt (lb_mono lb2 (by omega))))))
          by_cases d0 : (laidM (sC n) (tC n) l).det = 0
          · exact sx_one (s1_ifT (tx_w (wx_orT (tx_is (tx_cmp op_eq rd_eqI (ex_call Cd hr40 (ea_cons (z := false) (ex_var 7) ea_nil) ⟨(laidM (sC n) (tC n) l), cbX, .inl rfl, rfl⟩) ex_int) (decide_eq_true d0)))) fix)
          · have d1 : (numb outL (dualM (laidM (sC n) (tC n) l))).disc = 0 := Classical.byContradiction fun z => c (okM_iff.mpr ⟨d0, z⟩)
            exact sx_one (s1_ifT (tx_w (wx_orF (tx_is (tx_cmp op_eq rd_eqI (ex_call Cd hr40 (ea_cons (z := false) (ex_var 7) ea_nil) ⟨(laidM (sC n) (tC n) l), cbX, .inl rfl, rfl⟩) ex_int) (decide_eq_false d0)) (wx_or1 (tx_is (tx_not (tx_val (ex_call Cp hr42 (ea_cons (z := false) (ex_var 6) (ea_cons (ex_call Cu hr42 (ea_cons (z := false) (ex_var 7) ea_nil) ⟨(laidM (sC n) (tC n) l), cbX, gcdL_pos (some_ne (dual_ne d0)), rfl, rfl⟩) ea_nil)) ⟨outL, dualM (laidM (sC n) (tC n) l), outb, dub, rfl, rfl⟩))) (by rw [decide_eq_true d1]; rfl))))) fix)
      · obtain ⟨s8, rfl⟩ := hΓ
        have lb := lb_mono (lb_turns (s := sC n) (t := tC n) lb0 12 (by decide)) (show 3 + 12 * 12 ≤ 200 by decide)
        have kb : Cb (laidM (sC n) (tC n) ((List.range 12).foldl (turnM (sC n) (tC n)) l0)) 18 := laid_bits bs bt lb
        have hs6 : sixC n = if okM (laidM (sC n) (tC n) ((List.range 12).foldl (turnM (sC n) (tC n)) l0)) = true then laidM (sC n) (tC n) ((List.range 12).foldl (turnM (sC n) (tC n)) l0) else sixFall := by
          rw [hsix]; rfl
        generalize hL : (List.range 12).foldl (turnM (sC n) (tC n)) l0 = l at *
        have dub : Cb (dualM (laidM (sC n) (tC n) l)) 1000 := cbm (dualM_b kb) (by decide)
        have cbX : CB (laidM (sC n) (tC n) l) := cb_mono kb (by decide)
        by_cases c : okM (laidM (sC n) (tC n) l) = true
        · obtain ⟨d0, d1⟩ := okM_iff.mp c
          rw [if_pos c] at hs6
          have fin2 := fin s8
          rw [hs6] at fin2
          exact sx_cons (s1_ifF (tx_w (wx_orF (tx_is (tx_cmp op_eq rd_eqI (ex_call Cd hr40 (ea_cons (z := false) (ex_var 7) ea_nil) ⟨(laidM (sC n) (tC n) l), cbX, .inl rfl, rfl⟩) ex_int) (decide_eq_false d0)) (wx_or1 (tx_is (tx_not (tx_val (ex_call Cp hr42 (ea_cons (z := false) (ex_var 6) (ea_cons (ex_call Cu hr42 (ea_cons (z := false) (ex_var 7) ea_nil) ⟨(laidM (sC n) (tC n) l), cbX, gcdL_pos (some_ne (dual_ne d0)), rfl, rfl⟩) ea_nil)) ⟨outL, dualM (laidM (sC n) (tC n) l), outb, dub, rfl, rfl⟩))) (by rw [decide_eq_false d1]; rfl))))) sx_nil) fin2
        · rw [if_neg c] at hs6
          have fin2 := fin s8
          rw [hs6] at fin2
          have fix : SX (cxOf CX0 P w K mg base nCur "_law_curves" (defScope s__law_curves) f cdv A outer sh H E).nox (fun b => H b = none) E (ifThen ((defBody s__law_curves).drop 9)) [.d (.int n), .own a [.int m6], .d (.int (sC n)), .d (.int (tC n)), .own b (l.map PyData.int), .d (.list ((shC n).map shrD)), .d (cD outL), .d (cD (laidM (sC n) (tC n) l)), s8, .no]
              (.nx [.d (.int n), .own a [.int m6], .d (.int (sC n)), .d (.int (tC n)), .own b (l.map PyData.int), .d (.list ((shC n).map shrD)), .d (cD outL), .d (cD sixFall), s8, .no]) :=
            sx_one (s1_set (x := cD sixFall) 7 nd (ex_call Cl hr40 (ea_cons (z := false) ex_int (ea_cons ex_int (ea_consL (el_lst (xs := ([0, 1, 1, 0, 1] : List Int).map PyData.int) (ea_cons ex_int (ea_cons ex_int (ea_cons ex_int (ea_cons ex_int (ea_cons ex_int ea_nil)))))) ea_nil))) (laid_call (by decide) (by decide) ⟨rfl, by decide⟩)))
          by_cases d0 : (laidM (sC n) (tC n) l).det = 0
          · exact sx_cons (s1_ifT (tx_w (wx_orT (tx_is (tx_cmp op_eq rd_eqI (ex_call Cd hr40 (ea_cons (z := false) (ex_var 7) ea_nil) ⟨(laidM (sC n) (tC n) l), cbX, .inl rfl, rfl⟩) ex_int) (decide_eq_true d0)))) fix) fin2
          · have d1 : (numb outL (dualM (laidM (sC n) (tC n) l))).disc = 0 := Classical.byContradiction fun z => c (okM_iff.mpr ⟨d0, z⟩)
            exact sx_cons (s1_ifT (tx_w (wx_orF (tx_is (tx_cmp op_eq rd_eqI (ex_call Cd hr40 (ea_cons (z := false) (ex_var 7) ea_nil) ⟨(laidM (sC n) (tC n) l), cbX, .inl rfl, rfl⟩) ex_int) (decide_eq_false d0)) (wx_or1 (tx_is (tx_not (tx_val (ex_call Cp hr42 (ea_cons (z := false) (ex_var 6) (ea_cons (ex_call Cu hr42 (ea_cons (z := false) (ex_var 7) ea_nil) ⟨(laidM (sC n) (tC n) l), cbX, gcdL_pos (some_ne (dual_ne d0)), rfl, rfl⟩) ea_nil)) ⟨outL, dualM (laidM (sC n) (tC n) l), outb, dub, rfl, rfl⟩))) (by rw [decide_eq_true d1]; rfl))))) fix) fin2
  by_cases c : sC n = tC0 n
  · have e3 : n3C n = n / 9 / 9 / 2 := by unfold n3C; rw [if_pos c]
    have test : TX (cxOf CX0 P w K mg base nCur "_law_curves" (defScope s__law_curves) f cdv A outer sh H E).nox (fun b => H b = none) (ifTest ((defBody s__law_curves).drop 3)) [.d (.int n), .own a [.int (n / 9 / 9)], .d (.int (sC n)), .d (.int (tC0 n)), .no, .no, .no, .no, .no, .no] [.d (.int n), .own a [.int (n / 9 / 9 / 2)], .d (.int (sC n)), .d (.int (tC0 n)), .no, .no, .no, .no, .no, .no] (decide (n / 9 / 9 % 2 = 0)) :=
      tx_w (wx_andT (tx_is (tx_cmp op_eq rd_eqI (ex_var 2) (ex_var 3)) (decide_eq_true c)) (wx_and1 (tx_cmp op_eq rd_eqI (ex_take (n := n / 9 / 9) (m := 2) (a := a) 1 Ct hr40) ex_int)))
    rw [e3] at rest
    by_cases c2 : n / 9 / 9 % 2 = 0
    · have e4 : tC n = sC n + 1 := by unfold tC; rw [if_pos c, if_pos c2]
      rw [e4] at rest
      exact sx_cons (s1_ifT (tx_is test (decide_eq_true c2)) (sx_one (s1_set (x := .int (sC n + 1)) 3 nd (ex_add (ex_var 2) ex_int)))) rest
    · have e4 : tC n = tC0 n := by unfold tC; rw [if_pos c, if_neg c2]
      rw [e4] at rest
      exact sx_cons (s1_ifF (tx_is test (decide_eq_false c2)) sx_nil) rest
  · have e3 : n3C n = n / 9 / 9 := by unfold n3C; rw [if_neg c]
    have e4 : tC n = tC0 n := by unfold tC; rw [if_neg c]
    rw [e3, e4] at rest
    exact sx_cons (s1_ifF (tx_w (wx_andF (tx_is (tx_cmp op_eq rd_eqI (ex_var 2) (ex_var 3)) (decide_eq_false c)))) sx_nil) rest
end
end Rs


set_option maxRecDepth 100000
set_option maxHeartbeats 1000000
namespace Rs
open PySem PySem.Spec PyProof.Rows L2 Dl
theorem tri_mono {a b : Nat} (h : a ≤ b) : tri a ≤ tri b := by
  induction b with
  | zero =>
    have : a = 0 := by omega
    subst this
    exact Nat.le_refl _
  | succ b ih =>
    by_cases c : a = b + 1
    · subst c; exact Nat.le_refl _
    · have := ih (by omega)
      show tri a ≤ b + tri b
      omega
theorem chb_of {o i : C6} {B n T : Nat} (ho : Cb o B) (hi : Cb i B) (co : IsCurve o) (ci : IsCurve i) (p : IsPair o i) (hT : tri n ≤ T) (hB : B ≤ 10000) (h1 : (2 * (3 * B + 5) + 5) * T + 1 ≤ 45000) (h2 : 3 * B + 5 + 3 + 3 * ((2 * (3 * B + 5) + 5) * T) ≤ 140000) (h3 : 3 * B + 6 ≤ 18000) : ChB o i n := by
  have bn := numb_bits ho hi
  have w0 : (numb o i).w ≠ 0 := ci.1
  have r0 : (numb o i).r ≠ 0 := co.1
  have ok := cub_ok co ci p
  obtain ⟨g, hh, k⟩ := cub_bits w0 bn
  refine ⟨cbm ho hB, cbm hi hB, co, ci, p, ⟨g.mono h3, hh.mono h3, k.mono h3⟩, fun j hj => ?_⟩
  have t1 : tri j ≤ T := Nat.le_trans (tri_mono hj) hT
  have m1 : (2 * (3 * B + 5) + 5) * tri j ≤ (2 * (3 * B + 5) + 5) * T := Nat.mul_le_mul_left _ t1
  cases e : mul (cub o i) P1 j with
  | none => trivial
  | some q =>
    obtain ⟨t, y⟩ := q
    obtain ⟨b1, b2⟩ := spot_bits w0 r0 ok bn e
    exact ⟨b1.mono (by omega), b2.mono (by omega)⟩
structure PairOk (o i : C6) : Prop where
  co : IsCurve o
  ci : IsCurve i
  p : IsPair o i
  bo : Cb o 63
  bi : Cb i 63
theorem PairOk.chb {o i : C6} (h : PairOk o i) {n : Nat} (hn : n ≤ 12) : ChB o i n := chb_of (B := 63) (T := 66) h.bo h.bi h.co h.ci h.p (tri_mono hn) (by decide) (by decide) (by decide) (by decide)
theorem far_chb {o i F : C6} (h : PairOk o i) {a : Nat} (hF : chordM o i a = some F) {n T : Nat} (hT : tri n ≤ T) (hB : 65 + 393 * tri a ≤ 5960) (h1 : (2 * (3 * (65 + 393 * tri a) + 5) + 5) * T + 1 ≤ 45000) (h2 : 3 * (65 + 393 * tri a) + 5 + 3 + 3 * ((2 * (3 * (65 + 393 * tri a) + 5) + 5) * T) ≤ 140000) : ChB o F n := by
  obtain ⟨t0, y0, m, C⟩ := chord_facts h.co h.ci h.p hF
  obtain ⟨cF, pF⟩ := chord_curve h.co h.ci h.p hF
  obtain ⟨b1, _⟩ := spot_bits (n := numb o i) h.ci.1 h.co.1 (cub_ok h.co h.ci h.p) (numb_bits h.bo h.bi) C.at_
  have bF : Cb F (65 + 393 * tri a) := by
    rw [C.isF]
    exact kept_bits (cbm (chordX_bits h.bo h.bi b1) (by omega))
  exact chb_of (cbm h.bo (by omega)) bF h.co cF pF hT (by omega) h1 h2 (by omega)
structure Steps2 (a b : Nat) : Prop where
  a2 : 2 ≤ a
  a6 : a ≤ 6
  b2 : 2 ≤ b
  ab : a * b ≤ 12
theorem far_ok {o i F : C6} (h : PairOk o i) {a b n : Nat} (s : Steps2 a b) (hF : chordM o i a = some F) (hn : n ≤ b) : ChB o F n := by
  obtain ⟨a2, a6, b2, ab⟩ := s
  have ha : a = 2 ∨ a = 3 ∨ a = 4 ∨ a = 5 ∨ a = 6 := by omega
  rcases ha with rfl | rfl | rfl | rfl | rfl
  · exact far_chb h hF (T := 15) (tri_mono (show n ≤ 6 by omega)) (by decide) (by decide) (by decide)
  · exact far_chb h hF (T := 6) (tri_mono (show n ≤ 4 by omega)) (by decide) (by decide) (by decide)
  · exact far_chb h hF (T := 3) (tri_mono (show n ≤ 3 by omega)) (by decide) (by decide) (by decide)
  · exact far_chb h hF (T := 1) (tri_mono (show n ≤ 2 by omega)) (by decide) (by decide) (by decide)
  · exact far_chb h hF (T := 1) (tri_mono (show n ≤ 2 by omega)) (by decide) (by decide) (by decide)
theorem ring_ok {n : Int} {o : C6} (h : ringM n = some o) : PairOk o innR := by
  have ok := ok_ring n
  unfold okB at ok
  unfold ringM at h
  rw [h] at ok
  simp only [Bool.and_eq_true] at ok
  obtain ⟨_, _, h1, h2, h3⟩ := ok
  exact ⟨of_decide_eq_true h1, inn_ok.1, of_decide_eq_true h3, of_decide_eq_true h2, cbm inn_ok.2 (by decide)⟩
theorem cur_ok (n : Int) : PairOk (outC n) (innC n) := by
  obtain ⟨h1, h2, h3, h4, h5⟩ := curvesC_ok n
  exact ⟨h1, h2, h3, h4, h5⟩
def pair2 (o i : C6) : PD := .tuple [cD o, cD i]
theorem eqv_cD (x : C6) : PyData.eqv (cD x) (cD x) = true := eqv_self rfl
theorem shaped_c6O : ∀ x, SeqAt.shaped (c6O x) = true
  | some _ => rfl
  | none => rfl
theorem eqv_c6O : ∀ x, PyData.eqv (c6O x) (c6O x) = true
  | some _ => eqv_self rfl
  | none => eqv_self rfl
/-- a def that may raise, where it does not -/
theorem cal_calm {P : Program} {w : World} {K : PySem.W.Frag} {mg : Str → Option Value} {base : Heap} {n : Str} {ps : List Str} {k : Nat} {R R' : List PD → Rs → Prop} (C : Cal P w K mg base (L2.CX P w) k n ps (spD K R)) (h : ∀ xs r, R' xs r → R xs r ∧ ∃ d, r = .ok d) : Cal P w K mg base CX0 k n ps (spD K R') := by
  obtain ⟨f, fd, hm, hk, hb, Fn⟩ := C.ex
  have conv : ∀ {vs H Q E}, spD K R' vs H Q E → spD K R vs H Q (fun _ _ _ => False) := fun {vs H Q E} ⟨xs, o, h1, h2, h3⟩ => by
    obtain ⟨h4, d, rfl⟩ := h xs o h2
    exact ⟨xs, _, h1, h4, h3⟩
  refine ⟨f, fd, hm, hk, hb, fun vs H Q E q => Fn.len vs H Q _ (conv q), fun A outer s H args us vs Q E hr e0 bt va q => codeAny_mono (Fn.run A outer s H args us vs Q _ hr e0 bt va (conv q)) fun r s' hq => ?_⟩
  cases r with
  | error e =>
    obtain ⟨a, B, H', cls, d, _, _, _, _, _, _, _, hE⟩ := hq
    exact hE.elim
  | ok fl =>
    cases fl with
    | ret u => exact hq
    | _ => exact hq
def R_chord1 (xs : List PD) (r : Rs) : Prop := ∃ o i : C6, ChB o i 1 ∧ xs = [cD o, cD i, .int 1] ∧ r = .ok (cD i)
theorem chord1 {C : Addr} (xs : List PD) (r : Rs) (h : R_chord1 xs r) : R_chord C xs r ∧ ∃ d, r = .ok d := by
  obtain ⟨o, i, hb, rfl, rfl⟩ := h
  refine ⟨⟨o, i, 1, by decide, by decide, hb, rfl, ?_⟩, _, rfl⟩
  rw [chord_one hb.ci]
section
variable {P : Program} {w : World} {K : PySem.W.Frag} {mg : Str → Option Value} {base : Heap}
/-! ### law -/
def R_law (xs : List PD) (r : Rs) : Prop := ∃ ns : List Int, xs = [.list (ns.map PyData.int)] ∧ r = .ok (.bool true)
abbrev nLaw : List Str := ["_law_script", "_law_number", "_law_curves_here", "_law_ring_here", "_law_outer", "_law_inner", "_law_first", "_law_second", "_law_found"]
theorem sc_law : FnScope nLaw ["_law_script"] (defScope s_law) := ⟨rfl, rfl, rfl, by decide +kernel, rfl, by decide +kernel, by decide +kernel⟩
def tab3 : List (Int × Int) := [(2, 2), (2, 3), (3, 2)]
def ab2 (p : Int × Int) : PD := .tuple [.int p.1, .int p.2]
/-- the last def: of a function that is given -/
theorem fn_of {f0 : Addr} {fd : FuncData} {nm : Str} {st : Stmt} {N ps : List Str} {k : Nat} {R : List PD → Rs → Prop} (Fd : FunD K nm nm (defArgs st) (defBody st) (defScope st) [] [] f0 fd) (S : FnScope N ps (defScope st)) (len : ∀ xs r, R xs r → xs.length = ps.length)
    (body : ∀ (f : Addr) (cdv : Value) (A : Around) (outer : List Env) (s : Shared) (H : Hp) (E : XK) (xs : List PD) (r : Rs), Room k (A.deeper (envOfC nm (defScope st) s.heap.objs.size f cdv)) → R xs r →
      ∃ o, Dl.Fin o r ∧ SX (cxOf CX0 P w K mg base N nm (defScope st) f cdv A outer s H E).nox (fun b => H b = none) E (defBody st) (startG N xs) o) : FnOk P w K mg base CX0 (k + 1) f0 fd ps (spD K R) := by
  refine Fd.ok S (fun vs H Q E h => ?_) fun cdv A outer s H vs Q E hr h => ?_
  · obtain ⟨xs, o, h1, h2, _⟩ := h
    rw [dpa_len h1]
    exact len xs o h2
  · obtain ⟨xs, r, h1, h2, h3⟩ := h
    obtain ⟨o, hf, hs⟩ := body f0 cdv A outer s H E xs r hr h2
    exact ⟨_, PSs.nox pssW, fin_of rfl h1 h3 hf hs⟩
theorem c_law {f0 : Addr} {fd : FuncData} (D : FunD K "law" "law" (defArgs s_law) (defBody s_law) (defScope s_law) [] [] f0 fd) (C1 : Cal P w K mg base CX0 40 "_law_cell" ["_law_script", "_law_k"] (spD K R_cell)) (C2 : Cal P w K mg base CX0 47 "_law_ring" ["_law_cell_here"] (spD K R_ring)) (C3 : Cal P w K mg base CX0 43 "_law_curves" ["_law_cell_here"] (spD K R_lcurves))
    (C4 : Cal P w K mg base CX0 46 "chord_curve" ["outer", "inner", "steps"] (spD K R_chord1)) (C5 : Cal P w K mg base CX0 47 "_law_chord" ["_law_outer", "_law_inner", "_law_steps"] (spD K R_lchord)) (Cq : Cal P w K mg base CX0 45 "is_pair" ["outer", "inner"] (spD K R_isp)) :
    FnOk P w K mg base CX0 48 f0 fd ["_law_script"] (spD K R_law) := by
  refine fn_of D sc_law (fun xs r ⟨_, h, _⟩ => by rw [h]; rfl) fun f cdv A outer sh H E xs r hr h => ?_
  obtain ⟨ns, rfl, rfl⟩ := h
  refine ⟨.ret (.bool true), rfl, ?_⟩
  have nd := sc_law.nd
  have hu := units_of hr
  -- the end: two curves and two counts of steps
  have fin : ∀ (o i : C6) (a b : Nat) (n : Int) (g : Bool), PairOk o i → Steps2 a b → SX (cxOf CX0 P w K mg base nLaw "law" (defScope s_law) f cdv A outer sh H E).nox (fun b => H b = none) E ((defBody s_law).drop 9) [.d (.list (ns.map PyData.int)), .d (.int n), .d (pair2 o i), .d (.bool g), .d (cD o), .d (cD i), .d (.int (a : Int)), .d (.int (b : Int)), .no] (.ret (.bool true)) := by
    intro o i a b n g ok st
    have a2 := st.a2
    have a6 := st.a6
    have b2 := st.b2
    have ab := st.ab
    have b6 : b ≤ 6 := by
      have : 2 * b ≤ a * b := Nat.mul_le_mul_right b a2
      omega
    have ret : ∀ s8, SX (cxOf CX0 P w K mg base nLaw "law" (defScope s_law) f cdv A outer sh H E).nox (fun b => H b = none) E ((defBody s_law).drop 14) [.d (.list (ns.map PyData.int)), .d (.int n), .d (pair2 o i), .d (.bool g), .d (cD o), .d (cD i), .d (.int (a : Int)), .d (.int (b : Int)), s8] (.ret (.bool true)) := fun s8 =>
      sx_stop (s1_ret (ex_is (ex_cmp (op_eqD hu) (rd_eq (x := pair2 o i) (y := pair2 o i) rfl rfl) (ex_var 2) (ex_tup (ea_cons (ex_var 4) (ea_cons (ex_var 5) ea_nil)))) (congrArg PyData.bool (eqv_self rfl))))
    refine sx_cons (s1_ifF (tx_is (tx_cmp (op_neD hu) (rd_ne (x := cD i) (y := cD i) rfl rfl) (ex_call C4 (hr.mono (by decide)) (ea_cons (z := false) (ex_var 4) (ea_cons (ex_var 5) (ea_cons ex_int ea_nil))) ⟨o, i, ok.chb (by decide), rfl, rfl⟩) (ex_var 5)) (by rw [eqv_cD]; rfl)) sx_nil) ?_
    refine sx_cons (s1_set (x := c6O (chordM o i a)) 8 nd (ex_call C5 hr (ea_cons (z := false) (ex_var 4) (ea_cons (ex_var 5) (ea_cons (ex_var 6) ea_nil))) ⟨o, i, a, by omega, by omega, ok.chb (by omega), rfl, rfl⟩ (nol_c6O _))) ?_
    cases hF : chordM o i a with
    | none => exact sx_stop (s1_ifT (tx_is (tx_cmp op_isN rd_isN (ex_var 8) ex_non) rfl) (sx_stop (s1_ret (ex_is (ex_cmp (op_eqD hu) (rd_eq (x := pair2 o i) (y := pair2 o i) rfl rfl) (ex_var 2) (ex_tup (ea_cons (ex_var 4) (ea_cons (ex_var 5) ea_nil)))) (congrArg PyData.bool (eqv_self rfl))))))
    | some F =>
      obtain ⟨cF, pF⟩ := chord_curve ok.co ok.ci ok.p hF
      have f1 := far_ok ok st hF (show 1 ≤ b by omega)
      have fb := far_ok ok st hF (Nat.le_refl b)
      have law := chord_law ok.co ok.ci ok.p hF b
      refine sx_cons (s1_ifF (tx_is (tx_cmp op_isN rd_isN (ex_var 8) ex_non) rfl) sx_nil) ?_
      refine sx_cons (s1_ifF (tx_w (wx_orF (tx_is (tx_cmp op_notBl rd_notB (ex_call Cq (hr.mono (by decide)) (ea_cons (z := false) (ex_var 4) (ea_cons (ex_var 8) ea_nil)) ⟨o, F, cb_mono ok.bo (by decide), f1.bi, ok.co, cF, pF, rfl, rfl⟩) ex_bl) rfl)
        (wx_or1 (tx_is (tx_cmp (op_neD hu) (rd_ne (x := cD F) (y := cD F) rfl rfl) (ex_call C4 (hr.mono (by decide)) (ea_cons (z := false) (ex_var 4) (ea_cons (ex_var 8) (ea_cons ex_int ea_nil))) ⟨o, F, f1, rfl, rfl⟩) (ex_var 8)) (by rw [eqv_cD]; rfl))))) sx_nil) ?_
      have bA : Bd (a : Int) 4 := show (a : Int).natAbs < 2 ^ 4 by omega
      have bB : Bd (b : Int) 4 := show (b : Int).natAbs < 2 ^ 4 by omega
      refine sx_cons (s1_ifF (tx_is (tx_cmp (op_neD hu) (rd_ne (x := c6O (chordM o F b)) (y := c6O (chordM o i (a * b))) (shaped_c6O _) (shaped_c6O _)) (ex_call C5 hr (ea_cons (z := false) (ex_var 4) (ea_cons (ex_var 8) (ea_cons (ex_var 7) ea_nil))) ⟨o, F, b, by omega, by omega, fb, rfl, rfl⟩ (nol_c6O _))
        (ex_call C5 hr (ea_cons (z := false) (ex_var 4) (ea_cons (ex_var 5) (ea_cons (ex_is (ex_mul (ex_var 6) (ex_var 7) bA bB (by decide)) (congrArg PyData.int (Int.natCast_mul a b).symm)) ea_nil))) ⟨o, i, a * b, by have : 1 ≤ a * b := Nat.mul_pos (by omega) (by omega); omega, ab, ok.chb ab, rfl, rfl⟩ (nol_c6O _))) (by rw [law, eqv_c6O]; rfl)) sx_nil) (ret _)
  -- the steps of three
  have steps : ∀ (o i : C6) (m : Int), PairOk o i → SX (cxOf CX0 P w K mg base nLaw "law" (defScope s_law) f cdv A outer sh H E).nox (fun b => H b = none) E ((defBody s_law).drop 5) [.d (.list (ns.map PyData.int)), .d (.int m), .d (pair2 o i), .d (.bool false), .no, .no, .no, .no, .no] (.ret (.bool true)) ∧
      SX (cxOf CX0 P w K mg base nLaw "law" (defScope s_law) f cdv A outer sh H E).nox (fun b => H b = none) E ((defBody s_law).drop 5) [.d (.list (ns.map PyData.int)), .d (.int m), .d (pair2 o i), .d (.bool true), .no, .no, .no, .no, .no] (.ret (.bool true)) := by
    intro o i m ok
    have ht : ∀ j : Int, (tab3.map ab2)[(j % 3).toNat]? = some (ab2 (tab3.getD (j % 3).toNat (2, 2))) := fun j => map_getD ab2 (2, 2) tab3 _ (by show (j % 3).toNat < 3; omega)
    refine ⟨?_, ?_⟩
    · have hst : ∃ a b : Nat, tab3.getD (m / 200 % 3).toNat (2, 2) = ((a : Int), (b : Int)) ∧ Steps2 a b := by
        have h3 : m / 200 % 3 = 0 ∨ m / 200 % 3 = 1 ∨ m / 200 % 3 = 2 := by omega
        rcases h3 with h3 | h3 | h3 <;> rw [h3]
        · exact ⟨2, 2, rfl, by decide, by decide, by decide, by decide⟩
        · exact ⟨2, 3, rfl, by decide, by decide, by decide, by decide⟩
        · exact ⟨3, 2, rfl, by decide, by decide, by decide, by decide⟩
      obtain ⟨a, b, e, st⟩ := hst
      have ht2 := ht (m / 200)
      rw [e] at ht2
      refine sx_cons (s1_asg (x := pair2 o i) (ex_var 2) (gx_tup (js := [4, 5]) rfl (pns_cons 4 nd (pns_cons 5 nd pns_nil)))) ?_
      refine sx_cons (s1_set (x := .int (m / 200)) 1 nd (ex_fdiv (ex_var 1) ex_int ⟨by decide, by decide⟩)) ?_
      refine sx_cons (s1_asg (x := .tuple [.int (a : Int), .int (b : Int)]) (ex_ixN (i := m / 200 % 3) (el_lst (xs := tab3.map ab2) (ea_cons (ex_tup (ea_cons ex_int (ea_cons ex_int ea_nil))) (ea_cons (ex_tup (ea_cons ex_int (ea_cons ex_int ea_nil))) (ea_cons (ex_tup (ea_cons ex_int (ea_cons ex_int ea_nil))) ea_nil)))) (ex_mod (ex_var 1) ex_int (by decide)) ht2 (by omega)) (gx_tup (js := [6, 7]) rfl (pns_cons 6 nd (pns_cons 7 nd pns_nil)))) ?_
      exact sx_cons (s1_ifF (tx_val (ex_var 3)) sx_nil) (fin o i a b _ _ ok st)
    · refine sx_cons (s1_asg (x := pair2 o i) (ex_var 2) (gx_tup (js := [4, 5]) rfl (pns_cons 4 nd (pns_cons 5 nd pns_nil)))) ?_
      refine sx_cons (s1_set (x := .int (m / 200)) 1 nd (ex_fdiv (ex_var 1) ex_int ⟨by decide, by decide⟩)) ?_
      have ht2 := ht (m / 200)
      generalize tab3.getD (m / 200 % 3).toNat (2, 2) = p at *
      refine sx_cons (s1_asg (x := .tuple [.int p.1, .int p.2]) (ex_ixN (i := m / 200 % 3) (el_lst (xs := tab3.map ab2) (ea_cons (ex_tup (ea_cons ex_int (ea_cons ex_int ea_nil))) (ea_cons (ex_tup (ea_cons ex_int (ea_cons ex_int ea_nil))) (ea_cons (ex_tup (ea_cons ex_int (ea_cons ex_int ea_nil))) ea_nil)))) (ex_mod (ex_var 1) ex_int (by decide)) ht2 (by omega)) (gx_tup (js := [6, 7]) rfl (pns_cons 6 nd (pns_cons 7 nd pns_nil)))) ?_
      generalize m / 200 = q
      have hst : ∃ a b : Nat, 2 + q / 3 % 5 = (a : Int) ∧ 2 + q / 15 % (12 / (a : Int) - 1) = (b : Int) ∧ Steps2 a b := by
        have h5 : q / 3 % 5 = 0 ∨ q / 3 % 5 = 1 ∨ q / 3 % 5 = 2 ∨ q / 3 % 5 = 3 ∨ q / 3 % 5 = 4 := by omega
        rcases h5 with h5 | h5 | h5 | h5 | h5 <;> rw [h5]
        · have e : (12 : Int) / ((2 : Nat) : Int) - 1 = 5 := by decide
          refine ⟨2, (2 + q / 15 % 5).toNat, rfl, by rw [e]; omega, by decide, by decide, by omega, by omega⟩
        · have e : (12 : Int) / ((3 : Nat) : Int) - 1 = 3 := by decide
          refine ⟨3, (2 + q / 15 % 3).toNat, rfl, by rw [e]; omega, by decide, by decide, by omega, by omega⟩
        · have e : (12 : Int) / ((4 : Nat) : Int) - 1 = 2 := by decide
          refine ⟨4, (2 + q / 15 % 2).toNat, rfl, by rw [e]; omega, by decide, by decide, by omega, by omega⟩
        · have e : (12 : Int) / ((5 : Nat) : Int) - 1 = 1 := by decide
          refine ⟨5, (2 + q / 15 % 1).toNat, rfl, by rw [e]; omega, by decide, by decide, by omega, by omega⟩
        · have e : (12 : Int) / ((6 : Nat) : Int) - 1 = 1 := by decide
          refine ⟨6, (2 + q / 15 % 1).toNat, rfl, by rw [e]; omega, by decide, by decide, by omega, by omega⟩
      obtain ⟨a, b, ea, eb, st⟩ := hst
      have a2 := st.a2
      have a6 := st.a6
      have pos : 0 < 12 / (a : Int) - 1 := by
        have : a = 2 ∨ a = 3 ∨ a = 4 ∨ a = 5 ∨ a = 6 := by omega
        rcases this with rfl | rfl | rfl | rfl | rfl <;> decide
      exact sx_cons (s1_ifT (tx_val (ex_var 3)) (sx_cons (s1_set (x := .int (a : Int)) 6 nd (ex_is (ex_add ex_int (ex_mod (ex_fdiv (ex_var 1) ex_int ⟨by decide, by decide⟩) ex_int (by decide))) (congrArg PyData.int ea)))
        (sx_one (s1_set (x := .int (b : Int)) 7 nd (ex_is (ex_add ex_int (ex_mod (ex_fdiv (ex_var 1) ex_int ⟨by decide, by decide⟩) (ex_sub (ex_fdiv ex_int (ex_var 6) ⟨by omega, Nat.lt_of_le_of_lt (Nat.log2_le_self _) (by omega)⟩) ex_int) pos)) (congrArg PyData.int eb)))))) (fin o i a b _ _ ok st)
  -- which curves
  refine sx_cons (s1_set (x := .int (cellM ns 1)) 1 nd (ex_call C1 (hr.mono (by decide)) (ea_cons (z := false) (ex_var 0) (ea_cons ex_int ea_nil)) ⟨ns, 1, by decide, rfl, rfl⟩)) ?_
  generalize cellM ns 1 = m
  refine sx_cons (s1_set 2 nd ex_non) ?_
  have none : SX (cxOf CX0 P w K mg base nLaw "law" (defScope s_law) f cdv A outer sh H E).nox (fun b => H b = none) E ((defBody s_law).drop 3) [.d (.list (ns.map PyData.int)), .d (.int m), .d .none, .no, .no, .no, .no, .no, .no] (.ret (.bool true)) := by
    refine sx_cons (s1_set (x := .bool false) 3 nd (ex_is (ex_cmp op_notN rd_notN (ex_var 2) ex_non) rfl)) ?_
    refine sx_cons (s1_ifT (tx_is (tx_not (tx_val (ex_var 3))) rfl) (sx_one (s1_set (x := pair2 (outC (cellM ns 0)) (innC (cellM ns 0))) 2 nd (ex_call C3 (hr.mono (by decide)) (ea_cons (z := false) (ex_call C1 (hr.mono (by decide)) (ea_cons (z := false) (ex_var 0) (ea_cons ex_int ea_nil)) ⟨ns, 0, by decide, rfl, rfl⟩) ea_nil) ⟨cellM ns 0, rfl, rfl⟩)))) ?_
    exact (steps _ _ m (cur_ok _)).1
  by_cases c : m % 2 = 1
  · cases hR : ringM (m / 2) with
    | none =>
      refine sx_cons (s1_ifT (tx_is (tx_cmp op_eq rd_eqI (ex_mod (ex_var 1) ex_int (by decide)) ex_int) (decide_eq_true c)) (sx_one (s1_set (x := .none) 2 nd (ex_call C2 hr (ea_cons (z := false) (ex_fdiv (ex_var 1) ex_int ⟨by decide, by decide⟩) ea_nil) ⟨m / 2, rfl, by rw [hR]; rfl⟩)))) none
    | some o =>
      refine sx_cons (s1_ifT (tx_is (tx_cmp op_eq rd_eqI (ex_mod (ex_var 1) ex_int (by decide)) ex_int) (decide_eq_true c)) (sx_one (s1_set (x := pair2 o innR) 2 nd (ex_call C2 hr (ea_cons (z := false) (ex_fdiv (ex_var 1) ex_int ⟨by decide, by decide⟩) ea_nil) ⟨m / 2, rfl, by rw [hR]; rfl⟩)))) ?_
      refine sx_cons (s1_set (x := .bool true) 3 nd (ex_is (ex_cmp op_notN rd_notN (ex_var 2) ex_non) rfl)) ?_
      refine sx_cons (s1_ifF (tx_is (tx_not (tx_val (ex_var 3))) rfl) sx_nil) ?_
      exact (steps _ _ m (ring_ok hR)).2
  · exact sx_cons (s1_ifF (tx_is (tx_cmp op_eq rd_eqI (ex_mod (ex_var 1) ex_int (by decide)) ex_int) (decide_eq_false c)) sx_nil) none
end
end Rs


set_option maxRecDepth 100000
set_option maxHeartbeats 4000000
namespace Rs
open PySem PySem.Spec PyProof.Rows L2 Dl
section
variable {P : Program} {w : World} {K : PySem.W.Frag} {h : Heap} {mg : Str → Option Value} {base : Heap}
theorem df_of (X : K.In h) (G : h.Ns mainGlobals mg) (c : He.SaysD fa fn K) {x n : Str} {st : Stmt} (i j : Nat) (hd : fn[i]? = some (dd x n st)) (hf : fa[j]? = some (.glo x)) : DefF P w K mg x n st := by
  obtain ⟨fd, F⟩ := c.def_ i (d := dd x n st) hd
  exact ⟨⟨_, fd, F, He.glo_ok X G (c.fact j (f := .glo x) hf)⟩⟩
theorem exk_of (X : K.In h) (G : h.Ns mainGlobals mg) (c : He.SaysD fa fn K) {x : Str} (i j : Nat) (hf : fa[i]? = some (.glo x)) (he : fa[j]? = some (.exc x)) : ExK K mg x (He.ga K x) := by
  obtain ⟨h1, h2, h3, h4⟩ := He.exc_ok (c.fact j (f := .exc x) he)
  exact ⟨He.glo_ok X G (c.fact i (f := .glo x) hf), h1, h2, h3, h4⟩
theorem tup2_ok {a : Addr} {i j : Int} (h : tup2 K a i j = true) (H : Hp) : Dp K H (.ref a) (.tuple [.int i, .int j]) := by
  unfold tup2 at h
  cases q : K.lookup a with
  | none => rw [q] at h; cases h
  | some o =>
    obtain ⟨oc, od, dt, osl⟩ := o
    rw [q] at h
    cases oc with
    | type t =>
      cases dt with
      | seq its m =>
        have h2 : (decide (t = "tuple") && (decide (its.size ≤ sizeLine) && He.relAll [.int i, .int j] its.toList)) = true := h
        obtain ⟨c1, h2⟩ := He.ba h2
        obtain ⟨c2, c3⟩ := He.ba h2
        have e := of_decide_eq_true c1
        subst e
        exact .tup (.inr ⟨_, its, m, q, rfl, rfl, of_decide_eq_true c2, He.relAll_ok c3⟩) (.cons (.int i) (.cons (.int j) .nil))
      | _ => cases h
    | _ => cases h
theorem tab_of (X : K.In h) (G : h.Ns mainGlobals mg) (c : He.SaysD fa fn K) {x : Str} {i j : Int} {q : Rat} (k : Nat) (hf : fa[k]? = some (.glo x)) (t : tup2 K (He.ga K x) i j = true) (e : PyData.tuple [.int i, .int j] = fD q) : Tab K mg x (fD q) := ⟨⟨_, He.glo_ok X G (c.fact k (f := .glo x) hf), fun H => by rw [← e]; exact tup2_ok t H⟩⟩
structure Tabs (K : PySem.W.Frag) (mg : Str → Option Value) : Prop where
  n1 : Tab K mg "NOTHING_spots" (fD 0)
  n2 : Tab K mg "NOTHING_rings" (fD 0)
  one : Tab K mg "ONE" (fD 1)
  two : Tab K mg "TWO" (fD 2)
  four : Tab K mg "FOUR" (fD 4)
  first : Tab K mg "FIRST" (pD P1)
  counts : Tab K mg "COUNTS" countsD
  seer : seerB K = true
theorem tabs_of (X : K.In h) (G : h.Ns mainGlobals mg) (c : He.SaysD fa fn K) (e : exB K = true) : Tabs K mg := by
  unfold exB at e
  obtain ⟨e1, e⟩ := He.ba e
  obtain ⟨e2, e⟩ := He.ba e
  obtain ⟨e3, e⟩ := He.ba e
  obtain ⟨e4, e⟩ := He.ba e
  obtain ⟨e5, e⟩ := He.ba e
  obtain ⟨e6, e⟩ := He.ba e
  obtain ⟨e7, e⟩ := He.ba e
  obtain ⟨e8, e⟩ := He.ba e
  obtain ⟨e9, e10⟩ := He.ba e
  refine ⟨tab_of X G c 89 rfl e1 rfl, tab_of X G c 90 rfl e2 rfl, tab_of X G c 91 rfl e3 rfl, tab_of X G c 92 rfl e4 rfl, tab_of X G c 93 rfl e5 rfl, ⟨⟨_, (He.glo_ok X G (c.fact 94 (f := .glo "FIRST") rfl)), fun H => ?_⟩⟩, ⟨⟨_, (He.glo_ok X G (c.fact 95 (f := .glo "COUNTS") rfl)), fun H => ?_⟩⟩, e10⟩
  · exact .tup (He.tupB_ok e6 H) (.cons (tup2_ok e7 H) (.cons (tup2_ok e8 H) .nil))
  · exact .tup (He.tupB_ok e9 H) (dpa_ints [3, 4, 5, 6, 7, 8, 9, 10, 12])
theorem bi_of (X : K.In h) (G : h.Ns mainGlobals mg) (c : He.SaysD fa fn K) : Bi mg := ⟨(He.free_ok X G (c.fact 57 (f := .free "isinstance") rfl)), (He.free_ok X G (c.fact 58 (f := .free "int") rfl)), (He.free_ok X G (c.fact 59 (f := .free "bool") rfl)), (He.free_ok X G (c.fact 60 (f := .free "abs") rfl)), (He.free_ok X G (c.fact 61 (f := .free "tuple") rfl)), (He.free_ok X G (c.fact 62 (f := .free "len") rfl)), (He.free_ok X G (c.fact 63 (f := .free "all") rfl)), (He.free_ok X G (c.fact 64 (f := .free "zip") rfl)), (He.free_ok X G (c.fact 65 (f := .free "range") rfl)), (He.free_ok X G (c.fact 66 (f := .free "list") rfl))⟩
theorem law_ok {f : Addr} (X : K.In h) (G : h.Ns mainGlobals mg) (c : He.SaysD fa fn K) (e : exB K = true) (ht : P.given.tree = none) (hfa : mg ("law" : Str) = some (.ref f)) :
    ∃ fd : FuncData, (∀ (s : Shared) (v : Value), BindsTo s fd ⟨[v], []⟩ [("_law_script", v)]) ∧ ∀ base : Heap, FnOk P w K mg base CX0 48 f fd ["_law_script"] (spD K R_law) := by
  obtain ⟨fd, FL⟩ := c.def_ 56 (d := dd "law" "law" s_law) rfl
  have el := hfa.symm.trans (He.glo_ok X G (c.fact 56 (f := .glo "law") rfl))
  cases el
  have b := FunD.bindsA (ps := ["_law_script"]) FL fun _ _ _ _ _ _ us hl => match us, hl with | [_], _ => rfl
  refine ⟨fd, fun s v => b s [v] rfl, fun base => ?_⟩
  have B := bi_of X G c
  have T := tabs_of X G c e
  have hs := T.seer
  have numb := c_is_number (base := base) (df_of (P := P) (w := w) X G c (x := "is_number") (n := "is_number") (st := s_is_number) 0 0 rfl rfl) B
  have comm := c_common (base := base) (df_of (P := P) (w := w) X G c (x := "common_of") (n := "common_of") (st := s_common_of) 1 1 rfl rfl) B
  have turn := c_turned (base := base) (df_of (P := P) (w := w) X G c (x := "turned_sign") (n := "turned_sign") (st := s_turned_sign) 2 2 rfl rfl) B
  have det := c_det (base := base) (df_of (P := P) (w := w) X G c (x := "determinant_of") (n := "determinant_of") (st := s_determinant_of) 3 3 rfl rfl) B
  have kept := c_kept (base := base) (df_of (P := P) (w := w) X G c (x := "kept_six") (n := "kept_six") (st := s_kept_six) 4 4 rfl rfl) B ht hs comm turn
  have asix := c_are_six (base := base) (df_of (P := P) (w := w) X G c (x := "are_six") (n := "are_six") (st := s_are_six) 5 5 rfl rfl) B numb
  have icur := c_is_curve (base := base) (df_of (P := P) (w := w) X G c (x := "is_curve") (n := "is_curve") (st := s_is_curve) 6 6 rfl rfl) B asix det kept
  have look := c_look (base := base) (df_of (P := P) (w := w) X G c (x := "look_at_curve") (n := "look_at_curve") (st := s_look_at_curve) 7 7 rfl rfl) B icur
  have frac := c_frac (base := base) (df_of (P := P) (w := w) X G c (x := "fraction_of") (n := "fraction_of") (st := s_fraction_of) 9 9 rfl rfl) B ht hs comm
  have fsum := c_fsum (base := base) (df_of (P := P) (w := w) X G c (x := "frac_sum") (n := "frac_sum") (st := s_frac_sum) 10 10 rfl rfl) frac
  have fless := c_fless (base := base) (df_of (P := P) (w := w) X G c (x := "frac_less") (n := "frac_less") (st := s_frac_less) 11 11 rfl rfl) frac
  have ftimes := c_ftimes (base := base) (df_of (P := P) (w := w) X G c (x := "frac_times") (n := "frac_times") (st := s_frac_times) 12 12 rfl rfl) frac
  have fby := c_fby (base := base) (df_of (P := P) (w := w) X G c (x := "frac_by") (n := "frac_by") (st := s_frac_by) 13 13 rfl rfl) frac
  have ifrac := c_is_frac (base := base) (df_of (P := P) (w := w) X G c (x := "is_fraction") (n := "is_fraction") (st := s_is_fraction) 8 8 rfl rfl) B numb comm
  have look2 := c_look2 (base := base) (df_of (P := P) (w := w) X G c (x := "look_at_two") (n := "look_at_two") (st := s_look_at_two) 14 14 rfl rfl) look
  have slopes := c_slopes (base := base) (df_of (P := P) (w := w) X G c (x := "slopes_of") (n := "slopes_of") (st := s_slopes_of) 15 15 rfl rfl)
  have nums := c_numbers (base := base) (df_of (P := P) (w := w) X G c (x := "numbers_of") (n := "numbers_of") (st := s_numbers_of) 16 16 rfl rfl) B slopes det
  have wdisc := c_wdisc (base := base) (df_of (P := P) (w := w) X G c (x := "whole_discriminant") (n := "whole_discriminant") (st := s_whole_discriminant) 17 17 rfl rfl)
  have ispo := c_ispo (base := base) (df_of (P := P) (w := w) X G c (x := "is_pair_of") (n := "is_pair_of") (st := s_is_pair_of) 18 18 rfl rfl) nums wdisc
  have isp := c_isp (base := base) (df_of (P := P) (w := w) X G c (x := "is_pair") (n := "is_pair") (st := s_is_pair) 19 19 rfl rfl) look2 ispo
  have lookp := c_lookp (base := base) (df_of (P := P) (w := w) X G c (x := "look_at_pair") (n := "look_at_pair") (st := s_look_at_pair) 20 20 rfl rfl) look2 ispo
  have cubp := c_cubic (base := base) (df_of (P := P) (w := w) X G c (x := "cubic_by_pairs") (n := "cubic_by") (st := s_cubic_by_pairs) 21 21 rfl rfl) B nums frac
  have Fs : Fr P w K mg base := ⟨fsum, fless, ftimes, fby⟩
  have slope := c_slope (base := base) (df_of (P := P) (w := w) X G c (x := "slope_at") (n := "slope_at") (st := s_slope_at) 25 25 rfl rfl) Fs
  have tspot := c_tspot (base := base) (df_of (P := P) (w := w) X G c (x := "turned") (n := "turned") (st := s_turned) 26 26 rfl rfl) T.n1 Fs
  have sum := c_sum (base := base) (df_of (P := P) (w := w) X G c (x := "sum_of") (n := "sum_of") (st := s_sum_of) 27 27 rfl rfl) T.n1 Fs slope tspot
  have times := c_times (base := base) (df_of (P := P) (w := w) X G c (x := "times_of") (n := "times_of") (st := s_times_of) 28 28 rfl rfl) B sum
  have XChord := (exk_of X G c (x := "NoChord") 73 82 rfl rfl)
  have XPair := (exk_of X G c (x := "NoPair") 71 80 rfl rfl)
  have hM : ∃ t, mg "MOST_STEPS" = some (.int 12 t) := He.int_ok X G (c.fact 88 (f := .int "MOST_STEPS" 12) rfl)
  have chord := c_chord (base := base) (df_of (P := P) (w := w) X G c (x := "chord_curve") (n := "chord_curve") (st := s_chord_curve) 29 29 rfl rfl) B XChord hM T.first lookp numb cubp times det kept
  have prod := c_prod (base := base) (df_of (P := P) (w := w) X G c (x := "product_of") (n := "product_of") (st := s_product_of) 22 22 rfl rfl) Fs
  have disc := c_disc (base := base) (df_of (P := P) (w := w) X G c (x := "discriminant_of") (n := "discriminant_of") (st := s_discriminant_of) 23 23 rfl rfl) Fs prod
  have lookc := c_lookc (base := base) (df_of (P := P) (w := w) X G c (x := "look_at_cubic") (n := "look_at_cubic") (st := s_look_at_cubic) 24 24 rfl rfl) B ifrac disc
  have quot := c_quot (base := base) (df_of (P := P) (w := w) X G c (x := "quotient") (n := "quotient") (st := s_quotient) 30 30 rfl rfl) T.n2 Fs
  have pow := c_pow (base := base) (df_of (P := P) (w := w) X G c (x := "powers_of") (n := "powers_of") (st := s_powers_of) 31 31 rfl rfl) Fs
  have sumd := c_sumd (base := base) (df_of (P := P) (w := w) X G c (x := "summed") (n := "summed") (st := s_summed) 32 32 rfl rfl) B T.n2 Fs
  have less2 := c_less2 (base := base) (df_of (P := P) (w := w) X G c (x := "lesser_two") (n := "lesser_two") (st := s_lesser_two) 33 33 rfl rfl) T.n2 Fs pow
  have gr2 := c_gr2 (base := base) (df_of (P := P) (w := w) X G c (x := "greater_two") (n := "greater_two") (st := s_greater_two) 34 34 rfl rfl) T.one T.two Fs pow quot sumd
  have cubr := c_cubr (base := base) (df_of (P := P) (w := w) X G c (x := "cubic_by_rings") (n := "cubic_by") (st := s_cubic_by_rings) 35 35 rfl rfl) T.one T.four Fs quot
  have count := c_count (base := base) (df_of (P := P) (w := w) X G c (x := "count_cubic") (n := "count_cubic") (st := s_count_cubic) 36 36 rfl rfl) B T.n2 T.one T.two T.counts Fs numb ifrac less2 gr2 cubr disc
  have whole := c_whole (base := base) (df_of (P := P) (w := w) X G c (x := "whole_six") (n := "whole_six") (st := s_whole_six) 37 37 rfl rfl) B ht hs kept
  have curves := c_curves (base := base) (df_of (P := P) (w := w) X G c (x := "cubic_curves") (n := "cubic_curves") (st := s_cubic_curves) 38 38 rfl rfl) XPair T.n2 T.two Fs lookc whole det
  have lchord := c_lchord (base := base) (df_of (P := P) (w := w) X G c (x := "_law_chord") (n := "_law_chord") (st := s__law_chord) 55 55 rfl rfl) XChord (He.exm_ok (c.fact 85 (f := .exm "NoChord" "NoChord" true) rfl)) chord
  have ring := c_ring (base := base) (df_of (P := P) (w := w) X G c (x := "_law_ring") (n := "_law_ring") (st := s__law_ring) 54 54 rfl rfl) XPair (He.glo_ok X G (c.fact 67 (f := .glo "RoundError") rfl)) (He.exm_ok (c.fact 87 (f := .exm "NoPair" "RoundError" true) rfl)) curves count
  have cell := c_cell (base := base) (df_of (P := P) (w := w) X G c (x := "_law_cell") (n := "_law_cell") (st := s__law_cell) 39 39 rfl rfl) B
  have shared := c_shared (base := base) (df_of (P := P) (w := w) X G c (x := "_law_shared") (n := "_law_shared") (st := s__law_shared) 41 41 rfl rfl) B
  have lkept := c_lkept (base := base) (df_of (P := P) (w := w) X G c (x := "_law_kept") (n := "_law_kept") (st := s__law_kept) 42 42 rfl rfl) B ht hs shared
  have ldet := c_ldet (base := base) (df_of (P := P) (w := w) X G c (x := "_law_det") (n := "_law_det") (st := s__law_det) 45 45 rfl rfl)
  have ldual := c_ldual (base := base) (df_of (P := P) (w := w) X G c (x := "_law_dual") (n := "_law_dual") (st := s__law_dual) 46 46 rfl rfl) lkept
  have worth := c_worth (base := base) (df_of (P := P) (w := w) X G c (x := "_law_worth") (n := "_law_worth") (st := s__law_worth) 43 43 rfl rfl)
  have both := c_both (base := base) (df_of (P := P) (w := w) X G c (x := "_law_both") (n := "_law_both") (st := s__law_both) 44 44 rfl rfl) B worth
  have lnum := c_lnum (base := base) (df_of (P := P) (w := w) X G c (x := "_law_numbers") (n := "_law_numbers") (st := s__law_numbers) 47 47 rfl rfl) B ldet
  have apart := c_apart (base := base) (df_of (P := P) (w := w) X G c (x := "_law_apart") (n := "_law_apart") (st := s__law_apart) 48 48 rfl rfl)
  have lpair := c_lpair (base := base) (df_of (P := P) (w := w) X G c (x := "_law_is_pair") (n := "_law_is_pair") (st := s__law_is_pair) 49 49 rfl rfl) lnum apart
  have laid := c_laid (base := base) (df_of (P := P) (w := w) X G c (x := "_law_laid") (n := "_law_laid") (st := s__law_laid) 52 52 rfl rfl)
  have take := c_take (base := base) (df_of (P := P) (w := w) X G c (x := "_law_take") (n := "_law_take") (st := s__law_take) 40 40 rfl rfl)
  have shears := c_shears (base := base) (df_of (P := P) (w := w) X G c (x := "_law_shears") (n := "_law_shears") (st := s__law_shears) 50 50 rfl rfl) B take
  have moved := c_moved (base := base) (df_of (P := P) (w := w) X G c (x := "_law_moved_curve") (n := "_law_moved_curve") (st := s__law_moved_curve) 51 51 rfl rfl) B worth both lkept
  have lcurves := c_lcurves (base := base) (df_of (P := P) (w := w) X G c (x := "_law_curves") (n := "_law_curves") (st := s__law_curves) 53 53 rfl rfl) B take shears laid ldet ldual lpair moved
  exact c_law FL cell ring lcurves (cal_calm chord chord1) lchord isp
end
end Rs


set_option maxRecDepth 100000
set_option maxHeartbeats 0
open PySem PySem.W PySem.Calls PyProof.Rows
theorem PySem.Challenge.cw_roundsides_k89_whole_chords_of_chords_holds : PySem.Challenge.rw_roundsides_k89_whole_chords_of_chords.Holds := by
  w_on; o_law
  refine HandSHeadRun.head_any (r := OpenLaw.row PySem.Challenge.rw_roundsides_k89_whole_chords_of_chords) (q := view (OpenLaw.row PySem.Challenge.rw_roundsides_k89_whole_chords_of_chords).prog [Rs.iLaw]) (H := Rs.hk) (ob := Rs.ob) (M := 30000) (loose := Rs.loose1 ++ (Rs.loose2 ++ (Rs.loose3 ++ Rs.loose4))) (d := HandSHeadRun.topDef (OpenLaw.row PySem.Challenge.rw_roundsides_k89_whole_chords_of_chords).prog Rs.iLaw) (kwd := []) Rs.ob_eq
    (by kernel_rfl) (fun s => by kernel_rfl) Rs.run (by kernel_rfl) (by kernel_rfl) (by kernel_rfl) (by rfl) (by first | assumption | decide +kernel) (by decide +kernel) ⟨rfl, rfl, rfl, rfl, rfl, by decide +kernel⟩ ?hw ?hc
  case hw => w_witness2
  case hc =>
    refine L2.walk_ofE (l := PySem.Challenge.rw_roundsides_k89_whole_chords_of_chords) (n := 63) (k := 48) (x := "_law_script") (CX := L2.CX0) rfl (by decide) (by kernel_rfl) ⟨rfl, by decide, by decide⟩ ?F (fun _ _ _ _ z => z)
    intro w mg fa h Y G hmg0
    obtain ⟨K, KX, c, e⟩ := Y
    have hmg : mg ("law" : PySem.Str) = some (.ref fa) := by
      have e : (HandSHeadRun.topDef (OpenLaw.row PySem.Challenge.rw_roundsides_k89_whole_chords_of_chords).prog Rs.iLaw).name = ("law" : PySem.Str) := by kernel_rfl
      rw [← e]
      exact hmg0
    obtain ⟨fd, hb, hF⟩ := Rs.law_ok (P := PySem.Challenge.rw_roundsides_k89_whole_chords_of_chords.prog) (w := w) KX G c e (by rfl) hmg
    refine ⟨K, fd, Dl.spD K Rs.R_law, KX, hb, fun H a ns hl _ hS => ⟨[.list (ns.map PyData.int)], .ok (.bool true), .cons (.lst hS (Dl.dpa_ints ns)) .nil, ⟨ns, rfl, rfl⟩, rfl, fun v H' _ hv => ?_⟩, fun base _ _ => hF base⟩
    cases hv
    rfl


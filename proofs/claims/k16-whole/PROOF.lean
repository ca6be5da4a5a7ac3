import PyProof.Rows.All
import Wide.All
import OpenK.AllK
import Wide.FinOn
import HandS.ForMost
import HandS.AnyAll
import HandS.GenOver
import HandS.GenList
import HandS.Lambda
import KE.KStateDown
import HandS.Exc
import HandS.Defaults
import HandS.Head0
import HandS.Head1
import HandS.Head2
import HandS.Head3
import HandS.HeadEnd
import HandS.HeadHook1
import HandS.HeadHook2
import HandS.HeadHook3
import HandS.HeadHook4
import HandS.EndTab
import HandS.HeadWalk
import PySem.Challenge.RW_skyapart_k16_whole_separated_boxes_keep
import HandS.Gcd
import HandS.Zip
import HandS.More
import Flt.RightSqrt
set_option Elab.async false
set_option linter.all false
set_option maxRecDepth 100000
/-! The plain law of distances: segments over the whole numbers. -/
namespace Geo
theorem sq_nonneg (a : Int) : 0 ≤ a * a := by
  rcases Int.le_total 0 a with h | h
  · exact Int.mul_nonneg h h
  · exact Int.mul_nonneg_of_nonpos_of_nonpos h h
theorem le_of_mul_pos {a b c : Int} (hc : 0 < c) (h : c * a ≤ c * b) : a ≤ b := Int.le_of_mul_le_mul_left h hc
theorem abs_le_of_sq {x c : Int} (hc : 0 ≤ c) (h : x * x ≤ c * c) : x ≤ c := by
  rcases (by omega : c < x ∨ x ≤ c) with q | q
  · exfalso
    have a1 : c * c ≤ c * x := Int.mul_le_mul_of_nonneg_left (Int.le_of_lt q) hc
    have a2 : c * x < x * x := Int.mul_lt_mul_of_pos_right q (by omega)
    omega
  · exact q

/-- E is far from the segment from S to T: the square of the distance is at least B -/
def Far (B ex ey sx sy tx ty : Int) : Prop := ∀ u v : Int, 0 ≤ u → 0 ≤ v → 0 < u + v →
  B * ((u + v) * (u + v)) ≤ ((u + v) * ex - (u * sx + v * tx)) * ((u + v) * ex - (u * sx + v * tx)) + ((u + v) * ey - (u * sy + v * ty)) * ((u + v) * ey - (u * sy + v * ty))
theorem Far.swap {B ex ey sx sy tx ty : Int} (h : Far B ex ey sx sy tx ty) : Far B ex ey tx ty sx sy := fun u v hu hv hs => by
  have q := h v u hv hu (by omega)
  have e : v + u = u + v := Int.add_comm _ _
  have e1 : v * sx + u * tx = u * tx + v * sx := Int.add_comm _ _
  have e2 : v * sy + u * ty = u * ty + v * sy := Int.add_comm _ _
  rw [e, e1, e2] at q
  exact q

theorem far_low {B ex ey sx sy tx ty : Int} (ha : (tx - sx) * (ex - sx) + (ty - sy) * (ey - sy) ≤ 0) (h : B ≤ (sx - ex) * (sx - ex) + (sy - ey) * (sy - ey)) : Far B ex ey sx sy tx ty := fun u v hu hv hs => by
  have k1 : 0 ≤ (u + v) * (u + v) := sq_nonneg _
  have k2 := Int.mul_le_mul_of_nonneg_right h k1
  have k3 : 0 ≤ (u + v) * v := Int.mul_nonneg (by omega) hv
  have k4 : (u + v) * v * ((tx - sx) * (ex - sx) + (ty - sy) * (ey - sy)) ≤ 0 := Int.mul_nonpos_of_nonneg_of_nonpos k3 ha
  have k5 : 0 ≤ v * v * ((tx - sx) * (tx - sx) + (ty - sy) * (ty - sy)) := Int.mul_nonneg (sq_nonneg _) (Int.add_nonneg (sq_nonneg _) (sq_nonneg _))
  have id : ((u + v) * ex - (u * sx + v * tx)) * ((u + v) * ex - (u * sx + v * tx)) + ((u + v) * ey - (u * sy + v * ty)) * ((u + v) * ey - (u * sy + v * ty))
      = ((sx - ex) * (sx - ex) + (sy - ey) * (sy - ey)) * ((u + v) * (u + v)) - 2 * ((u + v) * v * ((tx - sx) * (ex - sx) + (ty - sy) * (ey - sy))) + v * v * ((tx - sx) * (tx - sx) + (ty - sy) * (ty - sy)) := by grind
  omega
theorem far_mid {B ex ey sx sy tx ty : Int} (hl : 0 < (tx - sx) * (tx - sx) + (ty - sy) * (ty - sy))
    (h : B * ((tx - sx) * (tx - sx) + (ty - sy) * (ty - sy)) ≤ ((tx - sx) * (ey - sy) - (ty - sy) * (ex - sx)) * ((tx - sx) * (ey - sy) - (ty - sy) * (ex - sx))) : Far B ex ey sx sy tx ty := fun u v hu hv hs => by
  refine le_of_mul_pos hl ?_
  have k1 : 0 ≤ (u + v) * (u + v) := sq_nonneg _
  have k2 := Int.mul_le_mul_of_nonneg_right h k1
  have k3 := sq_nonneg ((tx - sx) * ((u + v) * ex - (u * sx + v * tx)) + (ty - sy) * ((u + v) * ey - (u * sy + v * ty)))
  have id : ((tx - sx) * (tx - sx) + (ty - sy) * (ty - sy)) * (((u + v) * ex - (u * sx + v * tx)) * ((u + v) * ex - (u * sx + v * tx)) + ((u + v) * ey - (u * sy + v * ty)) * ((u + v) * ey - (u * sy + v * ty)))
      = ((tx - sx) * ((u + v) * ex - (u * sx + v * tx)) + (ty - sy) * ((u + v) * ey - (u * sy + v * ty))) * ((tx - sx) * ((u + v) * ex - (u * sx + v * tx)) + (ty - sy) * ((u + v) * ey - (u * sy + v * ty)))
        + ((tx - sx) * (ey - sy) - (ty - sy) * (ex - sx)) * ((tx - sx) * (ey - sy) - (ty - sy) * (ex - sx)) * ((u + v) * (u + v)) := by grind
  have id2 : ((tx - sx) * (tx - sx) + (ty - sy) * (ty - sy)) * (B * ((u + v) * (u + v))) = B * ((tx - sx) * (tx - sx) + (ty - sy) * (ty - sy)) * ((u + v) * (u + v)) := by grind
  omega

/-! ### the program's functions -/
abbrev Pt : Type := Int × Int
def crossP (o f s : Pt) : Int := (f.1 - o.1) * (s.2 - o.2) - (f.2 - o.2) * (s.1 - o.1)
def dotP (o f s : Pt) : Int := (f.1 - o.1) * (s.1 - o.1) + (f.2 - o.2) * (s.2 - o.2)
def pointSq (p s e : Pt) : Int × Int :=
  if dotP s e p ≤ 0 then (dotP p s s, 1) else if dotP s e e ≤ dotP s e p then (dotP p e e, 1) else (crossP s e p * crossP s e p, dotP s e e)
theorem far_of {B : Int} {p s e : Pt} (h : ¬ (pointSq p s e).1 < B * (pointSq p s e).2) : Far B p.1 p.2 s.1 s.2 e.1 e.2 := by
  unfold pointSq at h
  by_cases h1 : dotP s e p ≤ 0
  · rw [if_pos h1] at h
    refine far_low h1 ?_
    have h2 : ¬ dotP p s s < B * 1 := h
    unfold dotP at h2
    omega
  · rw [if_neg h1] at h
    by_cases h2 : dotP s e e ≤ dotP s e p
    · rw [if_pos h2] at h
      refine Far.swap (far_low ?_ ?_)
      · unfold dotP at h2
        have id : (s.1 - e.1) * (p.1 - e.1) + (s.2 - e.2) * (p.2 - e.2) = ((e.1 - s.1) * (e.1 - s.1) + (e.2 - s.2) * (e.2 - s.2)) - ((e.1 - s.1) * (p.1 - s.1) + (e.2 - s.2) * (p.2 - s.2)) := by grind
        omega
      · have h3 : ¬ dotP p e e < B * 1 := h
        unfold dotP at h3
        omega
    · rw [if_neg h2] at h
      have h3 : ¬ crossP s e p * crossP s e p < B * dotP s e e := h
      refine far_mid ?_ ?_
      · unfold dotP at h1 h2
        omega
      · unfold crossP dotP at h3
        omega

/-- two segments of which each end is far from the other one, and which don't cross: all their points are far -/
def Sep (B ax ay bx bY cx cy dx dy : Int) : Prop := ∀ u v u' v' : Int, 0 ≤ u → 0 ≤ v → 0 < u + v → 0 ≤ u' → 0 ≤ v' → 0 < u' + v' →
  B * (((u + v) * (u' + v')) * ((u + v) * (u' + v'))) ≤ ((u' + v') * (u * ax + v * bx) - (u + v) * (u' * cx + v' * dx)) * ((u' + v') * (u * ax + v * bx) - (u + v) * (u' * cx + v' * dx))
    + ((u' + v') * (u * ay + v * bY) - (u + v) * (u' * cy + v' * dy)) * ((u' + v') * (u * ay + v * bY) - (u + v) * (u' * cy + v' * dy))
theorem Sep.flip {B ax ay bx bY cx cy dx dy : Int} (h : Sep B ax ay bx bY cx cy dx dy) : Sep B cx cy dx dy ax ay bx bY := fun u v u' v' h1 h2 h3 h4 h5 h6 => by
  have q := h u' v' u v h4 h5 h6 h1 h2 h3
  have id1 : B * (((u' + v') * (u + v)) * ((u' + v') * (u + v))) = B * (((u + v) * (u' + v')) * ((u + v) * (u' + v'))) := by grind
  have id2 : ((u + v) * (u' * ax + v' * bx) - (u' + v') * (u * cx + v * dx)) * ((u + v) * (u' * ax + v' * bx) - (u' + v') * (u * cx + v * dx))
    = ((u' + v') * (u * cx + v * dx) - (u + v) * (u' * ax + v' * bx)) * ((u' + v') * (u * cx + v * dx) - (u + v) * (u' * ax + v' * bx)) := by grind
  have id3 : ((u + v) * (u' * ay + v' * bY) - (u' + v') * (u * cy + v * dy)) * ((u + v) * (u' * ay + v' * bY) - (u' + v') * (u * cy + v * dy))
    = ((u' + v') * (u * cy + v * dy) - (u + v) * (u' * ay + v' * bY)) * ((u' + v') * (u * cy + v * dy) - (u + v) * (u' * ay + v' * bY)) := by grind
  omega
theorem Sep.swap2 {B ax ay bx bY cx cy dx dy : Int} (h : Sep B ax ay bx bY cx cy dx dy) : Sep B ax ay bx bY dx dy cx cy := fun u v u' v' h1 h2 h3 h4 h5 h6 => by
  have q := h u v v' u' h1 h2 h3 h5 h4 (by omega)
  have e : v' + u' = u' + v' := Int.add_comm _ _
  have e1 : v' * cx + u' * dx = u' * dx + v' * cx := Int.add_comm _ _
  have e2 : v' * cy + u' * dy = u' * dy + v' * cy := Int.add_comm _ _
  rw [e, e1, e2] at q
  exact q

/-- the heights over a line of the points of a segment on one side of it: the nearer the end, the lesser -/
theorem height {a b m p q : Int} (hab : 0 ≤ a * b) (hle : a * a ≤ b * b) (hm : 0 ≤ m) (hp : 0 ≤ p) (hq : p ≤ q) :
    (m * a + p * (b - a)) * (m * a + p * (b - a)) ≤ (m * a + q * (b - a)) * (m * a + q * (b - a)) := by
  have ha : 0 ≤ a * (b - a) := by
    have e : a * (b - a) = a * b - a * a := by grind
    rcases (by omega : a * b < a * a ∨ a * a ≤ a * b) with q | q
    · exfalso
      have p1 : a * b * (a * b) ≤ a * b * (a * a) := Int.mul_le_mul_of_nonneg_left (Int.le_of_lt q) hab
      have p2 : a * a * (a * a) ≤ a * a * (b * b) := Int.mul_le_mul_of_nonneg_left hle (sq_nonneg a)
      have p3 : a * b * (a * b) = a * a * (b * b) := by grind
      have p4 : a * b * (a * a) < a * a * (a * a) := Int.mul_lt_mul_of_pos_right q (by omega)
      omega
    · omega
  have k1 : 0 ≤ m * (q - p) * (a * (b - a)) := Int.mul_nonneg (Int.mul_nonneg hm (by omega)) ha
  have k2 : 0 ≤ (q - p) * (q + p) * ((b - a) * (b - a)) := Int.mul_nonneg (Int.mul_nonneg (by omega) (by omega)) (sq_nonneg _)
  have id : (m * a + q * (b - a)) * (m * a + q * (b - a)) - (m * a + p * (b - a)) * (m * a + p * (b - a)) = 2 * (m * (q - p) * (a * (b - a))) + (q - p) * (q + p) * ((b - a) * (b - a)) := by grind
  omega

section
variable (ax ay bx bY cx cy dx dy u v u' v' N k v2 : Int)
theorem idb1 (hNe : (bx - ax) * (bx - ax) + (bY - ay) * (bY - ay) = N) (hk : (bx - ax) * (dx - cx) + (bY - ay) * (dy - cy) = k) (hv2 : v' * k * (u + v) - v * (u' + v') * N = v2) :
    (bx - ax) * ((u + v) * (u' + v') * k * ax - (((u + v) * (u' + v') * k - v2) * cx + v2 * dx)) + (bY - ay) * ((u + v) * (u' + v') * k * ay - (((u + v) * (u' + v') * k - v2) * cy + v2 * dy))
      = k * ((bx - ax) * ((u' + v') * (u * ax + v * bx) - (u + v) * (u' * cx + v' * dx)) + (bY - ay) * ((u' + v') * (u * ay + v * bY) - (u + v) * (u' * cy + v' * dy))) := by
  have e1 : (bx - ax) * ((u + v) * (u' + v') * k * ax - (((u + v) * (u' + v') * k - v2) * cx + v2 * dx)) + (bY - ay) * ((u + v) * (u' + v') * k * ay - (((u + v) * (u' + v') * k - v2) * cy + v2 * dy))
    = (u + v) * (u' + v') * k * ((bx - ax) * (ax - cx) + (bY - ay) * (ay - cy)) - v2 * ((bx - ax) * (dx - cx) + (bY - ay) * (dy - cy)) := by grind
  have e2 : (bx - ax) * ((u' + v') * (u * ax + v * bx) - (u + v) * (u' * cx + v' * dx)) + (bY - ay) * ((u' + v') * (u * ay + v * bY) - (u + v) * (u' * cy + v' * dy))
    = (u + v) * (u' + v') * ((bx - ax) * (ax - cx) + (bY - ay) * (ay - cy)) + v * (u' + v') * ((bx - ax) * (bx - ax) + (bY - ay) * (bY - ay)) - v' * (u + v) * ((bx - ax) * (dx - cx) + (bY - ay) * (dy - cy)) := by grind
  rw [e1, e2, hk, hNe, ← hv2]
  generalize (bx - ax) * (ax - cx) + (bY - ay) * (ay - cy) = z
  grind
theorem idb2 : (bx - ax) * ((u + v) * (u' + v') * k * ay - (((u + v) * (u' + v') * k - v2) * cy + v2 * dy)) - (bY - ay) * ((u + v) * (u' + v') * k * ax - (((u + v) * (u' + v') * k - v2) * cx + v2 * dx))
      = -((u + v) * (u' + v') * k * ((bx - ax) * (cy - ay) - (bY - ay) * (cx - ax)) + v2 * (((bx - ax) * (dy - ay) - (bY - ay) * (dx - ax)) - ((bx - ax) * (cy - ay) - (bY - ay) * (cx - ax)))) := by grind
theorem idb3 : (bx - ax) * ((u' + v') * (u * ay + v * bY) - (u + v) * (u' * cy + v' * dy)) - (bY - ay) * ((u' + v') * (u * ax + v * bx) - (u + v) * (u' * cx + v' * dx))
      = -((u + v) * (u' + v') * ((bx - ax) * (cy - ay) - (bY - ay) * (cx - ax)) + (u + v) * v' * (((bx - ax) * (dy - ay) - (bY - ay) * (dx - ax)) - ((bx - ax) * (cy - ay) - (bY - ay) * (cx - ax)))) := by grind
theorem ida1 (hNe : (bx - ax) * (bx - ax) + (bY - ay) * (bY - ay) = N) (hk : (bx - ax) * (dx - cx) + (bY - ay) * (dy - cy) = k) (hv1 : v * (u' + v') * N - v' * k * (u + v) = v2) :
    (bx - ax) * ((u + v) * (u' + v') * N * cx - (((u + v) * (u' + v') * N - v2) * ax + v2 * bx)) + (bY - ay) * ((u + v) * (u' + v') * N * cy - (((u + v) * (u' + v') * N - v2) * ay + v2 * bY))
      = -(N * ((bx - ax) * ((u' + v') * (u * ax + v * bx) - (u + v) * (u' * cx + v' * dx)) + (bY - ay) * ((u' + v') * (u * ay + v * bY) - (u + v) * (u' * cy + v' * dy)))) := by
  have e1 : (bx - ax) * ((u + v) * (u' + v') * N * cx - (((u + v) * (u' + v') * N - v2) * ax + v2 * bx)) + (bY - ay) * ((u + v) * (u' + v') * N * cy - (((u + v) * (u' + v') * N - v2) * ay + v2 * bY))
    = - ((u + v) * (u' + v') * N * ((bx - ax) * (ax - cx) + (bY - ay) * (ay - cy))) - v2 * ((bx - ax) * (bx - ax) + (bY - ay) * (bY - ay)) := by grind
  have e2 : (bx - ax) * ((u' + v') * (u * ax + v * bx) - (u + v) * (u' * cx + v' * dx)) + (bY - ay) * ((u' + v') * (u * ay + v * bY) - (u + v) * (u' * cy + v' * dy))
    = (u + v) * (u' + v') * ((bx - ax) * (ax - cx) + (bY - ay) * (ay - cy)) + v * (u' + v') * ((bx - ax) * (bx - ax) + (bY - ay) * (bY - ay)) - v' * (u + v) * ((bx - ax) * (dx - cx) + (bY - ay) * (dy - cy)) := by grind
  rw [e1, e2, hk, hNe, ← hv1]
  generalize (bx - ax) * (ax - cx) + (bY - ay) * (ay - cy) = z
  grind
theorem ida2 : (bx - ax) * ((u + v) * (u' + v') * N * cy - (((u + v) * (u' + v') * N - v2) * ay + v2 * bY)) - (bY - ay) * ((u + v) * (u' + v') * N * cx - (((u + v) * (u' + v') * N - v2) * ax + v2 * bx))
      = N * ((u + v) * (u' + v') * ((bx - ax) * (cy - ay) - (bY - ay) * (cx - ax))) := by grind
theorem lagr (p q x y : Int) : (p * p + q * q) * (x * x + y * y) = (p * x + q * y) * (p * x + q * y) + (p * y - q * x) * (p * y - q * x) := by grind
theorem negsq (x : Int) : -x * -x = x * x := by grind
end
section
variable {B ax ay bx bY cx cy dx dy u v u' v' : Int}
/-- the foot falls ahead of the first segment: its start is nearer -/
theorem case_b (h1 : Far B ax ay cx cy dx dy)
    (hab : 0 ≤ ((bx - ax) * (cy - ay) - (bY - ay) * (cx - ax)) * ((bx - ax) * (dy - ay) - (bY - ay) * (dx - ax)))
    (hle : ((bx - ax) * (cy - ay) - (bY - ay) * (cx - ax)) * ((bx - ax) * (cy - ay) - (bY - ay) * (cx - ax)) ≤ ((bx - ax) * (dy - ay) - (bY - ay) * (dx - ax)) * ((bx - ax) * (dy - ay) - (bY - ay) * (dx - ax)))
    (hN : 0 < (bx - ax) * (bx - ax) + (bY - ay) * (bY - ay)) (hu : 0 ≤ u) (hv : 0 ≤ v) (hs : 0 < u + v) (hu' : 0 ≤ u') (hv' : 0 ≤ v') (hs' : 0 < u' + v')
    (hlt : v * (u' + v') * ((bx - ax) * (bx - ax) + (bY - ay) * (bY - ay)) < v' * ((bx - ax) * (dx - cx) + (bY - ay) * (dy - cy)) * (u + v)) :
    B * (((u + v) * (u' + v')) * ((u + v) * (u' + v'))) ≤ ((u' + v') * (u * ax + v * bx) - (u + v) * (u' * cx + v' * dx)) * ((u' + v') * (u * ax + v * bx) - (u + v) * (u' * cx + v' * dx))
      + ((u' + v') * (u * ay + v * bY) - (u + v) * (u' * cy + v' * dy)) * ((u' + v') * (u * ay + v * bY) - (u + v) * (u' * cy + v' * dy)) := by
  generalize hNe : (bx - ax) * (bx - ax) + (bY - ay) * (bY - ay) = N at *
  generalize hk : (bx - ax) * (dx - cx) + (bY - ay) * (dy - cy) = k at *
  have hvN : 0 ≤ v * (u' + v') * N := Int.mul_nonneg (Int.mul_nonneg hv (by omega)) (by omega)
  have kpos : 0 < k := by
    rcases (by omega : 0 < k ∨ k ≤ 0) with q | q
    · exact q
    · exfalso
      have q2 : v' * k * (u + v) ≤ 0 := Int.mul_nonpos_of_nonpos_of_nonneg (Int.mul_nonpos_of_nonneg_of_nonpos hv' q) (by omega)
      omega
  have hm2 : 0 < (u + v) * (u' + v') * k := Int.mul_pos (Int.mul_pos hs hs') kpos
  have hmk : 0 ≤ (u + v) * k := Int.mul_nonneg (by omega) (by omega)
  have hvv : v' * k * (u + v) ≤ (u + v) * (u' + v') * k := by
    have q : v' * ((u + v) * k) ≤ (u' + v') * ((u + v) * k) := Int.mul_le_mul_of_nonneg_right (by omega) hmk
    have e1 : v' * ((u + v) * k) = v' * k * (u + v) := by grind
    have e2 : (u' + v') * ((u + v) * k) = (u + v) * (u' + v') * k := by grind
    omega
  generalize hv2 : v' * k * (u + v) - v * (u' + v') * N = v2 at *
  have f := h1 ((u + v) * (u' + v') * k - v2) v2 (by omega) (by omega) (by omega)
  have es : (u + v) * (u' + v') * k - v2 + v2 = (u + v) * (u' + v') * k := by omega
  rw [es] at f
  have hh := height (m := (u + v) * (u' + v') * k) (p := v2) (q := v' * k * (u + v)) hab hle (by omega) (by omega) (by omega)
  have i1 := idb1 ax ay bx bY cx cy dx dy u v u' v' N k v2 hNe hk hv2
  have i2 := idb2 ax ay bx bY cx cy dx dy u v u' v' k v2
  have i3 := idb3 ax ay bx bY cx cy dx dy u v u' v'
  generalize (bx - ax) * (cy - ay) - (bY - ay) * (cx - ax) = a at *
  generalize (bx - ax) * (dy - ay) - (bY - ay) * (dx - ax) = b at *
  generalize (u + v) * (u' + v') * k * ax - (((u + v) * (u' + v') * k - v2) * cx + v2 * dx) = zx at *
  generalize (u + v) * (u' + v') * k * ay - (((u + v) * (u' + v') * k - v2) * cy + v2 * dy) = zy at *
  generalize (u' + v') * (u * ax + v * bx) - (u + v) * (u' * cx + v' * dx) = wx at *
  generalize (u' + v') * (u * ay + v * bY) - (u + v) * (u' * cy + v' * dy) = wy at *
  have j1 := lagr (bx - ax) (bY - ay) zx zy
  have j2 := lagr (bx - ax) (bY - ay) wx wy
  rw [hNe, i1, i2, negsq] at j1
  rw [hNe, i3, negsq] at j2
  have j3 : N * (k * k * (wx * wx + wy * wy)) = k * ((bx - ax) * wx + (bY - ay) * wy) * (k * ((bx - ax) * wx + (bY - ay) * wy)) + ((u + v) * (u' + v') * k * a + v' * k * (u + v) * (b - a)) * ((u + v) * (u' + v') * k * a + v' * k * (u + v) * (b - a)) := by
    have e1 : N * (k * k * (wx * wx + wy * wy)) = k * k * (N * (wx * wx + wy * wy)) := Int.mul_left_comm _ _ _
    rw [e1, j2]
    generalize (bx - ax) * wx + (bY - ay) * wy = c
    clear j1 j2 i1 i2 i3 e1 f hh hvv hm2 hmk hvN hlt hab hle h1 es hNe hk hv2
    grind
  have l1 : zx * zx + zy * zy ≤ k * k * (wx * wx + wy * wy) := le_of_mul_pos hN (by omega)
  refine le_of_mul_pos (Int.mul_pos kpos kpos) ?_
  have e : k * k * (B * ((u + v) * (u' + v') * ((u + v) * (u' + v')))) = B * ((u + v) * (u' + v') * k * ((u + v) * (u' + v') * k)) := by grind
  omega
/-- the foot falls on the first segment -/
theorem case_a (h3 : Far B cx cy ax ay bx bY)
    (hab : 0 ≤ ((bx - ax) * (cy - ay) - (bY - ay) * (cx - ax)) * ((bx - ax) * (dy - ay) - (bY - ay) * (dx - ax)))
    (hle : ((bx - ax) * (cy - ay) - (bY - ay) * (cx - ax)) * ((bx - ax) * (cy - ay) - (bY - ay) * (cx - ax)) ≤ ((bx - ax) * (dy - ay) - (bY - ay) * (dx - ax)) * ((bx - ax) * (dy - ay) - (bY - ay) * (dx - ax)))
    (hN : 0 < (bx - ax) * (bx - ax) + (bY - ay) * (bY - ay)) (hu : 0 ≤ u) (hv : 0 ≤ v) (hs : 0 < u + v) (hu' : 0 ≤ u') (hv' : 0 ≤ v') (hs' : 0 < u' + v')
    (g1 : 0 ≤ v * (u' + v') * ((bx - ax) * (bx - ax) + (bY - ay) * (bY - ay)) - v' * ((bx - ax) * (dx - cx) + (bY - ay) * (dy - cy)) * (u + v))
    (g2 : v * (u' + v') * ((bx - ax) * (bx - ax) + (bY - ay) * (bY - ay)) - v' * ((bx - ax) * (dx - cx) + (bY - ay) * (dy - cy)) * (u + v) ≤ (u + v) * (u' + v') * ((bx - ax) * (bx - ax) + (bY - ay) * (bY - ay))) :
    B * (((u + v) * (u' + v')) * ((u + v) * (u' + v'))) ≤ ((u' + v') * (u * ax + v * bx) - (u + v) * (u' * cx + v' * dx)) * ((u' + v') * (u * ax + v * bx) - (u + v) * (u' * cx + v' * dx))
      + ((u' + v') * (u * ay + v * bY) - (u + v) * (u' * cy + v' * dy)) * ((u' + v') * (u * ay + v * bY) - (u + v) * (u' * cy + v' * dy)) := by
  generalize hNe : (bx - ax) * (bx - ax) + (bY - ay) * (bY - ay) = N at *
  generalize hk : (bx - ax) * (dx - cx) + (bY - ay) * (dy - cy) = k at *
  generalize hv1 : v * (u' + v') * N - v' * k * (u + v) = v1 at *
  have hm1 : 0 < (u + v) * (u' + v') * N := Int.mul_pos (Int.mul_pos hs hs') hN
  have f := h3 ((u + v) * (u' + v') * N - v1) v1 (by omega) (by omega) (by omega)
  have es : (u + v) * (u' + v') * N - v1 + v1 = (u + v) * (u' + v') * N := by omega
  rw [es] at f
  have hh := height (m := (u + v) * (u' + v')) (p := 0) (q := (u + v) * v') hab hle (Int.mul_nonneg (by omega) (by omega)) (by omega) (Int.mul_nonneg (by omega) hv')
  have i1 := ida1 ax ay bx bY cx cy dx dy u v u' v' N k v1 hNe hk hv1
  have i2 := ida2 ax ay bx bY cx cy u v u' v' N v1
  have i3 := idb3 ax ay bx bY cx cy dx dy u v u' v'
  generalize (bx - ax) * (cy - ay) - (bY - ay) * (cx - ax) = a at *
  generalize (bx - ax) * (dy - ay) - (bY - ay) * (dx - ax) = b at *
  generalize (u + v) * (u' + v') * N * cx - (((u + v) * (u' + v') * N - v1) * ax + v1 * bx) = zx at *
  generalize (u + v) * (u' + v') * N * cy - (((u + v) * (u' + v') * N - v1) * ay + v1 * bY) = zy at *
  generalize (u' + v') * (u * ax + v * bx) - (u + v) * (u' * cx + v' * dx) = wx at *
  generalize (u' + v') * (u * ay + v * bY) - (u + v) * (u' * cy + v' * dy) = wy at *
  have j1 := lagr (bx - ax) (bY - ay) zx zy
  have j2 := lagr (bx - ax) (bY - ay) wx wy
  rw [hNe, i1, i2, negsq] at j1
  rw [hNe, i3, negsq] at j2
  have z0 : (u + v) * (u' + v') * a + 0 * (b - a) = (u + v) * (u' + v') * a := by omega
  rw [z0] at hh
  have hNN := Int.mul_le_mul_of_nonneg_left hh (sq_nonneg N)
  have l1 : zx * zx + zy * zy ≤ N * N * (wx * wx + wy * wy) := by
    refine le_of_mul_pos hN ?_
    have e1 : N * (N * N * (wx * wx + wy * wy)) = N * N * (N * (wx * wx + wy * wy)) := by grind
    rw [j1, e1, j2]
    generalize (bx - ax) * wx + (bY - ay) * wy = c at *
    generalize (u + v) * (u' + v') * a + (u + v) * v' * (b - a) = X at *
    generalize (u + v) * (u' + v') * a = Y at *
    have e2 : N * c * (N * c) + N * Y * (N * Y) = N * N * (c * c) + N * N * (Y * Y) := by grind
    rw [e2, Int.mul_add (N * N)]
    omega
  refine le_of_mul_pos (Int.mul_pos hN hN) ?_
  have e : N * N * (B * ((u + v) * (u' + v') * ((u + v) * (u' + v')))) = B * ((u + v) * (u' + v') * N * ((u + v) * (u' + v') * N)) := by grind
  omega
/-- the second segment on one side of the first one's line, its start the nearer end -/
theorem sep_near (h1 : Far B ax ay cx cy dx dy) (h2 : Far B bx bY cx cy dx dy) (h3 : Far B cx cy ax ay bx bY)
    (hab : 0 ≤ ((bx - ax) * (cy - ay) - (bY - ay) * (cx - ax)) * ((bx - ax) * (dy - ay) - (bY - ay) * (dx - ax)))
    (hle : ((bx - ax) * (cy - ay) - (bY - ay) * (cx - ax)) * ((bx - ax) * (cy - ay) - (bY - ay) * (cx - ax)) ≤ ((bx - ax) * (dy - ay) - (bY - ay) * (dx - ax)) * ((bx - ax) * (dy - ay) - (bY - ay) * (dx - ax))) :
    Sep B ax ay bx bY cx cy dx dy := fun u v u' v' hu hv hs hu' hv' hs' => by
  rcases (by have a1 := sq_nonneg (bx - ax); have a2 := sq_nonneg (bY - ay); omega : 0 < (bx - ax) * (bx - ax) + (bY - ay) * (bY - ay) ∨ ((bx - ax) * (bx - ax) = 0 ∧ (bY - ay) * (bY - ay) = 0)) with hN | ⟨n1, n2⟩
  · rcases (by omega : v * (u' + v') * ((bx - ax) * (bx - ax) + (bY - ay) * (bY - ay)) < v' * ((bx - ax) * (dx - cx) + (bY - ay) * (dy - cy)) * (u + v) ∨
      0 ≤ v * (u' + v') * ((bx - ax) * (bx - ax) + (bY - ay) * (bY - ay)) - v' * ((bx - ax) * (dx - cx) + (bY - ay) * (dy - cy)) * (u + v)) with q | q
    · exact case_b h1 hab hle hN hu hv hs hu' hv' hs' q
    · rcases (by omega : v * (u' + v') * ((bx - ax) * (bx - ax) + (bY - ay) * (bY - ay)) - v' * ((bx - ax) * (dx - cx) + (bY - ay) * (dy - cy)) * (u + v) ≤ (u + v) * (u' + v') * ((bx - ax) * (bx - ax) + (bY - ay) * (bY - ay)) ∨
        (u + v) * (u' + v') * ((bx - ax) * (bx - ax) + (bY - ay) * (bY - ay)) < v * (u' + v') * ((bx - ax) * (bx - ax) + (bY - ay) * (bY - ay)) - v' * ((bx - ax) * (dx - cx) + (bY - ay) * (dy - cy)) * (u + v)) with q2 | q2
      · exact case_a h3 hab hle hN hu hv hs hu' hv' hs' q q2
      · -- the same from the other end
        have e1 : (ax - bx) * (cy - bY) - (ay - bY) * (cx - bx) = -((bx - ax) * (cy - ay) - (bY - ay) * (cx - ax)) := by grind
        have e2 : (ax - bx) * (dy - bY) - (ay - bY) * (dx - bx) = -((bx - ax) * (dy - ay) - (bY - ay) * (dx - ax)) := by grind
        have nn : ∀ x y : Int, -x * -y = x * y := fun x y => Int.neg_mul_neg x y
        have nq : (ax - bx) * (ax - bx) + (ay - bY) * (ay - bY) = (bx - ax) * (bx - ax) + (bY - ay) * (bY - ay) := by grind
        have r := case_b (B := B) (ax := bx) (ay := bY) (bx := ax) (bY := ay) (cx := cx) (cy := cy) (dx := dx) (dy := dy) (u := v) (v := u) (u' := u') (v' := v') h2
          (by rw [e1, e2, nn]; exact hab) (by rw [e1, e2, nn, nn]; exact hle) (by rw [nq]; exact hN) hv hu (by omega) hu' hv' hs' (by
            have e3 : u * (u' + v') * ((ax - bx) * (ax - bx) + (ay - bY) * (ay - bY)) = (u + v) * (u' + v') * ((bx - ax) * (bx - ax) + (bY - ay) * (bY - ay)) - v * (u' + v') * ((bx - ax) * (bx - ax) + (bY - ay) * (bY - ay)) := by grind
            have e4 : v' * ((ax - bx) * (dx - cx) + (ay - bY) * (dy - cy)) * (v + u) = - (v' * ((bx - ax) * (dx - cx) + (bY - ay) * (dy - cy)) * (u + v)) := by grind
            omega)
        have c1 : v + u = u + v := Int.add_comm _ _
        have c2 : v * bx + u * ax = u * ax + v * bx := Int.add_comm _ _
        have c3 : v * bY + u * ay = u * ay + v * bY := Int.add_comm _ _
        rw [c1, c2, c3] at r
        exact r
  · have p0 : bx - ax = 0 := by rcases Int.mul_eq_zero.mp n1 with z | z <;> exact z
    have q0 : bY - ay = 0 := by rcases Int.mul_eq_zero.mp n2 with z | z <;> exact z
    have ebx : bx = ax := by omega
    have eby : bY = ay := by omega
    subst ebx eby
    have f := h1 u' v' hu' hv' hs'
    have f2 := Int.mul_le_mul_of_nonneg_left f (sq_nonneg (u + v))
    have e1 : (u + v) * (u + v) * (B * ((u' + v') * (u' + v'))) = B * ((u + v) * (u' + v') * ((u + v) * (u' + v'))) := by grind
    have e2 : (u + v) * (u + v) * (((u' + v') * bx - (u' * cx + v' * dx)) * ((u' + v') * bx - (u' * cx + v' * dx)) + ((u' + v') * bY - (u' * cy + v' * dy)) * ((u' + v') * bY - (u' * cy + v' * dy)))
      = ((u' + v') * (u * bx + v * bx) - (u + v) * (u' * cx + v' * dx)) * ((u' + v') * (u * bx + v * bx) - (u + v) * (u' * cx + v' * dx)) + ((u' + v') * (u * bY + v * bY) - (u + v) * (u' * cy + v' * dy)) * ((u' + v') * (u * bY + v * bY) - (u + v) * (u' * cy + v' * dy)) := by grind
    omega
theorem sep_side (h1 : Far B ax ay cx cy dx dy) (h2 : Far B bx bY cx cy dx dy) (h3 : Far B cx cy ax ay bx bY) (h4 : Far B dx dy ax ay bx bY)
    (hab : 0 ≤ ((bx - ax) * (cy - ay) - (bY - ay) * (cx - ax)) * ((bx - ax) * (dy - ay) - (bY - ay) * (dx - ax))) : Sep B ax ay bx bY cx cy dx dy := by
  rcases (by omega : ((bx - ax) * (cy - ay) - (bY - ay) * (cx - ax)) * ((bx - ax) * (cy - ay) - (bY - ay) * (cx - ax)) ≤ ((bx - ax) * (dy - ay) - (bY - ay) * (dx - ax)) * ((bx - ax) * (dy - ay) - (bY - ay) * (dx - ax)) ∨
    ((bx - ax) * (dy - ay) - (bY - ay) * (dx - ax)) * ((bx - ax) * (dy - ay) - (bY - ay) * (dx - ax)) ≤ ((bx - ax) * (cy - ay) - (bY - ay) * (cx - ax)) * ((bx - ax) * (cy - ay) - (bY - ay) * (cx - ax))) with q | q
  · exact sep_near h1 h2 h3 hab q
  · exact (sep_near h1.swap h2.swap h4 (by rw [Int.mul_comm]; exact hab) q).swap2
end

def sgn (n : Int) : Int := (if 0 < n then 1 else 0) - (if n < 0 then 1 else 0)
theorem sgn_mul {a b : Int} (h : ¬ sgn a * sgn b < 0) : 0 ≤ a * b := by
  rcases (by omega : a < 0 ∨ a = 0 ∨ 0 < a) with ha | ha | ha <;> rcases (by omega : b < 0 ∨ b = 0 ∨ 0 < b) with hb | hb | hb
  · exact Int.mul_nonneg_of_nonpos_of_nonpos (by omega) (by omega)
  · simp [hb]
  · exfalso
    apply h
    simp [sgn, ha, hb, show ¬ 0 < a by omega, show ¬ b < 0 by omega]
  · simp [ha]
  · simp [ha]
  · simp [ha]
  · exfalso
    apply h
    simp [sgn, ha, hb, show ¬ a < 0 by omega, show ¬ 0 < b by omega]
  · simp [hb]
  · exact Int.mul_nonneg (by omega) (by omega)
def crossesB (a b c d : Pt) : Bool := decide (sgn (crossP a b c) * sgn (crossP a b d) < 0) && decide (sgn (crossP c d a) * sgn (crossP c d b) < 0)

theorem sep_of {B : Int} {a b c d : Pt} (hc : crossesB a b c d = false) (h1 : ¬ (pointSq a c d).1 < B * (pointSq a c d).2) (h2 : ¬ (pointSq b c d).1 < B * (pointSq b c d).2)
    (h3 : ¬ (pointSq c a b).1 < B * (pointSq c a b).2) (h4 : ¬ (pointSq d a b).1 < B * (pointSq d a b).2) : Sep B a.1 a.2 b.1 b.2 c.1 c.2 d.1 d.2 := by
  have f1 := far_of h1
  have f2 := far_of h2
  have f3 := far_of h3
  have f4 := far_of h4
  unfold crossesB at hc
  rcases Bool.and_eq_false_iff.mp hc with q | q
  · exact sep_side f1 f2 f3 f4 (sgn_mul (of_decide_eq_false q))
  · exact (sep_side f3 f4 f1 f2 (sgn_mul (of_decide_eq_false q))).flip
end Geo
set_option maxHeartbeats 4000000
/-! any of a generator expression whose element is any test by the layer's rules: one for, or two. -/
namespace AnyG
open PySem PySem.Spec PyProof.Rows L2
/-! ### any over a generator that hands out truth values -/
/-- the generator's object, its state's number, a quiet table -/
def Gd (a : Addr) (g : Nat) (s : Shared) : Prop := AllBare s.gens ∧ s.heap.NoLimit ∧ s.heap.IsGen a g
/-- handed out: True, behind which T; or False, and on -/
def Pr (a : Addr) (g : Nat) (T : Shared → Prop) : Protocol := fun _ _ v s kap =>
  (v = .bool true ∧ T s) ∨ (v = .bool false ∧ Gd a g s ∧ ∀ s'' : Shared, s''.heap = s.heap → s''.os = s.os → AllBare s''.gens → kap (.send .none) s'')
def En (F : Shared → Prop) : GenEnd := fun n _ r s => r = .ok .next ∧ F s
/-- a word that looks at the heap, the world outside and the generators' quiet alone -/
def Calm (T : Shared → Prop) : Prop := ∀ s s' : Shared, T s → s'.heap = s.heap → s'.os = s.os → AllBare s'.gens → T s'

theorem setGen_heap (s : Shared) (g : Nat) (x : GenState) : (s.setGen g x).heap = s.heap := rfl
theorem setGen_os (s : Shared) (g : Nat) (x : GenState) : (s.setGen g x).os = s.os := rfl
theorem bare_set {s : Shared} {g : Nat} {x : GenState} (h : AllBare s.gens) (hx : x.bare = true) : AllBare (s.setGen g x).gens := allBare_setGen h hx
theorem set_at {s : Shared} {g : Nat} {x : GenState} (h : g < s.gens.size) : (s.setGen g x).gens[g]? = some x := by
  simp [Shared.setGen, h]

section
variable {prog : Program} {w : World} {A : Around} {a : Addr} {g : Nat} {T Fl : Shared → Prop} {R : Result → Shared → Prop}
/-- the loop of any -/
theorem any_loop (hh : A.handled = none) (hroom : A.depth < recursionLimit) (hT : ∀ s : Shared, T s → ∀ s', s'.heap = s.heap → s'.os = s.os → (AllBare s.gens → AllBare s'.gens) → R (.ok (.ret (.bool true))) s')
    (hF : ∀ s : Shared, Fl s → ∀ s', (∀ b o, s.heap.get? b = some o → s'.heap.get? b = some o) → s'.os = s.os → (AllBare s.gens → AllBare s'.gens) → R (.ok (.ret (.bool false))) s') :
    ∀ (n : Nat) (s : Shared) (gs : GenState), Gd a g s → s.gens[g]? = some gs →
      (∀ s'' : Shared, s''.heap = s.heap → s''.os = s.os → AllBare s''.gens → gs.Goes (model prog w) A.in1.in1 (En Fl) (Pr a g T) n (.send .none) s'') →
      codeAny (model prog w) A (.builtin "any.loop" ⟨[.ref a], []⟩) R s := by
  intro n
  induction n with
  | zero =>
    intro s gs hG hgs hgo
    refine codeAny_builtin F.entry_any_loop ?_
    rw [Around.under_plainId F.plain_any_loop _]
    show wpAny _ A.in1 (pyNext (.ref a) >>= _) _ _ s
    have go := hgo (s.setGen g .running) rfl rfl (bare_set hG.1 rfl)
    refine wpAny_bind (wpAny_pyNext_genexpQ (P := fun _ _ s₁ => Fl s₁) hh hG.2.1 hroom hG.2.2 hgs go (fun v s₁ gs' hb hv => ?_) fun s₁ hp h' hk => ?_)
    · rcases hv with ⟨rfl, ht⟩ | ⟨_, hG1, q⟩
      · refine wpAny_bind (wpAny_holding (wpAny_truthy_bool ?_))
        refine wpAny_bind (wpAny_letGo ?_)
        refine wpAny_bind (wpAny_rule (wpAny_pure ?_))
        exact hT s₁ ht _ rfl rfl fun q => bare_set q hb
      · exact False.elim (q s₁ rfl rfl hG1.1)
    · refine wpAny_bind (wpAny_rule (wpAny_pure ?_))
      exact hF s₁ hp _ hk rfl fun q => bare_set q rfl
  | succ n ih =>
    intro s gs hG hgs hgo
    refine codeAny_builtin F.entry_any_loop ?_
    rw [Around.under_plainId F.plain_any_loop _]
    show wpAny _ A.in1 (pyNext (.ref a) >>= _) _ _ s
    have go := hgo (s.setGen g .running) rfl rfl (bare_set hG.1 rfl)
    have hlt : g < s.gens.size := by
      rcases Nat.lt_or_ge g s.gens.size with z | z
      · exact z
      · rw [Array.getElem?_eq_none z] at hgs
        cases hgs
    refine wpAny_bind (GenW.wpAny_gsz (n := g + 1) hlt ?_)
    refine wpAny_pyNext_genexpQ (P := fun _ _ s₁ => Fl s₁) hh hG.2.1 hroom hG.2.2 hgs go (fun v s₁ gs' hb hv => ?_) fun s₁ hp h' hk => ?_
    · intro hsz
      rcases hv with ⟨rfl, ht⟩ | ⟨rfl, hG1, q⟩
      · refine wpAny_bind (wpAny_holding (wpAny_truthy_bool ?_))
        refine wpAny_bind (wpAny_letGo ?_)
        refine wpAny_bind (wpAny_rule (wpAny_pure ?_))
        exact hT s₁ ht _ rfl rfl fun q => bare_set q hb
      · refine wpAny_bind (wpAny_holding (wpAny_truthy_bool ?_))
        refine wpAny_bind (wpAny_letGo ?_)
        have hsz1 : g < s₁.gens.size := by
          rw [GenW.setGen_size] at hsz
          exact hsz
        refine wpAny_pure ⟨plainId_quiet F.plain_any_loop _, ih (s₁.setGen g gs') gs' ⟨bare_set hG1.1 hb, hG1.2⟩ (set_at hsz1) fun s'' e1 e2 e3 => ?_⟩
        exact q s'' e1 e2 e3
    · intro _
      refine wpAny_bind (wpAny_rule (wpAny_pure ?_))
      exact hF s₁ hp _ hk rfl fun q => bare_set q rfl
/-- any(g) of a generator that has come -/
theorem call_any_gen {Q : Value → Shared → Prop} {E : Value → Shared → Prop} {n : Nat} {s : Shared} {gs : GenState} (hh : A.handled = none) (hroom : A.depth < recursionLimit) (hG : Gd a g s) (hgs : s.gens[g]? = some gs)
    (hgo : ∀ s'' : Shared, s''.heap = s.heap → s''.os = s.os → AllBare s''.gens → gs.Goes (model prog w) A.in1.in1 (En Fl) (Pr a g T) n (.send .none) s'')
    (hT : ∀ s : Shared, T s → ∀ s', s'.heap = s.heap → s'.os = s.os → (AllBare s.gens → AllBare s'.gens) → Q (.bool true) s')
    (hF : ∀ s : Shared, Fl s → ∀ s', (∀ b o, s.heap.get? b = some o → s'.heap.get? b = some o) → s'.os = s.os → (AllBare s.gens → AllBare s'.gens) → Q (.bool false) s') :
    wpAny (model prog w) A (call (.builtin "any") [.ref a]) Q E s := by
  refine call_function_tree F.kind_any F.plain_any F.entry_any (F.args_any1 _) ?_
  unfold Builtin.«any»
  refine wpAny_bind (m := oneArg "any" _) (wpAny_pure ?_)
  refine wpAny_bind (wpAny_pyIter_gen hG.2.2 ?_)
  exact wpAny_pure ⟨plainId_quiet F.plain_any_loop _, any_loop hh hroom (fun s h s' e1 e2 e3 => hT s h s' e1 e2 e3) (fun s h s' e1 e2 e3 => hF s h s' e1 e2 e3) n s gs hG hgs hgo⟩
end
end AnyG
set_option maxHeartbeats 4000000
namespace AnyG
open PySem PySem.Spec PyProof.Rows L2
/-- what σ knows τ knows -/
def kp : L2.St → L2.St → Prop
  | [], [] => True
  | none :: r, _ :: t => kp r t
  | some v :: r, some u :: t => u = v ∧ kp r t
  | _, _ => False
theorem kp_len : ∀ {σ τ : L2.St}, kp σ τ → σ.length = τ.length
  | [], [], _ => rfl
  | none :: r, u :: t, h => by
    have q : kp r t := by
      cases u <;> exact h
    rw [List.length_cons, List.length_cons, kp_len q]
  | some v :: r, some u :: t, h => by rw [List.length_cons, List.length_cons, kp_len h.2]
  | some v :: r, none :: t, h => h.elim
  | [], _ :: _, h => by
    rename_i u t
    cases u <;> exact h.elim
  | none :: _, [], h => h.elim
  | some _ :: _, [], h => h.elim
theorem kp_get : ∀ {σ τ : L2.St}, kp σ τ → ∀ (i : Nat) (v : V), σ[i]? = some (some v) → τ[i]? = some (some v)
  | [], [], _, i, v, e => by simp at e
  | none :: r, u :: t, h, i, v, e => by
    have q : kp r t := by
      cases u <;> exact h
    cases i with
    | zero => simp at e
    | succ i =>
      rw [List.getElem?_cons_succ] at e ⊢
      exact kp_get q i v e
  | some x :: r, some u :: t, h, i, v, e => by
    cases i with
    | zero =>
      rw [List.getElem?_cons_zero] at e ⊢
      rw [h.1]
      exact e
    | succ i =>
      rw [List.getElem?_cons_succ] at e ⊢
      exact kp_get h.2 i v e
  | some _ :: _, none :: _, h, _, _, _ => h.elim
  | [], u :: _, h, _, _, _ => by cases u <;> exact h.elim
  | none :: _, [], h, _, _, _ => h.elim
  | some _ :: _, [], h, _, _, _ => h.elim

/-! ### the readings -/
/-- one for: W the word by the turn and what is left; Q: what is wanted behind True, behind False -/
def tG1 (g : TG) (te : TE) (Q : Bool → Hp → Prop) (J : It) (σ : L2.St) (H1 : Hp) : Prop :=
  ∃ W : Nat → Nat → Hp → Prop, (∃ m, W 0 m H1) ∧ ∀ i m H, W i m H → (J.stop i H ∧ Q false H) ∨
    (J.go i H ∧ ∃ Nx : Hp → Prop, (∀ H', Nx H' → ∃ m', m' < m ∧ W (i + 1) m' H') ∧
      ∀ x H', J.yld i H x H' → g x σ H' fun σ2 H2 => kp σ σ2 ∧ te σ2 H2 fun v H3 => ∃ b, v = .bl b ∧ if b = true then Q true H3 else Nx H3)
/-- two: M bounds the turns of the inner one -/
def tG2 (M : Nat) (g : TG) (wi1 : TI) (g1 : TG) (te : TE) (Q : Bool → Hp → Prop) (J : It) (σ : L2.St) (H1 : Hp) : Prop :=
  ∃ W : Nat → Nat → Hp → Prop, (∃ m, W 0 m H1) ∧ ∀ i m H, W i m H → (J.stop i H ∧ Q false H) ∨
    (J.go i H ∧ ∃ Nx : Hp → Prop, (∀ H', Nx H' → ∃ m', m' < m ∧ W (i + 1) m' H') ∧
      ∀ x H', J.yld i H x H' → g x σ H' fun σ2 H2 => kp σ σ2 ∧ wi1 σ2 H2 fun J1 H3 =>
        ∃ W1 : Nat → Nat → Hp → Prop, (∃ k, k ≤ M ∧ W1 0 k H3) ∧ ∀ j k H, W1 j k H → (J1.stop j H ∧ Nx H) ∨
          (J1.go j H ∧ ∃ Nx1 : Hp → Prop, (∀ H', Nx1 H' → ∃ k', k' < k ∧ W1 (j + 1) k' H') ∧
            ∀ y H', J1.yld j H y H' → g1 y σ2 H' fun σ3 H4 => kp σ2 σ3 ∧ te σ3 H4 fun v H5 => ∃ b, v = .bl b ∧ if b = true then Q true H5 else Nx1 H5))

/-! ### one for -/
section
variable {Y : Cx} {A : Around} {a : Addr} {gi : Nat} {elt tg iter : Expr} {scope : Scope} {pos : Pos} {it : Addr} {fp : List Addr} {tn : Nat → Heap → Prop} {J : It} {g : TG} {te : TE} {Q : Bool → Hp → Prop} {σ : L2.St}
def Tt (Y : Cx) (Q : Bool → Hp → Prop) (b : Bool) (s : Shared) : Prop := ∃ pins τ H, Inv Y pins τ H s ∧ Q b H

theorem seg_one (hc : Y.calm = true) (hx : Y.xe = fun _ _ => False) (hco : Y.env.scope.isCoroutine = false) (hA : A.over (.compLoop (.GeneratorExp elt [⟨tg, iter, [], 0⟩] scope pos) 0 (.ref it) .none Y.env) [] = Y.A)
    (hG : ∀ {pins τ H s}, Inv Y pins τ H s → Gd a gi s) (Tn : Turn Y.prog Y.w Y.K tg J fp it tn)
    (stat : ∀ {τ H s}, Inv Y [] τ H s → (∀ b ∈ fp, H b = none) → ∀ b ∈ fp, FpOk Y [] H b) (pg : PG Y tg g) (pe : PE Y elt te) {W : Nat → Nat → Hp → Prop}
    (turn : ∀ i m H, W i m H → (J.stop i H ∧ Q false H) ∨ (J.go i H ∧ ∃ Nx : Hp → Prop, (∀ H', Nx H' → ∃ m', m' < m ∧ W (i + 1) m' H') ∧
      ∀ x H', J.yld i H x H' → g x σ H' fun σ2 H2 => kp σ σ2 ∧ te σ2 H2 fun v H3 => ∃ b, v = .bl b ∧ if b = true then Q true H3 else Nx H3)) :
    ∀ (m i n : Nat) (s₀ s : Shared) (H : Hp), m < n → Inv Y [] σ H s → tn i s.heap → (∀ b ∈ fp, H b = none) → W i m H →
      Seg (model Y.prog Y.w) A (En (Tt Y Q false)) (Pr a gi (Tt Y Q true)) n s₀ (.compLoop (.GeneratorExp elt [⟨tg, iter, [], 0⟩] scope pos) 0 (.ref it) .none Y.env)
        ((model Y.prog Y.w).den (.compLoop (.GeneratorExp elt [⟨tg, iter, [], 0⟩] scope pos) 0 (.ref it) .none Y.env)) [] s := by
  intro m
  induction m using Nat.strongRecOn with
  | ind m ih =>
    intro i n s₀ s H hn I st hfp w
    show Seg _ A _ _ _ s₀ _ ((compTurn (.GeneratorExp elt [⟨tg, iter, [], 0⟩] scope pos) 0 (.ref it) .none Y.env).onRaise (leaving Y.env)) [] s
    rw [compTurn_gen, Sem.onRaise_eq_wrap]
    refine seg_bind_wrap (wpAny_standAt ?_)
    rcases turn i m H w with ⟨stop, q⟩ | ⟨go, Nx, hNx, step⟩
    · refine seg_bind_wrap ?_
      rw [hA]
      refine thnF (Tn.done Y rfl rfl rfl hc i [] s σ H (fun _ _ => False) I (stat I hfp) st stop) fun r s1 ⟨hr, I1⟩ => ?_
      subst hr
      exact seg_end (.ok .next) ⟨rfl, [], σ, H, I1, q⟩
    · refine seg_bind_wrap ?_
      rw [hA]
      refine thnF (Tn.item Y rfl rfl rfl hc i [] s σ H (fun _ _ => False) I (stat I hfp) st go) fun r s1 ⟨u, hr, h1⟩ => ?_
      subst hr
      refine seg_bind_wrap ?_
      rw [hA]
      refine wpAny_mono h1 (fun _ s2 ⟨x, H2, I2, r2, y2, st2, n2⟩ => ?_) ?_
      · have I2' := I2.pinned (stat I2 n2) (Tn.obj _ _ st2)
        refine seg_bind_wrap ?_
        rw [hA]
        have pr := pg.run _ s2 σ H2 x u _ I2' r2 (step x H2 y2)
        rw [hx] at pr
        refine thnF pr fun _ s3 ⟨σ3, H3, I3, k3, q3⟩ => ?_
        refine seg_bind_wrap ?_
        simp only [List.forIn_nil]
        refine wpAny_pure ?_
        have hy : ∀ v, yieldOut Y.env v = yieldValue v := fun v => by simp only [yieldOut, hco, Bool.false_eq_true, if_false]
        simp only [hy, if_true]
        rw [Sem.bind_eq_wrap', Sem.bind_eq_wrap', Sem.wrap_wrap, Sem.wrap_wrap]
        refine seg_wrap ?_
        rw [hA]
        have er := pe.run _ s3 σ3 H3 _ I3 q3
        rw [hx] at er
        refine thnF er fun v s4 ⟨z, H4, I4, r4, b, hb, q4⟩ => ?_
        subst hb
        cases r4
        obtain ⟨n, rfl⟩ : ∃ k, n = k + 1 := ⟨n - 1, by omega⟩
        refine seg_at (seg_yield rfl rfl rfl ?_)
        cases b with
        | true => exact .inl ⟨rfl, _, _, _, I4, q4⟩
        | false =>
          refine .inr ⟨rfl, hG I4, fun s5 e1 e2 e3 => ?_⟩
          obtain ⟨m', hm, w'⟩ := hNx H4 q4
          have I5 : Inv Y ([] ++ pinsAt fp s2.heap) σ3 H4 s5 := I4.call' (ch := []) e2 (by rw [e1]; exact Un.refl) (by rw [e1]; exact I4.hok) e3 (fun b hb => absurd hb (by simp))
          have pin' : ∀ b ∈ fp, ∀ o, s2.heap.get? b = some o → s5.heap.get? b = some o ∧ H4 b = none := fun b hb o e =>
            let z := I5.pin (b, o) (List.mem_append_right _ (List.mem_append_right _ (mem_pinsAt hb e)))
            ⟨z.1, z.2.1⟩
          refine seg_again rfl (ih m' hm (i + 1) n s5 s5 H4 (by omega) ((I5.unpinned (pins := [])).weak (kp_len k3) (kp_get k3)) (Tn.keep _ _ _ st2 fun b hb o e => (pin' b hb o e).1) (fun b hb => ?_) w')
          obtain ⟨o, e, _⟩ := Tn.obj _ _ st2 b hb
          exact (pin' b hb o e).2
      · exact fun _ _ z => z.elim
end
end AnyG
set_option maxHeartbeats 4000000
namespace AnyG
open PySem PySem.Spec PyProof.Rows L2
theorem kp_self : ∀ σ : L2.St, kp σ σ
  | [] => trivial
  | none :: r => kp_self r
  | some _ :: r => ⟨rfl, kp_self r⟩
/-! ### the start -/
section
variable {Y : Cx} {A : Around} {a : Addr} {gi : Nat} {elt : Expr} {c0 : Comprehension} {cs : List Comprehension} {scope : Scope} {pos : Pos} {it : Addr} {R : GenEnd} {Pc : Protocol}
theorem seg_start {n : Nat} {s₀ s : Shared} {env : Env} {P : Program} {w : World} (h0 : c0.is_async = 0) (self : ∀ A' : Around, ∀ (Q : Value → Shared → Prop) (E : Value → Shared → Prop), Q (.ref it) s → wpAny (model P w) A' (pyIter (.ref it)) Q E s)
    (loop : Seg (model P w) A R Pc n s₀ (.compLoop (.GeneratorExp elt (c0 :: cs) scope pos) 0 (.ref it) .none env) ((model P w).den (.compLoop (.GeneratorExp elt (c0 :: cs) scope pos) 0 (.ref it) .none env)) [] s) :
    Seg (model P w) A R Pc n s₀ (.compStart (.GeneratorExp elt (c0 :: cs) scope pos) 0 (.ref it) .none env) ((model P w).den (.compStart (.GeneratorExp elt (c0 :: cs) scope pos) 0 (.ref it) .none env)) [] s := by
  obtain ⟨t0, i0, f0, a0⟩ := c0
  obtain rfl : a0 = 0 := h0
  show Seg _ A _ _ _ s₀ _ ((compStart (.GeneratorExp elt (⟨t0, i0, f0, 0⟩ :: cs) scope pos) 0 (.ref it) .none env).onRaise (leaving env)) [] s
  unfold compStart
  rw [Sem.onRaise_eq_wrap]
  show Seg _ A _ _ _ s₀ _ ((ask >>= _).wrap _ _ _ _) [] s
  refine seg_bind_wrap (wpAny_askSetting ?_)
  split
  · exact seg_again rfl loop
  · refine seg_bind_wrap (wpAny_rule ?_)
    show Seg _ A _ _ _ s₀ _ ((standAt i0.pos >>= _).wrap _ _ _ _) [] s
    exact seg_bind_wrap (wpAny_standAt (seg_bind_wrap (self _ _ _ (seg_again rfl loop))))
end
/-! ### two for -/
theorem turn_out (elt t0 i0 t1 i1 : Expr) (scope : Scope) (pos : Pos) (it acc : Value) (env : Env) :
    compTurn (.GeneratorExp elt [⟨t0, i0, [], 0⟩, ⟨t1, i1, [], 0⟩] scope pos) 0 it acc env = (standAt i0.pos >>= fun _ => pyNext it >>= fun r => match r with
      | none => pure (.done .next)
      | some v => letOwnedTupleGo t0 it v >>= fun _ => assign t0 env v >>= fun _ => eval i1 env >>= fun x => standAt i1.pos >>= fun _ => foldedSetIterable i1 env x >>= fun x => holding [x] (pyIter x) >>= fun it1 =>
        runOwn (.compStart (.GeneratorExp elt [⟨t0, i0, [], 0⟩, ⟨t1, i1, [], 0⟩] scope pos) 1 it1 acc env) env >>= fun _ =>
          again (.compLoop (.GeneratorExp elt [⟨t0, i0, [], 0⟩, ⟨t1, i1, [], 0⟩] scope pos) 0 it acc env)) := by rfl
theorem turn_in (elt t0 i0 t1 i1 : Expr) (scope : Scope) (pos : Pos) (it acc : Value) (env : Env) (hco : env.scope.isCoroutine = false) :
    compTurn (.GeneratorExp elt [⟨t0, i0, [], 0⟩, ⟨t1, i1, [], 0⟩] scope pos) 1 it acc env = (standAt i1.pos >>= fun _ => pyNext it >>= fun r => match r with
      | none => pure (.done .next)
      | some v => letOwnedTupleGo t1 it v >>= fun _ => assign t1 env v >>= fun _ => (eval elt env >>= fun z => standAt elt.pos >>= fun _ => yieldValue z >>= fun _ => pure PUnit.unit) >>= fun _ =>
          again (.compLoop (.GeneratorExp elt [⟨t0, i0, [], 0⟩, ⟨t1, i1, [], 0⟩] scope pos) 1 it acc env)) := by
  have hy : ∀ v, yieldOut env v = yieldValue v := fun v => by simp only [yieldOut, hco, Bool.false_eq_true, if_false]
  have e : compTurn (.GeneratorExp elt [⟨t0, i0, [], 0⟩, ⟨t1, i1, [], 0⟩] scope pos) 1 it acc env = (standAt i1.pos >>= fun _ => pyNext it >>= fun r => match r with
      | none => pure (.done .next)
      | some v => letOwnedTupleGo t1 it v >>= fun _ => assign t1 env v >>= fun _ => (eval elt env >>= fun z => standAt elt.pos >>= fun _ => yieldOut env z >>= fun _ => pure PUnit.unit) >>= fun _ =>
          again (.compLoop (.GeneratorExp elt [⟨t0, i0, [], 0⟩, ⟨t1, i1, [], 0⟩] scope pos) 1 it acc env)) := by rfl
  rw [e]
  simp only [hy]
section
variable {Y : Cx} {A : Around} {a : Addr} {gi : Nat} {elt t0 i0 t1 i1 : Expr} {scope : Scope} {pos : Pos} {it : Addr} {fp : List Addr} {tn : Nat → Heap → Prop} {J : It} {g g1 : TG} {te : TE} {wi1 : TI} {Q : Bool → Hp → Prop} {σ : L2.St} {M : Nat}
/-- the inner loop: the outer one waits in its frame -/
theorem seg_in {pins : List (Addr × Obj)} {C0 : Code} {kont : Result → Sem PySem.Fin} {p : Pos} {R : GenEnd} {Nx : Hp → Prop} {F0 : Nat} {Tq : Hp → Prop} (hc : Y.calm = true) (hx : Y.xe = fun _ _ => False) (hco : Y.env.scope.isCoroutine = false) (hA : A.over C0 [] = Y.A)
    (hG : ∀ {pins τ H s}, Inv Y pins τ H s → Gd a gi s) (Tn : Turn Y.prog Y.w Y.K t1 J fp it tn) (stat : ∀ {H : Hp}, (∀ b ∈ fp, H b = none) → ∀ b ∈ fp, FpOk Y pins H b) (pg1 : PG Y t1 g1) (pe : PE Y elt te) {W : Nat → Nat → Hp → Prop}
    (turn : ∀ j k H, W j k H → (J.stop j H ∧ Nx H) ∨ (J.go j H ∧ ∃ Nx1 : Hp → Prop, (∀ H', Nx1 H' → ∃ k', k' < k ∧ W (j + 1) k' H') ∧
      ∀ y H', J.yld j H y H' → g1 y σ H' fun σ3 H4 => kp σ σ3 ∧ te σ3 H4 fun v H5 => ∃ b, v = .bl b ∧ if b = true then Tq H5 else Nx1 H5))
    (hend : ∀ (n' : Nat) (s₀' s' : Shared) (H' : Hp), F0 < n' → Inv Y pins σ H' s' → Nx H' → Seg (model Y.prog Y.w) A R (Pr a gi fun s => ∃ pins τ H, Inv Y pins τ H s ∧ Tq H) n' s₀' C0 (kont (.ok .next)) [] s') :
    ∀ (k j n : Nat) (s₀ s : Shared) (H : Hp), F0 + k < n → Inv Y pins σ H s → tn j s.heap → (∀ b ∈ fp, H b = none) → W j k H →
      Seg (model Y.prog Y.w) A R (Pr a gi fun s => ∃ pins τ H, Inv Y pins τ H s ∧ Tq H) n s₀ (.compLoop (.GeneratorExp elt [⟨t0, i0, [], 0⟩, ⟨t1, i1, [], 0⟩] scope pos) 1 (.ref it) .none Y.env)
        ((model Y.prog Y.w).den (.compLoop (.GeneratorExp elt [⟨t0, i0, [], 0⟩, ⟨t1, i1, [], 0⟩] scope pos) 1 (.ref it) .none Y.env)) [.ret kont none false [] C0 p []] s := by
  have hA1 : A.over (.compLoop (.GeneratorExp elt [⟨t0, i0, [], 0⟩, ⟨t1, i1, [], 0⟩] scope pos) 1 (.ref it) .none Y.env) [.ret kont none false [] C0 p []] = Y.A := (GenW.over_loop rfl rfl).trans hA
  intro k
  induction k using Nat.strongRecOn with
  | ind k ih =>
    intro j n s₀ s H hn I st hfp w
    show Seg _ A _ _ _ s₀ _ ((compTurn (.GeneratorExp elt [⟨t0, i0, [], 0⟩, ⟨t1, i1, [], 0⟩] scope pos) 1 (.ref it) .none Y.env).onRaise (fun x => do noteFrame x Y.env; theTreesLotGoes x)) _ s
    rw [turn_in _ _ _ _ _ _ _ _ _ _ hco, Sem.onRaise_eq_wrap]
    refine seg_bind_wrap (wpAny_standAt ?_)
    rcases turn j k H w with ⟨stop, q⟩ | ⟨go, Nx1, hNx, step⟩
    · refine seg_bind_wrap ?_
      rw [hA1]
      refine thnF (Tn.done Y rfl rfl rfl hc j pins s σ H (fun _ _ => False) I (stat hfp) st stop) fun r s1 ⟨hr, I1⟩ => ?_
      subst hr
      exact seg_leaf (.ok .next) (hend n s₀ s1 H (by omega) I1 q)
    · refine seg_bind_wrap ?_
      rw [hA1]
      refine thnF (Tn.item Y rfl rfl rfl hc j pins s σ H (fun _ _ => False) I (stat hfp) st go) fun r s1 ⟨u, hr, h1⟩ => ?_
      subst hr
      refine seg_bind_wrap ?_
      rw [hA1]
      refine wpAny_mono h1 (fun _ s2 ⟨x, H2, I2, r2, y2, st2, n2⟩ => ?_) fun _ _ z => z.elim
      have I2' := I2.pinned (stat n2) (Tn.obj _ _ st2)
      refine seg_bind_wrap ?_
      rw [hA1]
      have pr := pg1.run _ s2 σ H2 x u _ I2' r2 (step x H2 y2)
      rw [hx] at pr
      refine thnF pr fun _ s3 ⟨σ3, H3, I3, k3, q3⟩ => ?_
      rw [Sem.bind_eq_wrap', Sem.bind_eq_wrap', Sem.wrap_wrap, Sem.wrap_wrap]
      refine seg_wrap ?_
      rw [hA1]
      have er := pe.run _ s3 σ3 H3 _ I3 q3
      rw [hx] at er
      refine thnF er fun v s4 ⟨z, H4, I4, r4, b, hb, q4⟩ => ?_
      subst hb
      cases r4
      obtain ⟨n, rfl⟩ : ∃ q, n = q + 1 := ⟨n - 1, by omega⟩
      refine seg_at (seg_yield rfl rfl rfl ?_)
      cases b with
      | true => exact .inl ⟨rfl, _, _, _, I4, q4⟩
      | false =>
        refine .inr ⟨rfl, hG I4, fun s5 e1 e2 e3 => ?_⟩
        obtain ⟨k', hk', w'⟩ := hNx H4 q4
        have I5 : Inv Y (pins ++ pinsAt fp s2.heap) σ3 H4 s5 := I4.call' (ch := []) e2 (by rw [e1]; exact Un.refl) (by rw [e1]; exact I4.hok) e3 (fun b hb => absurd hb (by simp))
        have pin' : ∀ b ∈ fp, ∀ o, s2.heap.get? b = some o → s5.heap.get? b = some o ∧ H4 b = none := fun b hb o e =>
          let z := I5.pin (b, o) (List.mem_append_right _ (List.mem_append_right _ (mem_pinsAt hb e)))
          ⟨z.1, z.2.1⟩
        refine seg_again rfl (ih k' hk' (j + 1) n s5 s5 H4 (by omega) (I5.unpinned.weak (kp_len k3) (kp_get k3)) (Tn.keep _ _ _ st2 fun b hb o e => (pin' b hb o e).1) (fun b hb => ?_) w')
        obtain ⟨o, e, _⟩ := Tn.obj _ _ st2 b hb
        exact (pin' b hb o e).2
theorem seg_in_start {C0 : Code} {kont : Result → Sem PySem.Fin} {p : Pos} {R : GenEnd} {Pc : Protocol} {n : Nat} {s₀ s : Shared} {env : Env} {P : Program} {w : World}
    (self : ∀ A' : Around, ∀ (Q : Value → Shared → Prop) (E : Value → Shared → Prop), Q (.ref it) s → wpAny (model P w) A' (pyIter (.ref it)) Q E s)
    (loop : Seg (model P w) A R Pc n s₀ (.compLoop (.GeneratorExp elt [⟨t0, i0, [], 0⟩, ⟨t1, i1, [], 0⟩] scope pos) 1 (.ref it) .none env) ((model P w).den (.compLoop (.GeneratorExp elt [⟨t0, i0, [], 0⟩, ⟨t1, i1, [], 0⟩] scope pos) 1 (.ref it) .none env)) [.ret kont none false [] C0 p []] s) :
    Seg (model P w) A R Pc n s₀ (.compStart (.GeneratorExp elt [⟨t0, i0, [], 0⟩, ⟨t1, i1, [], 0⟩] scope pos) 1 (.ref it) .none env)
      ((model P w).den (.compStart (.GeneratorExp elt [⟨t0, i0, [], 0⟩, ⟨t1, i1, [], 0⟩] scope pos) 1 (.ref it) .none env)) [.ret kont none false [] C0 p []] s := by
  show Seg _ A _ _ _ s₀ _ ((compStart (.GeneratorExp elt [⟨t0, i0, [], 0⟩, ⟨t1, i1, [], 0⟩] scope pos) 1 (.ref it) .none env).onRaise (fun x => do noteFrame x env; standAt theWindowsPlace)) _ s
  unfold compStart
  rw [Sem.onRaise_eq_wrap]
  show Seg _ A _ _ _ s₀ _ ((ask >>= _).wrap _ _ _ _) _ s
  refine seg_bind_wrap (wpAny_askSetting ?_)
  split
  · exact seg_again rfl loop
  · refine seg_bind_wrap (wpAny_rule ?_)
    show Seg _ A _ _ _ s₀ _ ((standAt i1.pos >>= _).wrap _ _ _ _) _ s
    exact seg_bind_wrap (wpAny_standAt (seg_bind_wrap (self _ _ _ (seg_again rfl loop))))
theorem seg_two (hc : Y.calm = true) (hx : Y.xe = fun _ _ => False) (hco : Y.env.scope.isCoroutine = false)
    (hA : A.over (.compLoop (.GeneratorExp elt [⟨t0, i0, [], 0⟩, ⟨t1, i1, [], 0⟩] scope pos) 0 (.ref it) .none Y.env) [] = Y.A)
    (hG : ∀ {pins τ H s}, Inv Y pins τ H s → Gd a gi s) (Tn : Turn Y.prog Y.w Y.K t0 J fp it tn)
    (stat : ∀ {τ H s}, Inv Y [] τ H s → (∀ b ∈ fp, H b = none) → ∀ b ∈ fp, FpOk Y [] H b) (pg : PG Y t0 g) (pi : PI Y t1 i1 wi1) (pg1 : PG Y t1 g1) (pe : PE Y elt te) (hs1 : ∀ x, foldedSetIterable i1 Y.env x = pure x) {W : Nat → Nat → Hp → Prop}
    (turn : ∀ i m H, W i m H → (J.stop i H ∧ Q false H) ∨ (J.go i H ∧ ∃ Nx : Hp → Prop, (∀ H', Nx H' → ∃ m', m' < m ∧ W (i + 1) m' H') ∧
      ∀ x H', J.yld i H x H' → g x σ H' fun σ2 H2 => kp σ σ2 ∧ wi1 σ2 H2 fun J1 H3 =>
        ∃ W1 : Nat → Nat → Hp → Prop, (∃ k, k ≤ M ∧ W1 0 k H3) ∧ ∀ j k H, W1 j k H → (J1.stop j H ∧ Nx H) ∨
          (J1.go j H ∧ ∃ Nx1 : Hp → Prop, (∀ H', Nx1 H' → ∃ k', k' < k ∧ W1 (j + 1) k' H') ∧
            ∀ y H', J1.yld j H y H' → g1 y σ2 H' fun σ3 H4 => kp σ2 σ3 ∧ te σ3 H4 fun v H5 => ∃ b, v = .bl b ∧ if b = true then Q true H5 else Nx1 H5))) :
    ∀ (m i n : Nat) (s₀ s : Shared) (H : Hp), (m + 1) * (M + 1) < n → Inv Y [] σ H s → tn i s.heap → (∀ b ∈ fp, H b = none) → W i m H →
      Seg (model Y.prog Y.w) A (En (Tt Y Q false)) (Pr a gi (Tt Y Q true)) n s₀ (.compLoop (.GeneratorExp elt [⟨t0, i0, [], 0⟩, ⟨t1, i1, [], 0⟩] scope pos) 0 (.ref it) .none Y.env)
        ((model Y.prog Y.w).den (.compLoop (.GeneratorExp elt [⟨t0, i0, [], 0⟩, ⟨t1, i1, [], 0⟩] scope pos) 0 (.ref it) .none Y.env)) [] s := by
  intro m
  induction m using Nat.strongRecOn with
  | ind m ih =>
    intro i n s₀ s H hn I st hfp w
    show Seg _ A _ _ _ s₀ _ ((compTurn (.GeneratorExp elt [⟨t0, i0, [], 0⟩, ⟨t1, i1, [], 0⟩] scope pos) 0 (.ref it) .none Y.env).onRaise (leaving Y.env)) [] s
    rw [turn_out, Sem.onRaise_eq_wrap]
    refine seg_bind_wrap (wpAny_standAt ?_)
    rcases turn i m H w with ⟨stop, q⟩ | ⟨go, Nx, hNx, step⟩
    · refine seg_bind_wrap ?_
      rw [hA]
      refine thnF (Tn.done Y rfl rfl rfl hc i [] s σ H (fun _ _ => False) I (stat I hfp) st stop) fun r s1 ⟨hr, I1⟩ => ?_
      subst hr
      exact seg_end (.ok .next) ⟨rfl, [], σ, H, I1, q⟩
    · refine seg_bind_wrap ?_
      rw [hA]
      refine thnF (Tn.item Y rfl rfl rfl hc i [] s σ H (fun _ _ => False) I (stat I hfp) st go) fun r s1 ⟨u, hr, h1⟩ => ?_
      subst hr
      refine seg_bind_wrap ?_
      rw [hA]
      refine wpAny_mono h1 (fun _ s2 ⟨x, H2, I2, r2, y2, st2, n2⟩ => ?_) fun _ _ z => z.elim
      have I2' := I2.pinned (stat I2 n2) (Tn.obj _ _ st2)
      refine seg_bind_wrap ?_
      rw [hA]
      have pr := pg.run _ s2 σ H2 x u _ I2' r2 (step x H2 y2)
      rw [hx] at pr
      refine thnF pr fun _ s3 ⟨σ3, H3, I3, k3, q3⟩ => ?_
      refine seg_bind_wrap ?_
      rw [hA]
      have ir := pi.run _ s3 σ3 H3 _ I3 q3
      rw [hx] at ir
      refine thnF ir fun xv s4 h4 => ?_
      refine seg_bind_wrap (wpAny_standAt ?_)
      refine seg_bind_wrap (wpAny_of_eq (hs1 xv) ?_)
      refine seg_bind_wrap (wpAny_holding ?_)
      rw [hA]
      refine thnF h4 fun itv s5 h5 => ?_
      obtain ⟨it1, fp1, tn1, J1, H5, e1, I5, T1, st5, f5, W1, ⟨k0, hk0, w1⟩, turn1⟩ := h5
      subst e1
      -- the outer iterator's objects stand still meanwhile
      have back : ∀ (n' : Nat) (s₀' s' : Shared) (τ : L2.St) (H' : Hp), m * (M + 1) < n' → Inv Y ([] ++ pinsAt fp s2.heap) τ H' s' → kp σ3 τ → Nx H' →
          Seg (model Y.prog Y.w) A (En (Tt Y Q false)) (Pr a gi (Tt Y Q true)) n' s₀' (.compLoop (.GeneratorExp elt [⟨t0, i0, [], 0⟩, ⟨t1, i1, [], 0⟩] scope pos) 0 (.ref it) .none Y.env)
            (.pure (.again (.compLoop (.GeneratorExp elt [⟨t0, i0, [], 0⟩, ⟨t1, i1, [], 0⟩] scope pos) 0 (.ref it) .none Y.env))) [] s' := fun n' s₀' s' τ H' hn' I' hk nx => by
        obtain ⟨m', hm, w'⟩ := hNx H' nx
        have pin' : ∀ b ∈ fp, ∀ o, s2.heap.get? b = some o → s'.heap.get? b = some o ∧ H' b = none := fun b hb o e =>
          let z := I'.pin (b, o) (List.mem_append_right _ (List.mem_append_right _ (mem_pinsAt hb e)))
          ⟨z.1, z.2.1⟩
        have hmm : (m' + 1) * (M + 1) < n' := Nat.lt_of_le_of_lt (Nat.mul_le_mul_right _ hm) hn'
        have I6 := ((I'.unpinned (pins := [])).weak (kp_len hk) (kp_get hk)).weak (kp_len k3) (kp_get k3)
        refine seg_again rfl (ih m' hm (i + 1) n' s₀' s' H' hmm I6 (Tn.keep _ _ _ st2 fun b hb o e => (pin' b hb o e).1) (fun b hb => ?_) w')
        obtain ⟨o, e, _⟩ := Tn.obj _ _ st2 b hb
        exact (pin' b hb o e).2
      refine seg_call fun p => ?_
      have stat1 : ∀ {H' : Hp}, (∀ b ∈ fp1, H' b = none) → ∀ b ∈ fp1, FpOk Y ([] ++ pinsAt fp s2.heap) H' b := fun hn b hb => ⟨hn b hb, (f5 b hb).2⟩
      refine seg_in_start (fun A' Qv E' hq => T1.self A' 0 s5 Qv E' st5 hq) ?_
      refine seg_in (F0 := m * (M + 1)) (W := W1) (Nx := Nx) (Tq := Q true) hc hx hco hA hG T1 stat1 pg1 pe turn1 (fun n' s₀' s' H' hn' I' nx => ?_) k0 0 n s₀ s5 H5 ?_ I5 st5 (fun b hb => (f5 b hb).1) w1
      · exact back n' s₀' s' σ3 H' hn' I' (kp_self σ3) nx
      · have e : (m + 1) * (M + 1) = m * (M + 1) + (M + 1) := Nat.succ_mul _ _
        omega
end
end AnyG
set_option maxHeartbeats 4000000
namespace AnyG
open PySem PySem.Spec PyProof.Rows L2
/-! ### the making -/
theorem eval_gen (elt target iter : Expr) (rest : List Comprehension) (scope : Scope) (pos : Pos) (env : Env) (hco : scope.isCoroutine = false) :
    eval (.GeneratorExp elt (⟨target, iter, [], 0⟩ :: rest) scope pos) env = (eval iter env >>= fun x => standAt iter.pos >>= fun _ => genFold iter env x >>= fun x => holding [x] (pyIter x) >>= fun it =>
      enterFrame >>= fun _ => closureFor scope env >>= fun cl => genexprCode env pos (env.qual ++ "<genexpr>") scope >>= fun code => builtinsFor env.globals env.builtins >>= fun bi =>
      newFunctionEnv scope env.globals cl [(".0", it)] (env.qual ++ "<genexpr>.") none code none bi >>= fun cenv =>
      newGenerator (.compStart (.GeneratorExp elt (⟨target, iter, [], 0⟩ :: rest) scope pos) 0 it .none cenv) "<genexpr>" (env.qual ++ "<genexpr>")) := by
  rw [arm_eval_GeneratorExp]
  simp only [hco, Bool.false_eq_true, if_false]
  cases iter <;> rfl
section
variable {M : Model} {A : Around} {E : Value → Shared → Prop} {s : Shared}
theorem gen_make {env : Env} {elt target iter : Expr} {rest : List Comprehension} {scope : Scope} {cl : List (Str × Addr)} {pos : Pos} {Q : Value → Shared → Prop}
    (hco : scope.isCoroutine = false) (hclos : closureFor scope env = pure cl) (hcell : ∀ y ∈ scope.names, y.2 ≠ .cell) (h0 : scope.names.lookup (".0" : Str) = some NameKind.local) (hkind : scope.kind = .function)
    (hroom : A.depth < recursionLimit) (hs : ∀ x, genFold iter env x = pure x)
    (h : wpAny M A (eval iter env) (fun xv s₁ => wpAny M A (pyIter xv) (fun it s₂ => s₂.heap.NoLimit ∧
      wpAny M A (genexprCode env pos (env.qual ++ "<genexpr>") scope) (fun code s₃ => wpAny M A (builtinsFor env.globals env.builtins) (fun bi s₄ =>
        ∀ (h' : Heap) (m : Str → Option Value) (o : Obj), h'.Ns s₄.heap.objs.size m → (∀ b u, s₄.heap.get? b = some u → h'.get? b = some u) → s₄.heap.objs.size < h'.objs.size →
          o.cls = .type "generator" → (∃ nm qn, o.data = .fields #[.int s₄.gens.size 0, nm, qn]) → o.slots = #[] →
          Q (.ref h'.objs.size) { s₄ with
            gens := s₄.gens.push (.fresh (.compStart (.GeneratorExp elt (⟨target, iter, [], 0⟩ :: rest) scope pos) 0 it .none (genEnv scope cl s₄.heap.objs.size code bi env))),
            toks := s₄.toks + 1 + 1 + 1, heap := h'.push o }) E s₃) E s₂) E s₁) E s) :
    wpAny M A (eval (.GeneratorExp elt (⟨target, iter, [], 0⟩ :: rest) scope pos) env) Q E s := by
  rw [eval_gen _ _ _ _ _ _ _ hco, hclos]
  refine wpAny_bind (thn h fun xv s₁ h₁ => ?_)
  refine wpAny_bind (wpAny_standAt ?_)
  refine wpAny_bind (wpAny_of_eq (hs xv) ?_)
  refine wpAny_bind (wpAny_holding (thn h₁ fun it s₂ h₂ => ?_))
  refine wpAny_bind (wpAny_enterFrame h₂.1 hroom ?_)
  refine wpAny_bind (wpAny_pure ?_)
  refine wpAny_bind (thn h₂.2 fun code s₃ h₃ => ?_)
  refine wpAny_bind (thn h₃ fun bi s₄ h₄ => ?_)
  have hb : ∀ y ∈ ([((".0" : Str), it)] : List (Str × Value)), scope.names.lookup y.1 = some NameKind.local := by
    intro y hy
    obtain rfl := List.mem_singleton.mp hy
    exact h0
  refine wpAny_bind (wpAny_newFunctionEnv hcell hb (fun h' hn' hs' => ?_) hkind)
  simp only [newGenerator, newFields]
  refine wpAny_bind (wpAny_newGen (wpAny_bind (wpAny_mkText (wpAny_bind (wpAny_mkText (wpAny_newObj_type ?_ (by size_fits)))))))
  have hsz : h'.objs.size = s₄.heap.objs.size + 1 := by rw [hs'.1, Heap.size_push]
  exact h₄ h' _ _ hn' (fun b o e => hs'.extBut b o (Nat.ne_of_lt (Heap.lt_size e)) (Heap.get?_push_of_some _ e)) (by omega) rfl ⟨_, _, rfl⟩ rfl
end

/-! ### the generator's frame -/
/-- its names: the walked thing, its own (they follow the def's in N), captured ones -/
structure GSc (N : List Str) (sc scope : Scope) (own : List Str) : Prop where
  kind : scope.kind = .function
  co : scope.isCoroutine = false
  cell : ∀ y ∈ scope.names, y.2 ≠ .cell
  dot : scope.names.lookup (".0" : Str) = some NameKind.local
  uniq : ∀ y ∈ scope.names, scope.names.lookup y.1 = some y.2
  free : ∀ y ∈ scope.names, y.2 = .free → sc.names.lookup y.1 = some .cell ∨ sc.names.lookup y.1 = some .free
  apart : ∀ y ∈ scope.names, y.1 ∈ N → y.2 ≠ .local
def gscB (N : List Str) (sc scope : Scope) : Bool :=
  decide (scope.kind = .function) && !scope.isCoroutine && decide (scope.names.lookup (".0" : Str) = some NameKind.local) &&
    scope.names.all fun y => decide (y.2 ≠ .cell) && decide (scope.names.lookup y.1 = some y.2) && (decide (y.2 ≠ .free) || decide (sc.names.lookup y.1 = some .cell) || decide (sc.names.lookup y.1 = some .free)) && (decide (y.1 ∉ N) || decide (y.2 ≠ .local))
theorem gsc_by {N own : List Str} {sc scope : Scope} (h : gscB N sc scope = true) : GSc N sc scope own := by
  unfold gscB at h
  simp only [Bool.and_eq_true, Bool.or_eq_true, Bool.not_eq_true', decide_eq_true_eq, List.all_eq_true] at h
  obtain ⟨⟨⟨h1, h2⟩, h3⟩, h4⟩ := h
  refine ⟨h1, h2, fun y hy => (h4 y hy).1.1.1, h3, fun y hy => (h4 y hy).1.1.2, fun y hy e => ?_, fun y hy hn => ?_⟩
  · rcases (h4 y hy).1.2 with (z | z) | z
    · exact absurd e z
    · exact .inl z
    · exact .inr z
  · rcases (h4 y hy).2 with z | z
    · exact absurd hn z
    · exact z
/-- the generator's context: made at s, H; its frame at C, its around A -/
abbrev gCx (X : Cx) (s : Shared) (H : Hp) (scope : Scope) (own : List Str) (code : Value) (fp : List Addr) (A : Around) (pn : List (Addr × Obj)) : Cx where
  prog := X.prog
  w := X.w
  K := X.K
  mg := X.mg
  base := X.base
  A := A
  N := X.N ++ own
  s_0 := s
  H_0 := H
  env := genEnv scope (cloFrom X.env.cells scope.names []) s.heap.objs.size code builtinsNs X.env
  outer := X.stack
  stack := genEnv scope (cloFrom X.env.cells scope.names []) s.heap.objs.size code builtinsNs X.env :: X.stack
  ex := fp
  fn := fun _ => false
  calm := true
  pn := pn
  xe := fun _ _ => False
section
variable {X : Cx} {pins : List (Addr × Obj)} {σ : L2.St} {H : Hp} {s : Shared}
theorem gen_start {scope : Scope} {own : List Str} {code : Value} {fp : List Addr} {A : Around} {a : Addr} {og : Obj} {h5 : Heap} {g5 : Array GenState} {t5 : Nat} {m : Str → Option Value} (I : Inv X pins σ H s) (G : GSc X.N X.env.scope scope own)
    (hfp : ∀ b ∈ fp, FpOk X pins H b ∧ b < s.heap.objs.size) (hd : A.handled = none) (hfr : A.frames = some (genEnv scope (cloFrom X.env.cells scope.names []) s.heap.objs.size code builtinsNs X.env :: X.stack))
    (hn : h5.Ns s.heap.objs.size m) (kp5 : ∀ b o, s.heap.get? b = some o → h5.get? b = some o) (hb : AllBare g5) (ha : s.heap.objs.size < a) (hag : h5.get? a = some og) (hog : ∀ v, og.data ≠ .cell v) :
    Inv (gCx X s H scope own code fp A [(a, og)]) [] (σ ++ List.replicate own.length none) H { s with heap := h5, gens := g5, toks := t5 } := by
  have hfree : ∀ y ∈ scope.names, y.2 = .free → ∃ c, X.env.cells.lookup y.1 = some c := fun y hy e => by
    rcases G.free y hy e with k | k
    · exact I.ok.has _ (.inl k)
    · exact I.ok.has _ (.inr k)
  have cm : ∀ {y c}, (cloFrom X.env.cells scope.names []).lookup y = some c → X.env.cells.lookup y = some c := fun {y c} e => by
    rcases cloFrom_mem (PySem.mem_of_lookup e) with hm | ⟨h1, h2⟩
    · cases hm
    · obtain ⟨c1, hc⟩ := hfree _ h1 rfl
      have hc : X.env.cells.lookup y = some c1 := hc
      have e2 : c = c1 := by
        rw [h2, hc] <;> rfl
      rw [e2]
      exact hc
  have look : ∀ {y}, scope.names.lookup y = some .free → ∃ c, (cloFrom X.env.cells scope.names []).lookup y = some c := fun {y} hl =>
    mem_lookup (cloFrom_has (cells := X.env.cells) (acc := []) (PySem.mem_of_lookup hl : (y, NameKind.free) ∈ scope.names))
  have cl_lt : ∀ {y c}, (cloFrom X.env.cells scope.names []).lookup y = some c → c < s.heap.objs.size := fun {y c} e => by
    obtain ⟨v, q⟩ := I.cell y c (cm e)
    exact q.lt
  have ok : (gCx X s H scope own code fp A [(a, og)]).Ok := by
    refine ⟨I.ok.mod, G.kind, I.ok.glob, rfl, Nat.le_refl _, fun y z c e1 e2 => I.ok.inj y z c (cm e1) (cm e2), fun y hy => ?_, fun y c z _ => Bool.noConfusion (show false = true from z), fun _ => hd, hfr, .inr ⟨rfl, rfl⟩,
      fun b hb => ⟨Nat.ne_of_lt (hfp b hb).2, fun y c e z => (hfp b hb).1.2.2.2.2.1 y c (cm e) z⟩, I.bs, Nat.le_trans I.ok.bsz I.sz, fun b o e hb => ?_, fun b hb z => ?_, I.stack, I.stkFree⟩
    · have hy : scope.names.lookup y = some .cell ∨ scope.names.lookup y = some .free := hy
      rcases hy with hy | hy
      · exact absurd rfl (G.cell _ (PySem.mem_of_lookup hy))
      · exact look hy
    · rcases (hfp b hb).1.2.2.2.1 with z | z
      · exact I.ok.noex b o e z
      · exact absurd (Nat.lt_of_lt_of_le (Heap.lt_size e) (Nat.le_trans I.ok.bsz z)) (Nat.lt_irrefl _)
    · rcases List.mem_cons.mp (I.stkSub b z) with z | z
      · exact (hfp b hb).1.2.1 z
      · exact (hfp b hb).1.2.2.1 z
  refine ⟨ok, rfl, hb, Un.kept kp5, ⟨m, hn, fun i y v e1 e2 e3 => ?_⟩, fun y c e => ?_, I.hok.fresh (Nat.le_refl _), fun y c e => I.freeC y c (cm e), fun p hp => ?_, I.hok.kept kp5, ?_⟩
  · have e1 : (X.N ++ own)[i]? = some y := e1
    have hi : i < σ.length := by
      rcases Nat.lt_or_ge i σ.length with z | z
      · exact z
      · rw [List.getElem?_append_right z, List.getElem?_replicate] at e2
        split at e2
        · cases e2
        · cases e2
    have hiN : i < X.N.length := by rw [← I.len]; exact hi
    rw [List.getElem?_append_left hi] at e2
    rw [List.getElem?_append_left hiN] at e1
    have hy : y ∈ X.N := List.mem_of_getElem? e1
    have hfr' : scope.names.lookup y = some .free := by
      have e3 : Vis scope y := e3
      rcases e3 with k | k | k
      · exact absurd rfl (G.apart _ (PySem.mem_of_lookup k) hy)
      · exact absurd rfl (G.cell _ (PySem.mem_of_lookup k))
      · exact k
    obtain ⟨m0, _, hl⟩ := I.loc
    have hvis : Vis X.env.scope y := (G.free _ (PySem.mem_of_lookup hfr') rfl).elim (fun k => .inr (.inl k)) (fun k => .inr (.inr k))
    obtain ⟨w', r, q⟩ := hl i y v e1 e2 hvis
    obtain ⟨c2, h2⟩ := look hfr'
    refine ⟨w', r, .inr ⟨.inr hfr', c2, h2, ?_⟩⟩
    have c1 := cm h2
    rcases q with ⟨k', _⟩ | ⟨_, c3, e', z⟩
    · have k' : X.env.scope.names.lookup y = some .local := k'
      rcases G.free _ (PySem.mem_of_lookup hfr') rfl with k | k <;> rw [show X.env.scope.names.lookup y = _ from k] at k' <;> cases k'
    · rw [c1] at e'
      cases e'
      exact z.keeps kp5
  · obtain ⟨v, q⟩ := I.cell y c (cm e)
    exact ⟨v, q.keeps kp5⟩
  · have hp : p = (a, og) := by simpa using hp
    subst hp
    exact ⟨hag, I.hok.fresh (Nat.le_of_lt ha), Nat.ne_of_gt ha, fun z => (by
      rcases List.mem_cons.mp (I.stkSub _ z) with q | q
      · have h1 := I.lt
        rw [← q] at h1
        exact Nat.lt_irrefl _ (Nat.lt_trans h1 ha)
      · exact I.nofs (Nat.le_of_lt ha) q), hog⟩
  · show (σ ++ List.replicate own.length none).length = (X.N ++ own).length
    rw [List.length_append, List.length_append, List.length_replicate, I.len]
end
end AnyG
set_option maxHeartbeats 4000000
namespace AnyG
open PySem PySem.Spec PyProof.Rows L2
open GxR (TabG Tabbed inv_tab)
/-- what the making asks of the maker's code object at c and its table at P -/
abbrev TabB := LamX.TabB
/-- the around of the generator's turns -/
abbrev gA (X : Cx) (e : Expr) (it : Addr) (cenv : Env) : Around := X.A.in1.in1.over (.compLoop e 0 (.ref it) .none cenv) []
section
variable {X : Cx} {pins : List (Addr × Obj)} {σ : L2.St} {H : Hp} {s : Shared}
/-- a generator has been made: what is known -/
structure Made (X : Cx) (pins : List (Addr × Obj)) (σ : L2.St) (tg : Expr) (e : Expr) (scope : Scope) (own : List Str) (R : It → Hp → Prop) (a gi : Nat) (s5 : Shared) (J : It) (H2 : Hp) (s4 : Shared) (code : Value) (fp : List Addr) (it : Addr) (tn : Nat → Heap → Prop) (og : Obj) : Prop where
  inv : Inv X pins σ H2 s4
  turn : Turn X.prog X.w X.K tg J fp it tn
  tn0 : tn 0 s5.heap
  fok : ∀ b ∈ fp, FpOk X pins H2 b
  lt : ∀ b ∈ fp, b ≠ a
  at_ : s5.gens[gi]? = some (.fresh (.compStart e 0 (.ref it) .none (genEnv scope (cloFrom X.env.cells scope.names []) s4.heap.objs.size code builtinsNs X.env)))
  obj : og.cls = .type "generator" ∧ (∃ nm qn, og.data = .fields #[.int gi 0, nm, qn]) ∧ og.slots = #[]
  start : Inv (gCx X s4 H2 scope own code fp (gA X e it (genEnv scope (cloFrom X.env.cells scope.names []) s4.heap.objs.size code builtinsNs X.env)) [(a, og)]) [] (σ ++ List.replicate own.length none) H2 s5
  rd : R J H2
theorem gen_ready {c P : Addr} {elt tg iter : Expr} {rest : List Comprehension} {gpos : Pos} {scope : Scope} {own : List Str} {wi : TI} {k : Nat} {Q' : Value → Shared → Prop} {R : It → Hp → Prop}
    (hr : Room k X.A) (TB : TabB X.base X.mg c P) (hcode : X.env.code = .ref c) (G : GSc X.N X.env.scope scope own) (hi : PI X tg iter wi) (hs : ∀ v, genFold iter X.env v = pure v)
    (I : Inv X pins σ H s) (h : wi σ H fun J H1 => TabG H1 P ∧ ∀ H2, Tabbed P H1 H2 → R J H2)
    (hQ : ∀ a gi s5 J H2 s4 code fp it tn og, Made X pins σ tg (.GeneratorExp elt (⟨tg, iter, [], 0⟩ :: rest) scope gpos) scope own R a gi s5 J H2 s4 code fp it tn og → Q' (.ref a) s5) :
    wpAny (model X.prog X.w) X.A (eval (.GeneratorExp elt (⟨tg, iter, [], 0⟩ :: rest) scope gpos) X.env) Q' X.xe s := by
  have hfree : ∀ y ∈ scope.names, y.2 = .free → ∃ c, X.env.cells.lookup y.1 = some c := fun y hy e => by
    rcases G.free y hy e with k | k
    · exact I.ok.has _ (.inl k)
    · exact I.ok.has _ (.inr k)
  refine gen_make G.co (closure_ok hfree) G.cell G.dot G.kind (by have := hr.dp; omega) hs ?_
  refine thn (hi.run pins s σ H _ I h) fun xv s1 h1 => thn h1 fun itv s2 h2 => ?_
  obtain ⟨it, fp, tn, J, H1, rfl, I2, Tn, st2, f2, ⟨ps, hP, ht⟩, q2⟩ := h2
  refine ⟨I2.nolimit, ?_⟩
  have hPs : s2.heap.get? P = some { cls := .none, data := .fields ps } := I2.hok P _ hP
  have cd : PySem.W.CodeHd s2.heap c P := TB.code.keeps fun b u e => I2.bk b u e
  have bmf : s2.heap.BuiltinsAt X.mg P := TB.bm.keeps I2.bk
  have nfp : ∀ b ∈ fp, b ≠ P := fun b hb z => by
    have q := (f2 b hb).1
    rw [z, hP] at q
    cases q
  have cont : ∀ (code : Value) (h3 : Heap) (tk : Nat) (more : Array Value), Heap.ExtBut P s2.heap h3 → s2.heap.objs.size ≤ h3.objs.size → h3.get? P = some { cls := .none, data := .fields (ps ++ more) } → TriplesOk (ps ++ more).toList →
      wpAny (model X.prog X.w) X.A (builtinsFor X.env.globals X.env.builtins) (fun bi s₄ => ∀ (h' : Heap) (m : Str → Option Value) (o : Obj), h'.Ns s₄.heap.objs.size m → (∀ b u, s₄.heap.get? b = some u → h'.get? b = some u) → s₄.heap.objs.size < h'.objs.size →
          o.cls = .type "generator" → (∃ nm qn, o.data = .fields #[.int s₄.gens.size 0, nm, qn]) → o.slots = #[] →
          Q' (.ref h'.objs.size) { s₄ with
            gens := s₄.gens.push (.fresh (.compStart (.GeneratorExp elt (⟨tg, iter, [], 0⟩ :: rest) scope gpos) 0 (.ref it) .none (genEnv scope (cloFrom X.env.cells scope.names []) s₄.heap.objs.size code bi X.env))),
            toks := s₄.toks + 1 + 1 + 1, heap := h'.push o }) X.xe { s2 with heap := h3, toks := tk } := by
    intro code h3 tk more hx hsz hP3 ht3
    obtain ⟨bm, ob, e1, e2, e3, e4, e5, e6, e7, e8⟩ := TB.bm
    have keep3 : ∀ b u, b ≠ P → s2.heap.get? b = some u → h3.get? b = some u := fun b u hb e => hx b u hb e
    have I3 : Inv X pins σ (upd H1 P (.tbl (ps ++ more))) { s2 with heap := h3, toks := tk } := inv_tab (g' := s2.gens) (d' := s2.drawn) I2 hP keep3 hP3 I2.bare
    refine wpAny_builtinsFor (m := X.mg) (by rw [I2.ok.glob]; exact (I2.mod.glob.keeps I2.bk).extBut hx TB.gP) e1 e2 (keep3 _ _ e4 (I2.bk _ _ e5)) e6 e7 e8 ?_
    intro h' m o hn' hk' hlt' o1 o2 o3
    have f3 : ∀ b ∈ fp, FpOk X pins (upd H1 P (.tbl (ps ++ more))) b := fun b hb => ⟨by rw [upd_ne (nfp b hb)]; exact (f2 b hb).1, (f2 b hb).2⟩
    have szfp : ∀ b ∈ fp, b < h3.objs.size := fun b hb => by
      obtain ⟨u, e, _⟩ := Tn.obj _ _ st2 b hb
      exact Nat.lt_of_lt_of_le (Heap.lt_size e) hsz
    have keep5 : ∀ b u, h3.get? b = some u → (h'.push o).get? b = some u := fun b u e => Heap.get?_push_of_some _ (hk' b u e)
    refine hQ _ s2.gens.size _ J _ { s2 with heap := h3, toks := tk } code fp it tn o ⟨I3, Tn, ?_, f3, fun b hb => Nat.ne_of_lt (Nat.lt_trans (szfp b hb) hlt'), Array.getElem?_push_size .., ⟨o1, o2, o3⟩, ?_, q2 _ ⟨⟨_, upd_same, ht3⟩, fun b hb => upd_ne hb⟩⟩
    · exact Tn.keep _ _ _ st2 fun b hb u e => keep5 b u (keep3 b u (nfp b hb) e)
    · refine gen_start I3 G (fun b hb => ⟨f3 b hb, szfp b hb⟩) ?_ ?_ (hn'.push _) keep5 (I2.bare.push rfl) hlt' (Heap.get?_push_size _ (by
          obtain ⟨nm, qn, e⟩ := o2
          exact Obj.isFreed_of_fields e)) (fun v z => by
          obtain ⟨nm, qn, e⟩ := o2
          rw [e] at z
          cases z)
      · exact hr.hd
      · have fr : ∀ (l : List Env) (A : Around) (cenv : Env) (e : Code), A.frames = some l → e.envs = [cenv] → (A.over e []).frames = some (cenv :: l) := fun l A cenv e q1 q2 => by
          show pushEnvs e.envs (pushEnvs (envsOf []) A.frames) = _
          rw [q1, q2]
          rfl
        exact fr X.stack X.A.in1.in1 _ _ I2.ok.frames rfl
  cases hf : codeAmong gpos ps.toList with
  | none =>
    refine wpAny_genexprCodeX hcode (cd.code hPs ht) (cd.tab hPs) hf fun c' h' tk hx hge hlt hco' _ htab' _ => ?_
    obtain ⟨o1, vs, f1, tf, fl, tg', inF, tx, tt, op, _, _, _, _, _, _, _, _, _, htr, _⟩ := hco'
    exact cont _ h' tk _ hx (Nat.le_trans hge (Nat.le_of_lt hlt)) htab'.2 htr
  | some cv =>
    refine wpAny_genexprCode_hit hcode (cd.code hPs ht) hf ?_
    exact cont cv s2.heap s2.toks #[] (Heap.ExtBut.refl _ _) (Nat.le_refl _) (by simpa using hPs) (by simpa using ht)
/-- behind it all: back in the def -/
theorem Made.back {tg e : Expr} {scope : Scope} {own : List Str} {R : It → Hp → Prop} {a gi : Nat} {s5 : Shared} {J : It} {H2 : Hp} {s4 : Shared} {code : Value} {fp : List Addr} {it : Addr} {tn : Nat → Heap → Prop} {og : Obj} {A : Around} {pn pins' : List (Addr × Obj)} {τ : L2.St} {H' : Hp} {s6 s7 : Shared}
    (M : Made X pins σ tg e scope own R a gi s5 J H2 s4 code fp it tn og) (I : Inv (gCx X s4 H2 scope own code fp A pn) pins' τ H' s6) (hk : ∀ b o, s6.heap.get? b = some o → s7.heap.get? b = some o) (ho : s7.os = s6.os) (hb : AllBare s6.gens → AllBare s7.gens) : Inv X pins σ H' s7 := by
  have I6 : Inv X pins σ H' s6 := M.inv.call' (ch := fp) I.os I.base I.hok I.bare fun b hb => ⟨(M.fok b hb).2.2.2.1, (M.fok b hb).2.1, (M.fok b hb).2.2.2.2.1, (M.fok b hb).2.2.2.2.2⟩
  exact I6.call' (ch := []) ho (Un.kept hk) (I6.hok.kept hk) (hb I6.bare) fun b z => absurd z (by simp)
theorem Made.gd {tg e : Expr} {scope : Scope} {own : List Str} {R : It → Hp → Prop} {a gi : Nat} {s5 : Shared} {J : It} {H2 : Hp} {s4 : Shared} {code : Value} {fp : List Addr} {it : Addr} {tn : Nat → Heap → Prop} {og : Obj} {A : Around} {pins' : List (Addr × Obj)} {τ : L2.St} {H' : Hp} {s6 : Shared}
    (M : Made X pins σ tg e scope own R a gi s5 J H2 s4 code fp it tn og) (I : Inv (gCx X s4 H2 scope own code fp A [(a, og)]) pins' τ H' s6) : Gd a gi s6 := by
  obtain ⟨h1, _⟩ := I.pin (a, og) (List.mem_append_left _ List.mem_cons_self)
  obtain ⟨o1, ⟨nm, qn, o2⟩, o3⟩ := M.obj
  exact ⟨I.bare, I.nolimit, og, nm, qn, h1, o1, o2, o3⟩
end
end AnyG
set_option maxHeartbeats 4000000
namespace AnyG
open PySem PySem.Spec PyProof.Rows L2
open GxR (TabG Tabbed)
def ext (σ : L2.St) (own : List Str) : L2.St := σ ++ List.replicate own.length none
/-- any(elt for tg in iter), P the running def's table -/
def tAny1 (P : Addr) (own : List Str) (wi : TI) (g : TG) (te : TE) : TE := fun σ H Q => wi σ H fun J H1 => TabG H1 P ∧ ∀ H2, Tabbed P H1 H2 → tG1 g te (fun b H' => Q (.bl b) H') J (ext σ own) H2
/-- any(elt for tg in iter for tg1 in iter1), at most M turns of the second in each of the first -/
def tAny2 (P : Addr) (own : List Str) (M : Nat) (wi : TI) (g : TG) (wi1 : TI) (g1 : TG) (te : TE) : TE := fun σ H Q => wi σ H fun J H1 => TabG H1 P ∧ ∀ H2, Tabbed P H1 H2 → tG2 M g wi1 g1 te (fun b H' => Q (.bl b) H') J (ext σ own) H2
section
variable {X : Cx}
theorem room_gen {k : Nat} {e : Expr} {it : Addr} {cenv : Env} (hr : Room (k + 1) X.A) (hw : (Code.compLoop e 0 (.ref it) .none cenv).weight = 1 := by rfl) (hu : (Code.compLoop e 0 (.ref it) .none cenv).cUnits = 3 := by rfl) : Room k (gA X e it cenv) := by
  refine ⟨hr.hd, ?_, ?_⟩
  · have h1 := hr.dp
    show X.A.depth + frameCount [] + (Code.compLoop e 0 (.ref it) .none cenv).weight + 3 * k + 5 < recursionLimit
    rw [hw]
    have h2 : frameCount ([] : List (Code × Pos)) = 0 := rfl
    omega
  · have h1 := hr.un
    show X.A.units + 1 + 1 + unitsOf [] + (Code.compLoop e 0 (.ref it) .none cenv).cUnits + 16 * k + 200 < cLine
    rw [hu]
    have h2 : unitsOf ([] : List (Code × Pos)) = 0 := rfl
    omega
theorem pe_any1 {c P : Addr} {elt tg iter : Expr} {gpos p pos : Pos} {scope : Scope} {own : List Str} {wi : TI} {g : TG} {te : TE} {k : Nat} (hr : Room (k + 1) X.A) (hgl : Gl X "any") (hm : X.mg "any" = none)
    (TB : TabB X.base X.mg c P) (hcode : X.env.code = .ref c) (G : GSc X.N X.env.scope scope own) (hi : PI X tg iter wi)
    (hg : ∀ (s : Shared) (H : Hp) (code : Value) (fp : List Addr) (A : Around) (pn : List (Addr × Obj)), PG (gCx X s H scope own code fp A pn) tg g)
    (he : ∀ (s : Shared) (H : Hp) (code : Value) (fp : List Addr) (A : Around) (pn : List (Addr × Obj)), Room k A → PE (gCx X s H scope own code fp A pn) elt te)
    (hs : ∀ v, genFold iter X.env v = pure v)
    (hst : starEach [.GeneratorExp elt [⟨tg, iter, [], 0⟩] scope gpos] X.env = (false, eval (.GeneratorExp elt [⟨tg, iter, [], 0⟩] scope gpos) X.env) :: starEach [] X.env := by rfl) :
    PE X (.Call (.Name "any" p) [.GeneratorExp elt [⟨tg, iter, [], 0⟩] scope gpos] [] pos) (tAny1 P own wi g te) := by
  refine ⟨fun pins s σ H Q I h => ?_⟩
  refine wpAny_Call_Name_kw (ld_blt I hgl hm boot_any ?_)
  refine PyProof.Rows.callWith_builtin1 ?_ hst (by rfl)
  rw [hst]
  show wpAny _ _ (spliced ((false, eval (.GeneratorExp elt [⟨tg, iter, [], 0⟩] scope gpos) X.env) :: backTo pos (starEach [] X.env))) _ _ s
  refine Calls.spliced_cons (gen_ready (rest := []) (R := fun J H2 => tG1 g te (fun b H' => Q (.bl b) H') J (ext σ own) H2) hr TB hcode G hi hs I h fun a gi s5 J H2 s4 code fp it tn og M => ?_)
  refine Calls.spliced_nil ?_
  obtain ⟨W, ⟨m0, w0⟩, turn⟩ := M.rd
  have hA := room_gen (X := X) (e := .GeneratorExp elt [⟨tg, iter, [], 0⟩] scope gpos) (it := it) (cenv := genEnv scope (cloFrom X.env.cells scope.names []) s4.heap.objs.size code builtinsNs X.env) hr
  have hpg := hg s4 H2 code fp (gA X (.GeneratorExp elt [⟨tg, iter, [], 0⟩] scope gpos) it (genEnv scope (cloFrom X.env.cells scope.names []) s4.heap.objs.size code builtinsNs X.env)) [(a, og)]
  have hpe := he s4 H2 code fp (gA X (.GeneratorExp elt [⟨tg, iter, [], 0⟩] scope gpos) it (genEnv scope (cloFrom X.env.cells scope.names []) s4.heap.objs.size code builtinsNs X.env)) [(a, og)] hA
  refine call_any_gen (A := X.A) (g := gi) (gs := .fresh (.compStart (.GeneratorExp elt [⟨tg, iter, [], 0⟩] scope gpos) 0 (.ref it) .none (genEnv scope (cloFrom X.env.cells scope.names []) s4.heap.objs.size code builtinsNs X.env)))
    (T := Tt (gCx X s4 H2 scope own code fp (gA X (.GeneratorExp elt [⟨tg, iter, [], 0⟩] scope gpos) it (genEnv scope (cloFrom X.env.cells scope.names []) s4.heap.objs.size code builtinsNs X.env)) [(a, og)]) (fun b H' => Q (.bl b) H') true)
    (Fl := Tt (gCx X s4 H2 scope own code fp (gA X (.GeneratorExp elt [⟨tg, iter, [], 0⟩] scope gpos) it (genEnv scope (cloFrom X.env.cells scope.names []) s4.heap.objs.size code builtinsNs X.env)) [(a, og)]) (fun b H' => Q (.bl b) H') false)
    (n := m0 + 1) hr.hd (by have := hr.dp; omega) (M.gd M.start) M.at_ (fun s6 e1 e2 e3 => ⟨rfl, ?_⟩) (fun s6 ⟨pins', τ, H', I6, q⟩ s7 e1 e2 e3 => ?_) fun s6 ⟨pins', τ, H', I6, q⟩ s7 e1 e2 e3 => ?_
  · have I6 := M.start.call' (s' := s6) (ch := []) e2 (by rw [e1]; exact Un.refl) (by rw [e1]; exact M.start.hok) e3 (fun b hb => absurd hb (by simp))
    have st6 : tn 0 s6.heap := by rw [e1]; exact M.tn0
    refine seg_start rfl (fun A' Qv E' hq => M.turn.self A' 0 s6 Qv E' st6 hq) ?_
    refine seg_one rfl rfl G.co rfl (fun {pins τ H s} I => M.gd I) M.turn (fun {τ H' s'} I' hn b hb => ?_) hpg hpe turn m0 0 (m0 + 1) s6 s6 H2 (Nat.lt_succ_self _) I6 st6 (fun b hb => (M.fok b hb).1) w0
    refine ⟨hn b hb, (I'.ok.exf b hb).1, I'.ok.exfs b hb, .inl hb, fun x c e => (I'.ok.exf b hb).2 x c e, fun p hp z => ?_⟩
    have hp : p = (a, og) := by simpa using hp
    subst hp
    exact M.lt b hb z.symm
  · exact ⟨.bl true, H', M.back I6 (fun b o e => by rw [e1]; exact e) e2 e3, rfl, q⟩
  · exact ⟨.bl false, H', M.back I6 e1 e2 e3, rfl, q⟩
theorem pe_any2 {c P : Addr} {elt tg iter tg1 iter1 : Expr} {gpos p pos : Pos} {scope : Scope} {own : List Str} {wi wi1 : TI} {g g1 : TG} {te : TE} {k Mx : Nat} (hr : Room (k + 1) X.A) (hgl : Gl X "any") (hm : X.mg "any" = none)
    (TB : TabB X.base X.mg c P) (hcode : X.env.code = .ref c) (G : GSc X.N X.env.scope scope own) (hi : PI X tg iter wi)
    (hg : ∀ (s : Shared) (H : Hp) (code : Value) (fp : List Addr) (A : Around) (pn : List (Addr × Obj)), PG (gCx X s H scope own code fp A pn) tg g)
    (hi1 : ∀ (s : Shared) (H : Hp) (code : Value) (fp : List Addr) (A : Around) (pn : List (Addr × Obj)), PI (gCx X s H scope own code fp A pn) tg1 iter1 wi1)
    (hg1 : ∀ (s : Shared) (H : Hp) (code : Value) (fp : List Addr) (A : Around) (pn : List (Addr × Obj)), PG (gCx X s H scope own code fp A pn) tg1 g1)
    (he : ∀ (s : Shared) (H : Hp) (code : Value) (fp : List Addr) (A : Around) (pn : List (Addr × Obj)), Room k A → PE (gCx X s H scope own code fp A pn) elt te)
    (hs : ∀ v, genFold iter X.env v = pure v) (hs1 : ∀ env v, foldedSetIterable iter1 env v = pure v)
    (hst : starEach [.GeneratorExp elt [⟨tg, iter, [], 0⟩, ⟨tg1, iter1, [], 0⟩] scope gpos] X.env = (false, eval (.GeneratorExp elt [⟨tg, iter, [], 0⟩, ⟨tg1, iter1, [], 0⟩] scope gpos) X.env) :: starEach [] X.env := by rfl) :
    PE X (.Call (.Name "any" p) [.GeneratorExp elt [⟨tg, iter, [], 0⟩, ⟨tg1, iter1, [], 0⟩] scope gpos] [] pos) (tAny2 P own Mx wi g wi1 g1 te) := by
  refine ⟨fun pins s σ H Q I h => ?_⟩
  refine wpAny_Call_Name_kw (ld_blt I hgl hm boot_any ?_)
  refine PyProof.Rows.callWith_builtin1 ?_ hst (by rfl)
  rw [hst]
  show wpAny _ _ (spliced ((false, eval (.GeneratorExp elt [⟨tg, iter, [], 0⟩, ⟨tg1, iter1, [], 0⟩] scope gpos) X.env) :: backTo pos (starEach [] X.env))) _ _ s
  refine Calls.spliced_cons (gen_ready (rest := [⟨tg1, iter1, [], 0⟩]) (R := fun J H2 => tG2 Mx g wi1 g1 te (fun b H' => Q (.bl b) H') J (ext σ own) H2) hr TB hcode G hi hs I h fun a gi s5 J H2 s4 code fp it tn og M => ?_)
  refine Calls.spliced_nil ?_
  obtain ⟨W, ⟨m0, w0⟩, turn⟩ := M.rd
  have hA := room_gen (X := X) (e := .GeneratorExp elt [⟨tg, iter, [], 0⟩, ⟨tg1, iter1, [], 0⟩] scope gpos) (it := it) (cenv := genEnv scope (cloFrom X.env.cells scope.names []) s4.heap.objs.size code builtinsNs X.env) hr
  have hpg := hg s4 H2 code fp (gA X (.GeneratorExp elt [⟨tg, iter, [], 0⟩, ⟨tg1, iter1, [], 0⟩] scope gpos) it (genEnv scope (cloFrom X.env.cells scope.names []) s4.heap.objs.size code builtinsNs X.env)) [(a, og)]
  have hpi1 := hi1 s4 H2 code fp (gA X (.GeneratorExp elt [⟨tg, iter, [], 0⟩, ⟨tg1, iter1, [], 0⟩] scope gpos) it (genEnv scope (cloFrom X.env.cells scope.names []) s4.heap.objs.size code builtinsNs X.env)) [(a, og)]
  have hpg1 := hg1 s4 H2 code fp (gA X (.GeneratorExp elt [⟨tg, iter, [], 0⟩, ⟨tg1, iter1, [], 0⟩] scope gpos) it (genEnv scope (cloFrom X.env.cells scope.names []) s4.heap.objs.size code builtinsNs X.env)) [(a, og)]
  have hpe := he s4 H2 code fp (gA X (.GeneratorExp elt [⟨tg, iter, [], 0⟩, ⟨tg1, iter1, [], 0⟩] scope gpos) it (genEnv scope (cloFrom X.env.cells scope.names []) s4.heap.objs.size code builtinsNs X.env)) [(a, og)] hA
  refine call_any_gen (A := X.A) (g := gi) (gs := .fresh (.compStart (.GeneratorExp elt [⟨tg, iter, [], 0⟩, ⟨tg1, iter1, [], 0⟩] scope gpos) 0 (.ref it) .none (genEnv scope (cloFrom X.env.cells scope.names []) s4.heap.objs.size code builtinsNs X.env)))
    (T := Tt (gCx X s4 H2 scope own code fp (gA X (.GeneratorExp elt [⟨tg, iter, [], 0⟩, ⟨tg1, iter1, [], 0⟩] scope gpos) it (genEnv scope (cloFrom X.env.cells scope.names []) s4.heap.objs.size code builtinsNs X.env)) [(a, og)]) (fun b H' => Q (.bl b) H') true)
    (Fl := Tt (gCx X s4 H2 scope own code fp (gA X (.GeneratorExp elt [⟨tg, iter, [], 0⟩, ⟨tg1, iter1, [], 0⟩] scope gpos) it (genEnv scope (cloFrom X.env.cells scope.names []) s4.heap.objs.size code builtinsNs X.env)) [(a, og)]) (fun b H' => Q (.bl b) H') false)
    (n := (m0 + 1) * (Mx + 1) + 1) hr.hd (by have := hr.dp; omega) (M.gd M.start) M.at_ (fun s6 e1 e2 e3 => ⟨rfl, ?_⟩) (fun s6 ⟨pins', τ, H', I6, q⟩ s7 e1 e2 e3 => ?_) fun s6 ⟨pins', τ, H', I6, q⟩ s7 e1 e2 e3 => ?_
  · have I6 := M.start.call' (s' := s6) (ch := []) e2 (by rw [e1]; exact Un.refl) (by rw [e1]; exact M.start.hok) e3 (fun b hb => absurd hb (by simp))
    have st6 : tn 0 s6.heap := by rw [e1]; exact M.tn0
    refine seg_start rfl (fun A' Qv E' hq => M.turn.self A' 0 s6 Qv E' st6 hq) ?_
    refine seg_two rfl rfl G.co rfl (fun {pins τ H s} I => M.gd I) M.turn (fun {τ H' s'} I' hn b hb => ?_) hpg hpi1 hpg1 hpe (hs1 _) turn m0 0 ((m0 + 1) * (Mx + 1) + 1) s6 s6 H2 (Nat.lt_succ_self _) I6 st6 (fun b hb => (M.fok b hb).1) w0
    refine ⟨hn b hb, (I'.ok.exf b hb).1, I'.ok.exfs b hb, .inl hb, fun x c e => (I'.ok.exf b hb).2 x c e, fun p hp z => ?_⟩
    have hp : p = (a, og) := by simpa using hp
    subst hp
    exact M.lt b hb z.symm
  · exact ⟨.bl true, H', M.back I6 (fun b o e => by rw [e1]; exact e) e2 e3, rfl, q⟩
  · exact ⟨.bl false, H', M.back I6 e1 e2 e3, rfl, q⟩
end
end AnyG
set_option maxHeartbeats 0
/-! The head: what the top has written. -/
namespace K16
open PySem PySem.Spec PyProof.Rows L2
def top (i : Nat) : Stmt := PySem.Challenge.pw_skyapart_k16_whole_separated_boxes_keep.main.body.getD i (.Pass ⟨0, 0, 0, 0⟩)

abbrev s_root_up : Stmt := top 2
abbrev s_common : Stmt := top 4
abbrev s_cross : Stmt := top 5
abbrev s_dot : Stmt := top 6
abbrev s_point_square : Stmt := top 7
abbrev s_sign : Stmt := top 8
abbrev s_crosses : Stmt := top 9
abbrev s_squares : Stmt := top 10
abbrev s_closer : Stmt := top 11
abbrev s_lines_closer : Stmt := top 12
abbrev s_are_above : Stmt := top 14
abbrev s_separated : Stmt := top 15
abbrev s_leg_between : Stmt := top 17
abbrev s_leg_length : Stmt := top 18
abbrev s_law_start : Stmt := top 22
abbrev s_law_draw : Stmt := top 23
abbrev s_law_pick : Stmt := top 24
abbrev s_law_root_up : Stmt := top 27
abbrev s_law_names : Stmt := top 28
abbrev s_law_legs : Stmt := top 29
abbrev s_law_chart : Stmt := top 30
abbrev s_law_lengths : Stmt := top 32
abbrev s_law_rules : Stmt := top 40
abbrev s_law_walk : Stmt := top 34
abbrev s_law_begins : Stmt := top 35
abbrev s_law_leg_at : Stmt := top 36
abbrev s_law_place_on : Stmt := top 37
abbrev s_law_small_chart : Stmt := top 46
abbrev s_law_in_box : Stmt := top 48
abbrev s_law_vector : Stmt := top 49
abbrev s_law_box : Stmt := top 50
abbrev s_law : Stmt := top 51
abbrev sP_init : Stmt := inClass (top 20) 0
abbrev sP_total : Stmt := inClass (top 20) 2
abbrev sP_leg_at : Stmt := inClass (top 20) 6
abbrev sP_vector : Stmt := inClass (top 20) 8
abbrev sP_on_leg : Stmt := inClass (top 20) 9
abbrev sP_place : Stmt := inClass (top 20) 10
abbrev sP_piece : Stmt := inClass (top 20) 11
/-! ### the facts that the head tells -/
def fn : List He.DefD := [
  ⟨("root_up", none), "root_up", "root_up", defArgs s_root_up, defBody s_root_up, defScope s_root_up, [], []⟩,
  ⟨("common", none), "common", "common", defArgs s_common, defBody s_common, defScope s_common, [], []⟩,
  ⟨("cross", none), "cross", "cross", defArgs s_cross, defBody s_cross, defScope s_cross, [], []⟩,
  ⟨("dot", none), "dot", "dot", defArgs s_dot, defBody s_dot, defScope s_dot, [], []⟩,
  ⟨("point_square", none), "point_square", "point_square", defArgs s_point_square, defBody s_point_square, defScope s_point_square, [], []⟩,
  ⟨("sign", none), "sign", "sign", defArgs s_sign, defBody s_sign, defScope s_sign, [], []⟩,
  ⟨("crosses", none), "crosses", "crosses", defArgs s_crosses, defBody s_crosses, defScope s_crosses, [], []⟩,
  ⟨("squares", none), "squares", "squares", defArgs s_squares, defBody s_squares, defScope s_squares, [], []⟩,
  ⟨("closer", none), "closer", "closer", defArgs s_closer, defBody s_closer, defScope s_closer, [], []⟩,
  ⟨("lines_closer", none), "lines_closer", "lines_closer", defArgs s_lines_closer, defBody s_lines_closer, defScope s_lines_closer, [], []⟩,
  ⟨("are_above", none), "are_above", "are_above", defArgs s_are_above, defBody s_are_above, defScope s_are_above, [], []⟩,
  ⟨("separated", none), "separated", "separated", defArgs s_separated, defBody s_separated, defScope s_separated, [], []⟩,
  ⟨("leg_between", none), "leg_between", "leg_between", defArgs s_leg_between, defBody s_leg_between, defScope s_leg_between, [], []⟩,
  ⟨("leg_length", none), "leg_length", "leg_length", defArgs s_leg_length, defBody s_leg_length, defScope s_leg_length, [], []⟩,
  ⟨("_law_start", none), "_law_start", "_law_start", defArgs s_law_start, defBody s_law_start, defScope s_law_start, [], []⟩,
  ⟨("_law_draw", none), "_law_draw", "_law_draw", defArgs s_law_draw, defBody s_law_draw, defScope s_law_draw, [], []⟩,
  ⟨("_law_pick", none), "_law_pick", "_law_pick", defArgs s_law_pick, defBody s_law_pick, defScope s_law_pick, [], []⟩,
  ⟨("_law_root_up", none), "_law_root_up", "_law_root_up", defArgs s_law_root_up, defBody s_law_root_up, defScope s_law_root_up, [], []⟩,
  ⟨("_law_names", none), "_law_names", "_law_names", defArgs s_law_names, defBody s_law_names, defScope s_law_names, [], []⟩,
  ⟨("_law_legs", none), "_law_legs", "_law_legs", defArgs s_law_legs, defBody s_law_legs, defScope s_law_legs, [], []⟩,
  ⟨("_law_chart", none), "_law_chart", "_law_chart", defArgs s_law_chart, defBody s_law_chart, defScope s_law_chart, [], []⟩,
  ⟨("_law_lengths", none), "_law_lengths", "_law_lengths", defArgs s_law_lengths, defBody s_law_lengths, defScope s_law_lengths, [], []⟩,
  ⟨("_law_rules", none), "_law_rules", "_law_rules", defArgs s_law_rules, defBody s_law_rules, defScope s_law_rules, [], []⟩,
  ⟨("_law_walk", none), "_law_walk", "_law_walk", defArgs s_law_walk, defBody s_law_walk, defScope s_law_walk, [], []⟩,
  ⟨("_law_begins", none), "_law_begins", "_law_begins", defArgs s_law_begins, defBody s_law_begins, defScope s_law_begins, [], []⟩,
  ⟨("_law_leg_at", none), "_law_leg_at", "_law_leg_at", defArgs s_law_leg_at, defBody s_law_leg_at, defScope s_law_leg_at, [], []⟩,
  ⟨("_law_place_on", none), "_law_place_on", "_law_place_on", defArgs s_law_place_on, defBody s_law_place_on, defScope s_law_place_on, [], []⟩,
  ⟨("_law_small_chart", none), "_law_small_chart", "_law_small_chart", defArgs s_law_small_chart, defBody s_law_small_chart, defScope s_law_small_chart, [], []⟩,
  ⟨("_law_in_box", none), "_law_in_box", "_law_in_box", defArgs s_law_in_box, defBody s_law_in_box, defScope s_law_in_box, [], []⟩,
  ⟨("_law_vector", none), "_law_vector", "_law_vector", defArgs s_law_vector, defBody s_law_vector, defScope s_law_vector, [], []⟩,
  ⟨("_law_box", none), "_law_box", "_law_box", defArgs s_law_box, defBody s_law_box, defScope s_law_box, [], []⟩,
  ⟨("law", none), "law", "law", defArgs s_law, defBody s_law, defScope s_law, [], []⟩,
  ⟨("Path", some "__init__"), "__init__", "Path.__init__", defArgs sP_init, defBody sP_init, defScope sP_init, [], []⟩,
  ⟨("Path", some "total"), "total", "Path.total", defArgs sP_total, defBody sP_total, defScope sP_total, [], []⟩,
  ⟨("Path", some "leg_at"), "leg_at", "Path.leg_at", defArgs sP_leg_at, defBody sP_leg_at, defScope sP_leg_at, [], []⟩,
  ⟨("Path", some "vector"), "vector", "Path.vector", defArgs sP_vector, defBody sP_vector, defScope sP_vector, [], []⟩,
  ⟨("Path", some "_on_leg"), "_on_leg", "Path._on_leg", defArgs sP_on_leg, defBody sP_on_leg, defScope sP_on_leg, [], []⟩,
  ⟨("Path", some "place"), "place", "Path.place", defArgs sP_place, defBody sP_place, defScope sP_place, [], []⟩,
  ⟨("Path", some "piece"), "piece", "Path.piece", defArgs sP_piece, defBody sP_piece, defScope sP_piece, [], []⟩]
def fa : List He.Fa := [
  .glo "root_up",
  .glo "common",
  .glo "cross",
  .glo "dot",
  .glo "point_square",
  .glo "sign",
  .glo "crosses",
  .glo "squares",
  .glo "closer",
  .glo "lines_closer",
  .glo "are_above",
  .glo "separated",
  .glo "leg_between",
  .glo "leg_length",
  .glo "_law_start",
  .glo "_law_draw",
  .glo "_law_pick",
  .glo "_law_root_up",
  .glo "_law_names",
  .glo "_law_legs",
  .glo "_law_chart",
  .glo "_law_lengths",
  .glo "_law_rules",
  .glo "_law_walk",
  .glo "_law_begins",
  .glo "_law_leg_at",
  .glo "_law_place_on",
  .glo "_law_small_chart",
  .glo "_law_in_box",
  .glo "_law_vector",
  .glo "_law_box",
  .glo "law",
  .glo "Path",
  .free "abs",
  .free "int",
  .free "len",
  .free "range",
  .free "any",
  .free "zip",
  .free "max",
  .free "min",
  .free "tuple",
  .free "sorted",
  .cls "Path",
  .noat "Path" "_route",
  .noat "Path" "_legs",
  .noat "Path" "_points",
  .noat "Path" "_begins",
  .meth "Path" "__init__",
  .meth "Path" "total",
  .meth "Path" "leg_at",
  .meth "Path" "vector",
  .meth "Path" "_on_leg",
  .meth "Path" "place",
  .meth "Path" "piece",
  .mkr "Path"]
def tf : List He.Defn := [("closer", none), ("lines_closer", none)]
def isqB (v : Option (Option Value)) : Bool := match v with
  | some (some (.builtin id)) => decide (id = "math.isqrt")
  | _ => false
def ex (K : PySem.W.Frag) : Bool := isqB (PySem.W.nsIn K mainGlobals "isqrt")
abbrev R : PySem.W.OpenRow := PySem.W.OpenLaw.row PySem.Challenge.rw_skyapart_k16_whole_separated_boxes_keep
abbrev hk : PySem.W.Hook := He.hookX 6 fa fn [] tf ex
def ob (s : PySem.W.SharedT) : He.AlX := He.obsX 6 fa fn [] tf ex (HandSHeadRun.getT s)
theorem ob_eq (s : PySem.W.SharedT) : ob s = hk.obs s.abs := He.obsX_eq (HandSHeadRun.getT_eq s)

def lo0 : List PySem.Str := ["root_up", "common", "cross", "dot", "point_square", "sign", "crosses", "squares", "closer", "lines_closer", "are_above", "separated", "leg_between", "leg_length", "Path", "_law_start", "_law_draw", "_law_pick", "_law_is_number", "_law_is"]
def lo1 : List PySem.Str := ["_law_root_up", "_law_names", "_law_legs", "_law_chart", "_law_leg", "_law_lengths", "_law_route_length", "_law_walk", "_law_begins", "_law_leg_at", "_law_place_on", "_law_piece", "_law_kind", "_law_rules", "_law_winds", "_law_wind_at", "_law_bounds", "_law_target", "_law_towards", "_law_small_chart"]
def lo2 : List PySem.Str := ["_law_course", "_law_in_box", "_law_vector", "_law_box"]
def loose : List PySem.Str := lo0 ++ lo1 ++ lo2
theorem run (w : World) : HandSHeadRun.RunEqI R (PySem.W.view R.prog [0, 51]) hk ob 6000 loose w := by
  unfold HandSHeadRun.RunEqI
  kernel_rfl
end K16
set_option maxHeartbeats 4000000
namespace K16
open PySem PySem.Spec PyProof.Rows L2
open GxR (TabG Tabbed)
/-! ### what the head tells, by names -/
abbrev Fn (K : PySem.W.Frag) (x q : Str) (st : Stmt) (f : Addr) (fd : FuncData) : Prop := FunD K x q (defArgs st) (defBody st) (defScope st) [] [] f fd
structure Tx (K : PySem.W.Frag) (mg : Str → Option Value) : Prop where
  said : He.SaysD fa fn K
  glo : ∀ (i : Nat) (x : Str), fa[i]? = some (.glo x) → mg x = some (.ref (He.ga K x))
  fre : ∀ (i : Nat) (x : Str), fa[i]? = some (.free x) → mg x = none
  isq : mg "isqrt" = some (.builtin "math.isqrt")
/-- a def of the module keeps its promise -/
def OkF (P : Program) (w : World) (K : PySem.W.Frag) (mg : Str → Option Value) (base : Heap) (j : Nat) (x : Str) (ps : List Str) (sp : Sp) : Prop :=
  ∃ (f : Addr) (fd : FuncData), FnOk P w K mg base CX0 j f fd ps sp ∧ mg x = some (.ref f) ∧ PySem.W.keepIn K (.ref f) = true ∧ Binds K fd ps []
/-- a method of the class at C -/
def OkM (P : Program) (w : World) (K : PySem.W.Frag) (mg : Str → Option Value) (base : Heap) (j : Nat) (C : Addr) (m : Str) (ps : List Str) (sp : Sp) : Prop :=
  ∃ (f : Addr) (fd : FuncData), FnOk P w K mg base CX0 j f fd ps sp ∧ Meth K C m f ∧ Binds K fd ps []
section
variable {P : Program} {w : World} {K : PySem.W.Frag} {mg : Str → Option Value} {base : Heap}
theorem okD {x q : Str} {st : Stmt} {f : Addr} {fd : FuncData} {N ps : List Str} {k : Nat} {sp : Sp} (F : Fn K x q st f fd) (S : FnScope N ps (defScope st)) (len : ∀ vs H Q E, sp vs H Q E → vs.length = ps.length)
    (hbody : ∀ (cdv : Value) (A : Around) (outer : List Env) (s : Shared) (H : Hp) (vs : List V) (Q : VK) (E : XK), Room k (A.deeper (envOfC q (defScope st) s.heap.objs.size f cdv)) → sp vs H Q E →
      ∃ t, PSs (cxOf CX0 P w K mg base N q (defScope st) f cdv A outer s H E).nox (defBody st) t ∧ t { nx := fun _ H' => Q .non H', rt := Q } (start N vs) H) : FnOk P w K mg base CX0 (k + 1) f fd ps sp := by
  refine F.ok S len fun cdv A outer s H vs Q E hr h => ?_
  obtain ⟨t, h1, h2⟩ := hbody cdv A outer s H vs Q E hr h
  exact ⟨t, h1.nox, h2⟩
/-- a def that makes generators: its code object by name -/
theorem okC {x q : Str} {st : Stmt} {p : Str × Option Str} {fd : FuncData} {N ps : List Str} {k : Nat} {sp : Sp} (F : Fn K x q st (He.fAd K p) fd) (S : FnScope N ps (defScope st)) (len : ∀ vs H Q E, sp vs H Q E → vs.length = ps.length)
    (hbody : ∀ (A : Around) (outer : List Env) (s : Shared) (H : Hp) (vs : List V) (Q : VK) (E : XK), Room k (A.deeper (envOfC q (defScope st) s.heap.objs.size (He.fAd K p) (.ref (He.codeOf K p)))) → sp vs H Q E →
      ∃ t, PSs (cxOf CX0 P w K mg base N q (defScope st) (He.fAd K p) (.ref (He.codeOf K p)) A outer s H E).nox (defBody st) t ∧ t { nx := fun _ H' => Q .non H', rt := Q } (start N vs) H) : FnOk P w K mg base CX0 (k + 1) (He.fAd K p) fd ps sp := by
  obtain ⟨oc, od, dV, kV, doc, pm, an, cdv, ct, osl, rfl, lk, hcd, _, _⟩ := F.ex
  obtain ⟨c, e⟩ := He.codeIn_ref hcd
  have ec : He.codeOf K p = c := He.codeOf_eq lk e
  refine fn_of lk hcd S len fun A outer s H vs Q E hr h => ?_
  rw [e, ← ec] at hr ⊢
  obtain ⟨t, h1, h2⟩ := hbody A outer s H vs Q E hr h
  exact ⟨t, h1.nox, h2⟩
end
section
variable {X : Cx} {j k : Nat} {x m : Str} {ps : List Str} {sp : Sp} {p pos apos : Pos} {e o : Expr} {es : List Expr} {t : TA} {ta : TE} {C : Addr}
theorem pe_fn (O : OkF X.prog X.w X.K X.mg X.base j x ps sp) (hr : Room k X.A) (hg : Gl X x) (ha : PA X (e :: es) t) (hk : j ≤ k := by decide) (hdb : (x == ("__debug__" : Str)) = false := by decide)
    (he : starEach (e :: es) X.env = (false, eval e X.env) :: starEach es X.env := by rfl) (hpl : (backTo pos (starEach es X.env)).any (·.1) = false := by rfl) : PE X (.Call (.Name x p) (e :: es) [] pos) (tCall sp [] E0 t) := by
  obtain ⟨f, fd, F, h1, h2, h3⟩ := O
  exact pe_call F (hr.mono hk) hg h1 h2 h3 .nil pass0 ha hdb he hpl
theorem pe_mth {pl : Sem Bool} (O : OkM X.prog X.w X.K X.mg X.base j C m ps sp) (c : Cls X.K C) (hr : Room k X.A) (he : PE X o ta) (ha : PA X (e :: es) t) (hk : j ≤ k := by decide)
    (hst : starEach (e :: es) X.env = (false, eval e X.env) :: starEach es X.env := by rfl) (hpl : (backTo pos (starEach es X.env)).any (·.1) = false := by rfl)
    (ht : eval (.Call (.Attribute o m apos) (e :: es) [] pos) X.env = (eval o X.env >>= fun ov => standAt apos.atName >>= fun _ => holding [ov] (getMethod ov m pl) >>= fun r =>
      callWith pos r.1 r.2 (backTo pos (starEach (e :: es) X.env)) (backToKw pos (keywordEach [] X.env))) := by rfl) : PE X (.Call (.Attribute o m apos) (e :: es) [] pos) (tMeth C m sp [] E0 ta t) := by
  obtain ⟨f, fd, F, h1, h2⟩ := O
  exact pe_meth he c h1 F (hr.mono hk) h2 .nil pass0 ha hst hpl ht
theorem pe_mth0 {pl : Sem Bool} (O : OkM X.prog X.w X.K X.mg X.base j C m ps sp) (c : Cls X.K C) (hr : Room k X.A) (he : PE X o ta) (hk : j ≤ k := by decide)
    (ht : eval (.Call (.Attribute o m apos) [] [] pos) X.env = (eval o X.env >>= fun ov => standAt apos.atName >>= fun _ => holding [ov] (getMethod ov m pl) >>= fun r =>
      callWith pos r.1 r.2 (backTo pos (starEach [] X.env)) (backToKw pos (keywordEach [] X.env))) := by rfl) : PE X (.Call (.Attribute o m apos) [] [] pos) (tMeth C m sp [] E0 ta tNil) := by
  obtain ⟨f, fd, F, h1, h2⟩ := O
  exact pe_meth0 he c h1 F (hr.mono hk) h2 .nil pass0 ht
end
/-! ### isqrt -/
def rIsq : List V → Hp → VK → Prop := fun vs H Q => ∃ a : Int, vs = [.int a] ∧ 0 ≤ a ∧ a < 2 ^ 64 ∧ Q (.int ((Float64.isqrt a.toNat : Nat) : Int)) H
theorem cr_isq {X : Cx} : CallR X (.builtin "math.isqrt") rIsq := by
  intro pins s σ H vs us Q I r h
  obtain ⟨a, rfl, h0, h1, q⟩ := h
  obtain ⟨u, rfl, ru⟩ := vals1 r
  obtain ⟨t, rfl⟩ := ru
  exact PySem.W.mg_isqrt h0 h1 ⟨.int _, H, I.tok _, ⟨_, rfl⟩, q⟩
theorem pe_isq {X : Cx} {p pos : Pos} {e : Expr} {t : TA} (hg : Gl X "isqrt") (hm : X.mg "isqrt" = some (.builtin "math.isqrt")) (ha : PA X [e] t)
    (he : starEach [e] X.env = (false, eval e X.env) :: starEach [] X.env := by rfl) (hpl : (backTo pos (starEach [] X.env)).any (·.1) = false := by rfl) : PE X (.Call (.Name "isqrt" p) [e] [] pos) (tCB rIsq t) :=
  pe_callBfun cr_isq hg hm ha (by decide) he hpl

/-! ### how the heap goes on -/
/-- a new object, all else as it was -/
theorem same_upd {H : Hp} {p : Addr} {o : HO} (h : H p = none) : Same H (upd H p o) := fun b x e => by
  rw [upd_ne (ne_of_none e h)]
  exact e
/-- all stays but the code tables, which grow, and dicts at sd -/
structure Ev (ts : List Addr) (sd : Addr) (H H' : Hp) : Prop where
  keep : ∀ a o, H a = some o → ((∀ kvs, o ≠ .dK kvs) ∨ a ≠ sd) → (∀ ps, o ≠ .tbl ps) → H' a = some o
  tab : ∀ P ∈ ts, TabG H P → TabG H' P
  free : ∀ a, H' a = none → H a = none
  cel : ∀ c kvs, H sd = some (.dK kvs) → valV kvs (.inr "cells") = some (.ref c) → ∃ kvs', H' sd = some (.dK kvs') ∧ valV kvs' (.inr "cells") = some (.ref c)
theorem Ev.refl (ts : List Addr) (sd : Addr) (H : Hp) : Ev ts sd H H := ⟨fun _ _ h _ _ => h, fun _ _ h => h, fun _ h => h, fun _ kvs h e => ⟨kvs, h, e⟩⟩
theorem Ev.trans {ts : List Addr} {sd : Addr} {H H1 H2 : Hp} (a : Ev ts sd H H1) (b : Ev ts sd H1 H2) : Ev ts sd H H2 :=
  ⟨fun c o h n m => b.keep c o (a.keep c o h n m) n m, fun P hP h => b.tab P hP (a.tab P hP h), fun c h => a.free c (b.free c h), fun c kvs h e => by obtain ⟨kvs', h', e'⟩ := a.cel c kvs h e; exact b.cel c kvs' h' e'⟩
theorem Ev.of {ts : List Addr} {sd : Addr} {H H' : Hp} (s : Same H H') : Ev ts sd H H' :=
  ⟨fun a o h _ _ => s a o h, fun P _ ⟨ps, h, t⟩ => ⟨ps, s _ _ h, t⟩, fun _ h => s.free h, fun _ kvs h e => ⟨kvs, s _ _ h, e⟩⟩
theorem Ev.lst {ts : List Addr} {sd a : Addr} {H H' : Hp} {xs : List V} (e : Ev ts sd H H') (h : H a = some (.lst xs)) : H' a = some (.lst xs) := e.keep a _ h (.inl fun _ z => by cases z) fun _ z => by cases z
theorem Ev.tup {ts : List Addr} {sd a : Addr} {H H' : Hp} {xs : List V} (e : Ev ts sd H H') (h : H a = some (.tup xs)) : H' a = some (.tup xs) := e.keep a _ h (.inl fun _ z => by cases z) fun _ z => by cases z
theorem Ev.dT {ts : List Addr} {sd a : Addr} {H H' : Hp} {xs : List (List Key × V)} (e : Ev ts sd H H') (h : H a = some (.dT xs)) : H' a = some (.dT xs) := e.keep a _ h (.inl fun _ z => by cases z) fun _ z => by cases z
theorem Ev.ins {ts : List Addr} {sd a C dx : Addr} {H H' : Hp} {fs : List (Str × V)} (e : Ev ts sd H H') (h : H a = some (.ins C dx fs)) : H' a = some (.ins C dx fs) := e.keep a _ h (.inl fun _ z => by cases z) fun _ z => by cases z
theorem Ev.dK {ts : List Addr} {sd a : Addr} {H H' : Hp} {xs : List (Key × V)} (e : Ev ts sd H H') (n : a ≠ sd) (h : H a = some (.dK xs)) : H' a = some (.dK xs) := e.keep a _ h (.inr n) fun _ z => by cases z
/-- all stays but the code tables -/
structure EvT (ts : List Addr) (H H' : Hp) : Prop where
  keep : ∀ a o, H a = some o → (∀ ps, o ≠ .tbl ps) → H' a = some o
  tab : ∀ P ∈ ts, TabG H P → TabG H' P
  free : ∀ a, H' a = none → H a = none
theorem EvT.refl (ts : List Addr) (H : Hp) : EvT ts H H := ⟨fun _ _ h _ => h, fun _ _ h => h, fun _ h => h⟩
theorem EvT.trans {ts : List Addr} {H H1 H2 : Hp} (a : EvT ts H H1) (b : EvT ts H1 H2) : EvT ts H H2 :=
  ⟨fun c o h m => b.keep c o (a.keep c o h m) m, fun P hP h => b.tab P hP (a.tab P hP h), fun c h => a.free c (b.free c h)⟩
theorem EvT.of {ts : List Addr} {H H' : Hp} (s : Same H H') : EvT ts H H' := ⟨fun a o h _ => s a o h, fun P _ ⟨ps, h, t⟩ => ⟨ps, s _ _ h, t⟩, fun _ h => s.free h⟩
theorem EvT.ev {ts : List Addr} {H H' : Hp} (e : EvT ts H H') (sd : Addr) : Ev ts sd H H' := ⟨fun a o h _ m => e.keep a o h m, e.tab, e.free, fun _ kvs h x => ⟨kvs, e.keep _ _ h (fun _ z => by cases z), x⟩⟩
theorem EvT.lst {ts : List Addr} {a : Addr} {H H' : Hp} {xs : List V} (e : EvT ts H H') (h : H a = some (.lst xs)) : H' a = some (.lst xs) := e.keep a _ h fun _ z => by cases z
theorem EvT.tup {ts : List Addr} {a : Addr} {H H' : Hp} {xs : List V} (e : EvT ts H H') (h : H a = some (.tup xs)) : H' a = some (.tup xs) := e.keep a _ h fun _ z => by cases z
theorem EvT.dK {ts : List Addr} {a : Addr} {H H' : Hp} {xs : List (Key × V)} (e : EvT ts H H') (h : H a = some (.dK xs)) : H' a = some (.dK xs) := e.keep a _ h fun _ z => by cases z
theorem EvT.ins {ts : List Addr} {a C dx : Addr} {H H' : Hp} {fs : List (Str × V)} (e : EvT ts H H') (h : H a = some (.ins C dx fs)) : H' a = some (.ins C dx fs) := e.keep a _ h fun _ z => by cases z
/-- a table has grown -/
theorem EvT.tabbed {ts : List Addr} {P : Addr} {H H' : Hp} (hP : TabG H P) (t : Tabbed P H H') : EvT ts H H' where
  keep := fun a o h m => by
    have n : a ≠ P := fun z => by
      obtain ⟨ps, e, _⟩ := hP
      rw [z, e] at h
      exact m ps (Option.some.inj h).symm
    rw [t.2 a n]
    exact h
  tab := fun Q _ h => by
    by_cases z : Q = P
    · rw [z]
      exact t.1
    · obtain ⟨ps, e, q⟩ := h
      exact ⟨ps, by rw [t.2 Q z]; exact e, q⟩
  free := fun a h => by
    by_cases z : a = P
    · obtain ⟨ps, e, _⟩ := t.1
      rw [z, e] at h
      cases h
    · rw [← t.2 a z]
      exact h
/-! ### bounds -/
theorem mul_bd {a b A B : Int} (ha : -A ≤ a ∧ a ≤ A) (hb : -B ≤ b ∧ b ≤ B) : -(A * B) ≤ a * b ∧ a * b ≤ A * B := by
  have hA : 0 ≤ A := by omega
  have hB : 0 ≤ B := by omega
  have h1 : a.natAbs ≤ A.toNat := by omega
  have h2 : b.natAbs ≤ B.toNat := by omega
  have h3 : (a * b).natAbs ≤ A.toNat * B.toNat := by
    rw [Int.natAbs_mul]
    exact Nat.mul_le_mul h1 h2
  have h4 : ((A.toNat * B.toNat : Nat) : Int) = A * B := by
    rw [Int.natCast_mul, Int.toNat_of_nonneg hA, Int.toNat_of_nonneg hB]
  omega
end K16
/-! The facts of the text, by names. -/
namespace K16
open PySem PySem.Spec PyProof.Rows L2
variable {K : PySem.W.Frag} {mg : Str → Option Value}
theorem Tx.g_root_up (T : Tx K mg) : mg "root_up" = some (.ref (He.ga K "root_up")) := T.glo 0 "root_up" rfl
theorem Tx.g_common (T : Tx K mg) : mg "common" = some (.ref (He.ga K "common")) := T.glo 1 "common" rfl
theorem Tx.g_cross (T : Tx K mg) : mg "cross" = some (.ref (He.ga K "cross")) := T.glo 2 "cross" rfl
theorem Tx.g_dot (T : Tx K mg) : mg "dot" = some (.ref (He.ga K "dot")) := T.glo 3 "dot" rfl
theorem Tx.g_point_square (T : Tx K mg) : mg "point_square" = some (.ref (He.ga K "point_square")) := T.glo 4 "point_square" rfl
theorem Tx.g_sign (T : Tx K mg) : mg "sign" = some (.ref (He.ga K "sign")) := T.glo 5 "sign" rfl
theorem Tx.g_crosses (T : Tx K mg) : mg "crosses" = some (.ref (He.ga K "crosses")) := T.glo 6 "crosses" rfl
theorem Tx.g_squares (T : Tx K mg) : mg "squares" = some (.ref (He.ga K "squares")) := T.glo 7 "squares" rfl
theorem Tx.g_closer (T : Tx K mg) : mg "closer" = some (.ref (He.ga K "closer")) := T.glo 8 "closer" rfl
theorem Tx.g_lines_closer (T : Tx K mg) : mg "lines_closer" = some (.ref (He.ga K "lines_closer")) := T.glo 9 "lines_closer" rfl
theorem Tx.g_are_above (T : Tx K mg) : mg "are_above" = some (.ref (He.ga K "are_above")) := T.glo 10 "are_above" rfl
theorem Tx.g_separated (T : Tx K mg) : mg "separated" = some (.ref (He.ga K "separated")) := T.glo 11 "separated" rfl
theorem Tx.g_leg_between (T : Tx K mg) : mg "leg_between" = some (.ref (He.ga K "leg_between")) := T.glo 12 "leg_between" rfl
theorem Tx.g_leg_length (T : Tx K mg) : mg "leg_length" = some (.ref (He.ga K "leg_length")) := T.glo 13 "leg_length" rfl
theorem Tx.g_l_start (T : Tx K mg) : mg "_law_start" = some (.ref (He.ga K "_law_start")) := T.glo 14 "_law_start" rfl
theorem Tx.g_l_draw (T : Tx K mg) : mg "_law_draw" = some (.ref (He.ga K "_law_draw")) := T.glo 15 "_law_draw" rfl
theorem Tx.g_l_pick (T : Tx K mg) : mg "_law_pick" = some (.ref (He.ga K "_law_pick")) := T.glo 16 "_law_pick" rfl
theorem Tx.g_l_root_up (T : Tx K mg) : mg "_law_root_up" = some (.ref (He.ga K "_law_root_up")) := T.glo 17 "_law_root_up" rfl
theorem Tx.g_l_names (T : Tx K mg) : mg "_law_names" = some (.ref (He.ga K "_law_names")) := T.glo 18 "_law_names" rfl
theorem Tx.g_l_legs (T : Tx K mg) : mg "_law_legs" = some (.ref (He.ga K "_law_legs")) := T.glo 19 "_law_legs" rfl
theorem Tx.g_l_chart (T : Tx K mg) : mg "_law_chart" = some (.ref (He.ga K "_law_chart")) := T.glo 20 "_law_chart" rfl
theorem Tx.g_l_lengths (T : Tx K mg) : mg "_law_lengths" = some (.ref (He.ga K "_law_lengths")) := T.glo 21 "_law_lengths" rfl
theorem Tx.g_l_rules (T : Tx K mg) : mg "_law_rules" = some (.ref (He.ga K "_law_rules")) := T.glo 22 "_law_rules" rfl
theorem Tx.g_l_walk (T : Tx K mg) : mg "_law_walk" = some (.ref (He.ga K "_law_walk")) := T.glo 23 "_law_walk" rfl
theorem Tx.g_l_begins (T : Tx K mg) : mg "_law_begins" = some (.ref (He.ga K "_law_begins")) := T.glo 24 "_law_begins" rfl
theorem Tx.g_l_leg_at (T : Tx K mg) : mg "_law_leg_at" = some (.ref (He.ga K "_law_leg_at")) := T.glo 25 "_law_leg_at" rfl
theorem Tx.g_l_place_on (T : Tx K mg) : mg "_law_place_on" = some (.ref (He.ga K "_law_place_on")) := T.glo 26 "_law_place_on" rfl
theorem Tx.g_l_small_chart (T : Tx K mg) : mg "_law_small_chart" = some (.ref (He.ga K "_law_small_chart")) := T.glo 27 "_law_small_chart" rfl
theorem Tx.g_l_in_box (T : Tx K mg) : mg "_law_in_box" = some (.ref (He.ga K "_law_in_box")) := T.glo 28 "_law_in_box" rfl
theorem Tx.g_l_vector (T : Tx K mg) : mg "_law_vector" = some (.ref (He.ga K "_law_vector")) := T.glo 29 "_law_vector" rfl
theorem Tx.g_l_box (T : Tx K mg) : mg "_law_box" = some (.ref (He.ga K "_law_box")) := T.glo 30 "_law_box" rfl
theorem Tx.g_law (T : Tx K mg) : mg "law" = some (.ref (He.ga K "law")) := T.glo 31 "law" rfl
theorem Tx.g_Path (T : Tx K mg) : mg "Path" = some (.ref (He.ga K "Path")) := T.glo 32 "Path" rfl
theorem Tx.abs (T : Tx K mg) : mg "abs" = none := T.fre 33 "abs" rfl
theorem Tx.int (T : Tx K mg) : mg "int" = none := T.fre 34 "int" rfl
theorem Tx.len (T : Tx K mg) : mg "len" = none := T.fre 35 "len" rfl
theorem Tx.range (T : Tx K mg) : mg "range" = none := T.fre 36 "range" rfl
theorem Tx.any (T : Tx K mg) : mg "any" = none := T.fre 37 "any" rfl
theorem Tx.zip (T : Tx K mg) : mg "zip" = none := T.fre 38 "zip" rfl
theorem Tx.max (T : Tx K mg) : mg "max" = none := T.fre 39 "max" rfl
theorem Tx.min (T : Tx K mg) : mg "min" = none := T.fre 40 "min" rfl
theorem Tx.tuple (T : Tx K mg) : mg "tuple" = none := T.fre 41 "tuple" rfl
theorem Tx.sorted (T : Tx K mg) : mg "sorted" = none := T.fre 42 "sorted" rfl
theorem Tx.cl (T : Tx K mg) : Cls K (He.ga K "Path") := He.cls_ok (T.said.fact 43 (f := .cls "Path") rfl)
theorem Tx.no_route (T : Tx K mg) : NoAttr K (He.ga K "Path") "_route" := He.noat_ok (T.said.fact 44 (f := .noat "Path" "_route") rfl)
theorem Tx.no_legs (T : Tx K mg) : NoAttr K (He.ga K "Path") "_legs" := He.noat_ok (T.said.fact 45 (f := .noat "Path" "_legs") rfl)
theorem Tx.no_points (T : Tx K mg) : NoAttr K (He.ga K "Path") "_points" := He.noat_ok (T.said.fact 46 (f := .noat "Path" "_points") rfl)
theorem Tx.no_begins (T : Tx K mg) : NoAttr K (He.ga K "Path") "_begins" := He.noat_ok (T.said.fact 47 (f := .noat "Path" "_begins") rfl)
theorem Tx.m_init (T : Tx K mg) : Meth K (He.ga K "Path") "__init__" (He.ma K (He.ga K "Path") "__init__") := He.meth_ok (T.said.fact 48 (f := .meth "Path" "__init__") rfl)
theorem Tx.m_total (T : Tx K mg) : Meth K (He.ga K "Path") "total" (He.ma K (He.ga K "Path") "total") := He.meth_ok (T.said.fact 49 (f := .meth "Path" "total") rfl)
theorem Tx.m_leg_at (T : Tx K mg) : Meth K (He.ga K "Path") "leg_at" (He.ma K (He.ga K "Path") "leg_at") := He.meth_ok (T.said.fact 50 (f := .meth "Path" "leg_at") rfl)
theorem Tx.m_vector (T : Tx K mg) : Meth K (He.ga K "Path") "vector" (He.ma K (He.ga K "Path") "vector") := He.meth_ok (T.said.fact 51 (f := .meth "Path" "vector") rfl)
theorem Tx.m_on_leg (T : Tx K mg) : Meth K (He.ga K "Path") "_on_leg" (He.ma K (He.ga K "Path") "_on_leg") := He.meth_ok (T.said.fact 52 (f := .meth "Path" "_on_leg") rfl)
theorem Tx.m_place (T : Tx K mg) : Meth K (He.ga K "Path") "place" (He.ma K (He.ga K "Path") "place") := He.meth_ok (T.said.fact 53 (f := .meth "Path" "place") rfl)
theorem Tx.m_piece (T : Tx K mg) : Meth K (He.ga K "Path") "piece" (He.ma K (He.ga K "Path") "piece") := He.meth_ok (T.said.fact 54 (f := .meth "Path" "piece") rfl)
theorem Tx.mkr (T : Tx K mg) : Mk K (He.ga K "Path") (He.ma K (He.ga K "Path") "__init__") := He.mkr_ok (T.said.fact 55 (f := .mkr "Path") rfl)
theorem Tx.f_root_up (T : Tx K mg) : ∃ fd, Fn K "root_up" "root_up" s_root_up (He.ga K "root_up") fd := T.said.def_ 0 rfl
theorem Tx.f_common (T : Tx K mg) : ∃ fd, Fn K "common" "common" s_common (He.ga K "common") fd := T.said.def_ 1 rfl
theorem Tx.f_cross (T : Tx K mg) : ∃ fd, Fn K "cross" "cross" s_cross (He.ga K "cross") fd := T.said.def_ 2 rfl
theorem Tx.f_dot (T : Tx K mg) : ∃ fd, Fn K "dot" "dot" s_dot (He.ga K "dot") fd := T.said.def_ 3 rfl
theorem Tx.f_point_square (T : Tx K mg) : ∃ fd, Fn K "point_square" "point_square" s_point_square (He.ga K "point_square") fd := T.said.def_ 4 rfl
theorem Tx.f_sign (T : Tx K mg) : ∃ fd, Fn K "sign" "sign" s_sign (He.ga K "sign") fd := T.said.def_ 5 rfl
theorem Tx.f_crosses (T : Tx K mg) : ∃ fd, Fn K "crosses" "crosses" s_crosses (He.ga K "crosses") fd := T.said.def_ 6 rfl
theorem Tx.f_squares (T : Tx K mg) : ∃ fd, Fn K "squares" "squares" s_squares (He.ga K "squares") fd := T.said.def_ 7 rfl
theorem Tx.f_closer (T : Tx K mg) : ∃ fd, Fn K "closer" "closer" s_closer (He.ga K "closer") fd := T.said.def_ 8 rfl
theorem Tx.f_lines_closer (T : Tx K mg) : ∃ fd, Fn K "lines_closer" "lines_closer" s_lines_closer (He.ga K "lines_closer") fd := T.said.def_ 9 rfl
theorem Tx.f_are_above (T : Tx K mg) : ∃ fd, Fn K "are_above" "are_above" s_are_above (He.ga K "are_above") fd := T.said.def_ 10 rfl
theorem Tx.f_separated (T : Tx K mg) : ∃ fd, Fn K "separated" "separated" s_separated (He.ga K "separated") fd := T.said.def_ 11 rfl
theorem Tx.f_leg_between (T : Tx K mg) : ∃ fd, Fn K "leg_between" "leg_between" s_leg_between (He.ga K "leg_between") fd := T.said.def_ 12 rfl
theorem Tx.f_leg_length (T : Tx K mg) : ∃ fd, Fn K "leg_length" "leg_length" s_leg_length (He.ga K "leg_length") fd := T.said.def_ 13 rfl
theorem Tx.f_l_start (T : Tx K mg) : ∃ fd, Fn K "_law_start" "_law_start" s_law_start (He.ga K "_law_start") fd := T.said.def_ 14 rfl
theorem Tx.f_l_draw (T : Tx K mg) : ∃ fd, Fn K "_law_draw" "_law_draw" s_law_draw (He.ga K "_law_draw") fd := T.said.def_ 15 rfl
theorem Tx.f_l_pick (T : Tx K mg) : ∃ fd, Fn K "_law_pick" "_law_pick" s_law_pick (He.ga K "_law_pick") fd := T.said.def_ 16 rfl
theorem Tx.f_l_root_up (T : Tx K mg) : ∃ fd, Fn K "_law_root_up" "_law_root_up" s_law_root_up (He.ga K "_law_root_up") fd := T.said.def_ 17 rfl
theorem Tx.f_l_names (T : Tx K mg) : ∃ fd, Fn K "_law_names" "_law_names" s_law_names (He.ga K "_law_names") fd := T.said.def_ 18 rfl
theorem Tx.f_l_legs (T : Tx K mg) : ∃ fd, Fn K "_law_legs" "_law_legs" s_law_legs (He.ga K "_law_legs") fd := T.said.def_ 19 rfl
theorem Tx.f_l_chart (T : Tx K mg) : ∃ fd, Fn K "_law_chart" "_law_chart" s_law_chart (He.ga K "_law_chart") fd := T.said.def_ 20 rfl
theorem Tx.f_l_lengths (T : Tx K mg) : ∃ fd, Fn K "_law_lengths" "_law_lengths" s_law_lengths (He.ga K "_law_lengths") fd := T.said.def_ 21 rfl
theorem Tx.f_l_rules (T : Tx K mg) : ∃ fd, Fn K "_law_rules" "_law_rules" s_law_rules (He.ga K "_law_rules") fd := T.said.def_ 22 rfl
theorem Tx.f_l_walk (T : Tx K mg) : ∃ fd, Fn K "_law_walk" "_law_walk" s_law_walk (He.ga K "_law_walk") fd := T.said.def_ 23 rfl
theorem Tx.f_l_begins (T : Tx K mg) : ∃ fd, Fn K "_law_begins" "_law_begins" s_law_begins (He.ga K "_law_begins") fd := T.said.def_ 24 rfl
theorem Tx.f_l_leg_at (T : Tx K mg) : ∃ fd, Fn K "_law_leg_at" "_law_leg_at" s_law_leg_at (He.ga K "_law_leg_at") fd := T.said.def_ 25 rfl
theorem Tx.f_l_place_on (T : Tx K mg) : ∃ fd, Fn K "_law_place_on" "_law_place_on" s_law_place_on (He.ga K "_law_place_on") fd := T.said.def_ 26 rfl
theorem Tx.f_l_small_chart (T : Tx K mg) : ∃ fd, Fn K "_law_small_chart" "_law_small_chart" s_law_small_chart (He.ga K "_law_small_chart") fd := T.said.def_ 27 rfl
theorem Tx.f_l_in_box (T : Tx K mg) : ∃ fd, Fn K "_law_in_box" "_law_in_box" s_law_in_box (He.ga K "_law_in_box") fd := T.said.def_ 28 rfl
theorem Tx.f_l_vector (T : Tx K mg) : ∃ fd, Fn K "_law_vector" "_law_vector" s_law_vector (He.ga K "_law_vector") fd := T.said.def_ 29 rfl
theorem Tx.f_l_box (T : Tx K mg) : ∃ fd, Fn K "_law_box" "_law_box" s_law_box (He.ga K "_law_box") fd := T.said.def_ 30 rfl
theorem Tx.f_law (T : Tx K mg) : ∃ fd, Fn K "law" "law" s_law (He.ga K "law") fd := T.said.def_ 31 rfl
theorem Tx.fm_init (T : Tx K mg) : ∃ fd, Fn K "__init__" "Path.__init__" sP_init (He.ma K (He.ga K "Path") "__init__") fd := T.said.def_ 32 rfl
theorem Tx.fm_total (T : Tx K mg) : ∃ fd, Fn K "total" "Path.total" sP_total (He.ma K (He.ga K "Path") "total") fd := T.said.def_ 33 rfl
theorem Tx.fm_leg_at (T : Tx K mg) : ∃ fd, Fn K "leg_at" "Path.leg_at" sP_leg_at (He.ma K (He.ga K "Path") "leg_at") fd := T.said.def_ 34 rfl
theorem Tx.fm_vector (T : Tx K mg) : ∃ fd, Fn K "vector" "Path.vector" sP_vector (He.ma K (He.ga K "Path") "vector") fd := T.said.def_ 35 rfl
theorem Tx.fm_on_leg (T : Tx K mg) : ∃ fd, Fn K "_on_leg" "Path._on_leg" sP_on_leg (He.ma K (He.ga K "Path") "_on_leg") fd := T.said.def_ 36 rfl
theorem Tx.fm_place (T : Tx K mg) : ∃ fd, Fn K "place" "Path.place" sP_place (He.ma K (He.ga K "Path") "place") fd := T.said.def_ 37 rfl
theorem Tx.fm_piece (T : Tx K mg) : ∃ fd, Fn K "piece" "Path.piece" sP_piece (He.ma K (He.ga K "Path") "piece") fd := T.said.def_ 38 rfl
end K16
set_option maxHeartbeats 4000000
/-! The plane: each def by its promise. -/
namespace K16
open PySem PySem.Spec PyProof.Rows L2
open Geo (Pt crossP dotP pointSq sgn crossesB)
abbrev pt (p : Pt) : List V := [.int p.1, .int p.2]
/-- both coordinates within n -/
def Bd (n : Int) (p : Pt) : Prop := (-n ≤ p.1 ∧ p.1 ≤ n) ∧ (-n ≤ p.2 ∧ p.2 ≤ n)
/-- 2 ^ 28 -/
abbrev NB : Int := 268435456
theorem cross_bd {o f s : Pt} (ho : Bd NB o) (hf : Bd NB f) (hs : Bd NB s) : -(576460752303423488) ≤ crossP o f s ∧ crossP o f s ≤ 576460752303423488 := by
  have h1 := mul_bd (a := f.1 - o.1) (b := s.2 - o.2) (A := 536870912) (B := 536870912) (by have := ho.1; have := hf.1; simp only [NB] at *; omega) (by have := ho.2; have := hs.2; simp only [NB] at *; omega)
  have h2 := mul_bd (a := f.2 - o.2) (b := s.1 - o.1) (A := 536870912) (B := 536870912) (by have := ho.2; have := hf.2; simp only [NB] at *; omega) (by have := ho.1; have := hs.1; simp only [NB] at *; omega)
  unfold crossP
  omega
theorem dot_bd {o f s : Pt} (ho : Bd NB o) (hf : Bd NB f) (hs : Bd NB s) : -(576460752303423488) ≤ dotP o f s ∧ dotP o f s ≤ 576460752303423488 := by
  have h1 := mul_bd (a := f.1 - o.1) (b := s.1 - o.1) (A := 536870912) (B := 536870912) (by have := ho.1; have := hf.1; simp only [NB] at *; omega) (by have := ho.1; have := hs.1; simp only [NB] at *; omega)
  have h2 := mul_bd (a := f.2 - o.2) (b := s.2 - o.2) (A := 536870912) (B := 536870912) (by have := ho.2; have := hf.2; simp only [NB] at *; omega) (by have := ho.2; have := hs.2; simp only [NB] at *; omega)
  unfold dotP
  omega
theorem diff64 {a b : Int} (ha : -NB ≤ a ∧ a ≤ NB) (hb : -NB ≤ b ∧ b ≤ NB) : -(2 ^ 64) < a - b ∧ a - b < 2 ^ 64 := by
  simp only [NB] at *
  omega
/-- three points in, an int out -/
def sp3 (f : Pt → Pt → Pt → Int) : Sp := fun vs H Q _ => ∃ (a b c : Addr) (o x y : Pt), vs = [.ref a, .ref b, .ref c] ∧ H a = some (.tup (pt o)) ∧ H b = some (.tup (pt x)) ∧ H c = some (.tup (pt y)) ∧ Bd NB o ∧ Bd NB x ∧ Bd NB y ∧ Q (.int (f o x y)) H
section
variable {P : Program} {w : World} {K : PySem.W.Frag} {mg : Str → Option Value} {base : Heap}
theorem sc_cross : FnScope ["origin", "first", "second"] ["origin", "first", "second"] (defScope s_cross) := ⟨rfl, rfl, rfl, by decide +kernel, rfl, by decide +kernel, by decide +kernel⟩
theorem ok_cross (T : Tx K mg) : OkF P w K mg base 1 "cross" ["origin", "first", "second"] (sp3 crossP) := by
  obtain ⟨fd, F⟩ := T.f_cross
  refine ⟨_, fd, okD F sc_cross (fun vs H Q E h => ?_) (fun cdv A outer s H vs Q E hr h => ?_), T.g_cross, F.kp, F.bindsN fun _ _ _ _ _ _ us hl => match us, hl with | [_, _, _], _ => rfl⟩
  · obtain ⟨_, _, _, _, _, _, rfl, _⟩ := h
    rfl
  · obtain ⟨a, b, c, o, x, y, rfl, ha, hb, hc, bo, bx, bY, q⟩ := h
    refine ⟨_, (pss_one (ps_ret (pe_op op_sub (pe_op op_mul (pe_op op_sub (pe_ix ix_tup (pv 1) pe_int (fun _ _ => rfl)) (pe_ix ix_tup (pv 0) pe_int (fun _ _ => rfl))) (pe_op op_sub (pe_ix ix_tup (pv 2) pe_int (fun _ _ => rfl)) (pe_ix ix_tup (pv 0) pe_int (fun _ _ => rfl)))) (pe_op op_mul (pe_op op_sub (pe_ix ix_tup (pv 1) pe_int (fun _ _ => rfl)) (pe_ix ix_tup (pv 0) pe_int (fun _ _ => rfl))) (pe_op op_sub (pe_ix ix_tup (pv 2) pe_int (fun _ _ => rfl)) (pe_ix ix_tup (pv 0) pe_int (fun _ _ => rfl))))))), ?_⟩
    refine ⟨_, rfl, b, _, 0, _, rfl, rfl, SqT.of hb, rfl, _, rfl, a, _, 0, _, rfl, rfl, SqT.of ha, rfl, _, _, rfl, rfl, _, rfl, c, _, 1, _, rfl, rfl, SqT.of hc, rfl, _, rfl, a, _, 1, _, rfl, rfl, SqT.of ha, rfl, _, _, rfl, rfl, _, _, rfl, rfl, .inl (diff64 bx.1 bo.1), ?_⟩
    refine ⟨_, rfl, b, _, 1, _, rfl, rfl, SqT.of hb, rfl, _, rfl, a, _, 1, _, rfl, rfl, SqT.of ha, rfl, _, _, rfl, rfl, _, rfl, c, _, 0, _, rfl, rfl, SqT.of hc, rfl, _, rfl, a, _, 0, _, rfl, rfl, SqT.of ha, rfl, _, _, rfl, rfl, _, _, rfl, rfl, .inl (diff64 bx.2 bo.2), _, _, rfl, rfl, q⟩
theorem sc_dot : FnScope ["origin", "first", "second"] ["origin", "first", "second"] (defScope s_dot) := ⟨rfl, rfl, rfl, by decide +kernel, rfl, by decide +kernel, by decide +kernel⟩
theorem ok_dot (T : Tx K mg) : OkF P w K mg base 1 "dot" ["origin", "first", "second"] (sp3 dotP) := by
  obtain ⟨fd, F⟩ := T.f_dot
  refine ⟨_, fd, okD F sc_dot (fun vs H Q E h => ?_) (fun cdv A outer s H vs Q E hr h => ?_), T.g_dot, F.kp, F.bindsN fun _ _ _ _ _ _ us hl => match us, hl with | [_, _, _], _ => rfl⟩
  · obtain ⟨_, _, _, _, _, _, rfl, _⟩ := h
    rfl
  · obtain ⟨a, b, c, o, x, y, rfl, ha, hb, hc, bo, bx, bY, q⟩ := h
    refine ⟨_, (pss_one (ps_ret (pe_op op_add (pe_op op_mul (pe_op op_sub (pe_ix ix_tup (pv 1) pe_int (fun _ _ => rfl)) (pe_ix ix_tup (pv 0) pe_int (fun _ _ => rfl))) (pe_op op_sub (pe_ix ix_tup (pv 2) pe_int (fun _ _ => rfl)) (pe_ix ix_tup (pv 0) pe_int (fun _ _ => rfl)))) (pe_op op_mul (pe_op op_sub (pe_ix ix_tup (pv 1) pe_int (fun _ _ => rfl)) (pe_ix ix_tup (pv 0) pe_int (fun _ _ => rfl))) (pe_op op_sub (pe_ix ix_tup (pv 2) pe_int (fun _ _ => rfl)) (pe_ix ix_tup (pv 0) pe_int (fun _ _ => rfl))))))), ?_⟩
    refine ⟨_, rfl, b, _, 0, _, rfl, rfl, SqT.of hb, rfl, _, rfl, a, _, 0, _, rfl, rfl, SqT.of ha, rfl, _, _, rfl, rfl, _, rfl, c, _, 0, _, rfl, rfl, SqT.of hc, rfl, _, rfl, a, _, 0, _, rfl, rfl, SqT.of ha, rfl, _, _, rfl, rfl, _, _, rfl, rfl, .inl (diff64 bx.1 bo.1), ?_⟩
    refine ⟨_, rfl, b, _, 1, _, rfl, rfl, SqT.of hb, rfl, _, rfl, a, _, 1, _, rfl, rfl, SqT.of ha, rfl, _, _, rfl, rfl, _, rfl, c, _, 1, _, rfl, rfl, SqT.of hc, rfl, _, rfl, a, _, 1, _, rfl, rfl, SqT.of ha, rfl, _, _, rfl, rfl, _, _, rfl, rfl, .inl (diff64 bx.2 bo.2), _, _, rfl, rfl, q⟩
def spSign : Sp := fun vs H Q _ => ∃ n : Int, vs = [.int n] ∧ Q (.int (sgn n)) H
theorem sc_sign : FnScope ["number"] ["number"] (defScope s_sign) := ⟨rfl, rfl, rfl, by decide +kernel, rfl, by decide +kernel, by decide +kernel⟩
theorem ok_sign (T : Tx K mg) : OkF P w K mg base 1 "sign" ["number"] spSign := by
  obtain ⟨fd, F⟩ := T.f_sign
  refine ⟨_, fd, okD F sc_sign (fun vs H Q E h => ?_) (fun cdv A outer s H vs Q E hr h => ?_), T.g_sign, F.kp, F.bindsN fun _ _ _ _ _ _ us hl => match us, hl with | [_], _ => rfl⟩
  · obtain ⟨_, rfl, _⟩ := h
    rfl
  · obtain ⟨n, rfl, q⟩ := h
    refine ⟨_, (pss_one (ps_ret (pe_op op_sub (pe_callTy call_int1 (by rfl) T.int (by decide +kernel) (pa_cons (pe_cmpR op_gt (pv 0) pe_int (nomark _)) pa_nil)) (pe_callTy call_int1 (by rfl) T.int (by decide +kernel) (pa_cons (pe_cmpR op_lt (pv 0) pe_int (nomark _)) pa_nil))))), ?_⟩
    refine ⟨_, rfl, _, _, rfl, rfl, .inr ⟨_, rfl, _, rfl, _, _, rfl, rfl, .inr ⟨_, rfl, _, _, rfl, rfl, ?_⟩⟩⟩
    have e : (if decide (0 < n) = true then (1 : Int) else 0) - (if decide (n < 0) = true then 1 else 0) = sgn n := by
      unfold sgn
      simp
    show Q (.int ((if decide (0 < n) = true then (1 : Int) else 0) - (if decide (n < 0) = true then 1 else 0))) H
    rw [e]
    exact q
end
end K16
set_option maxHeartbeats 4000000
namespace K16
open PySem PySem.Spec PyProof.Rows L2
open Geo (Pt crossP dotP pointSq sgn crossesB)
theorem sgn_bd (n : Int) : -(2 ^ 64) < sgn n ∧ sgn n < 2 ^ 64 := by
  unfold sgn
  split <;> split <;> omega
def spCrosses : Sp := fun vs H Q _ => ∃ (a b c d : Addr) (x y z t : Pt), vs = [.ref a, .ref b, .ref c, .ref d] ∧ H a = some (.tup (pt x)) ∧ H b = some (.tup (pt y)) ∧ H c = some (.tup (pt z)) ∧ H d = some (.tup (pt t)) ∧
  Bd NB x ∧ Bd NB y ∧ Bd NB z ∧ Bd NB t ∧ Q (.bl (crossesB x y z t)) H
def spPS : Sp := fun vs H Q _ => ∃ (a b c : Addr) (p s e : Pt), vs = [.ref a, .ref b, .ref c] ∧ H a = some (.tup (pt p)) ∧ H b = some (.tup (pt s)) ∧ H c = some (.tup (pt e)) ∧ Bd NB p ∧ Bd NB s ∧ Bd NB e ∧
  ∀ H' r, Same H H' → H' r = some (.tup (pt (pointSq p s e))) → Q (.ref r) H'
section
variable {P : Program} {w : World} {K : PySem.W.Frag} {mg : Str → Option Value} {base : Heap}
theorem sc_crosses : FnScope ["start", "end", "other_start", "other_end", "first", "second"] ["start", "end", "other_start", "other_end"] (defScope s_crosses) := ⟨rfl, rfl, rfl, by decide +kernel, rfl, by decide +kernel, by decide +kernel⟩
theorem ok_crosses (T : Tx K mg) (O_sign : OkF P w K mg base 1 "sign" ["number"] spSign) (O_cross : OkF P w K mg base 1 "cross" ["origin", "first", "second"] (sp3 crossP)) :
    OkF P w K mg base 2 "crosses" ["start", "end", "other_start", "other_end"] spCrosses := by
  obtain ⟨fd, F⟩ := T.f_crosses
  refine ⟨_, fd, okD F sc_crosses (fun vs H Q E h => ?_) (fun cdv A outer s H vs Q E hr h => ?_), T.g_crosses, F.kp, F.bindsN fun _ _ _ _ _ _ us hl => match us, hl with | [_, _, _, _], _ => rfl⟩
  · obtain ⟨_, _, _, _, _, _, _, _, rfl, _⟩ := h
    rfl
  · obtain ⟨a, b, c, d, x, y, z, t, rfl, ha, hb, hc, hd, bx, bY, bz, bt, q⟩ := h
    refine ⟨_, (pss_cons (ps_set (i := 4) sc_crosses.nd rfl (Or.inl rfl) (pe_op op_mul (pe_fn O_sign hr rfl (pa_cons (pe_fn O_cross hr rfl (pa_cons (pv 0) (pa_cons (pv 1) (pa_cons (pv 2) pa_nil)))) pa_nil)) (pe_fn O_sign hr rfl (pa_cons (pe_fn O_cross hr rfl (pa_cons (pv 0) (pa_cons (pv 1) (pa_cons (pv 3) pa_nil)))) pa_nil))))
  (pss_cons (ps_set (i := 5) sc_crosses.nd rfl (Or.inl rfl) (pe_op op_mul (pe_fn O_sign hr rfl (pa_cons (pe_fn O_cross hr rfl (pa_cons (pv 2) (pa_cons (pv 3) (pa_cons (pv 0) pa_nil)))) pa_nil)) (pe_fn O_sign hr rfl (pa_cons (pe_fn O_cross hr rfl (pa_cons (pv 2) (pa_cons (pv 3) (pa_cons (pv 1) pa_nil)))) pa_nil))))
  (pss_one (ps_ret (pe_and (pe_cmpR op_lt (pv 4) pe_int (nomark _)) (pe_one (pe_cmpR op_lt (pv 5) pe_int (nomark _)))))))), ?_⟩
    refine ⟨_, rfl, _, rfl, _, rfl, a, b, c, x, y, z, rfl, ha, hb, hc, bx, bY, bz, _, rfl, _, rfl, _, rfl, _, rfl, a, b, d, x, y, t, rfl, ha, hb, hd, bx, bY, bt, _, rfl, _, _, rfl, rfl, .inl (sgn_bd _), ?_⟩
    refine ⟨_, rfl, _, rfl, _, rfl, c, d, a, z, t, x, rfl, hc, hd, ha, bz, bt, bx, _, rfl, _, rfl, _, rfl, _, rfl, c, d, b, z, t, y, rfl, hc, hd, hb, bz, bt, bY, _, rfl, _, _, rfl, rfl, .inl (sgn_bd _), ?_⟩
    refine ⟨_, rfl, _, _, rfl, rfl, _, rfl, ?_⟩
    have e : crossesB x y z t = (decide (sgn (crossP x y z) * sgn (crossP x y t) < 0) && decide (sgn (crossP z t x) * sgn (crossP z t y) < 0)) := rfl
    rw [e] at q
    cases h1 : decide (sgn (crossP x y z) * sgn (crossP x y t) < 0) with
    | true =>
      rw [h1] at q
      exact iteT ⟨_, rfl, _, _, rfl, rfl, q⟩
    | false =>
      rw [h1] at q
      exact iteF q
theorem sc_point_square : FnScope ["point", "start", "end", "long", "along", "area"] ["point", "start", "end"] (defScope s_point_square) := ⟨rfl, rfl, rfl, by decide +kernel, rfl, by decide +kernel, by decide +kernel⟩
theorem ok_point_square (T : Tx K mg) (O_dot : OkF P w K mg base 1 "dot" ["origin", "first", "second"] (sp3 dotP)) (O_cross : OkF P w K mg base 1 "cross" ["origin", "first", "second"] (sp3 crossP)) :
    OkF P w K mg base 2 "point_square" ["point", "start", "end"] spPS := by
  obtain ⟨fd, F⟩ := T.f_point_square
  refine ⟨_, fd, okD F sc_point_square (fun vs H Q E h => ?_) (fun cdv A outer s H vs Q E hr h => ?_), T.g_point_square, F.kp, F.bindsN fun _ _ _ _ _ _ us hl => match us, hl with | [_, _, _], _ => rfl⟩
  · obtain ⟨_, _, _, _, _, _, rfl, _⟩ := h
    rfl
  · obtain ⟨a, b, c, p, s, e, rfl, ha, hb, hc, bp, bs, be, q⟩ := h
    refine ⟨_, (pss_cons (ps_set (i := 3) sc_point_square.nd rfl (Or.inl rfl) (pe_fn O_dot hr rfl (pa_cons (pv 1) (pa_cons (pv 2) (pa_cons (pv 2) pa_nil)))))
  (pss_cons (ps_set (i := 4) sc_point_square.nd rfl (Or.inl rfl) (pe_fn O_dot hr rfl (pa_cons (pv 1) (pa_cons (pv 2) (pa_cons (pv 0) pa_nil)))))
  (pss_cons (ps_if (pt_cmpR op_le (pv 4) pe_int (nomark _)) (pss_one (ps_ret (pe_tup (pa_cons (pe_fn O_dot hr rfl (pa_cons (pv 0) (pa_cons (pv 1) (pa_cons (pv 1) pa_nil)))) (pa_cons pe_int pa_nil))))) pss_nil)
  (pss_cons (ps_if (pt_cmpR op_ge (pv 4) (pv 3) (nomark _)) (pss_one (ps_ret (pe_tup (pa_cons (pe_fn O_dot hr rfl (pa_cons (pv 0) (pa_cons (pv 2) (pa_cons (pv 2) pa_nil)))) (pa_cons pe_int pa_nil))))) pss_nil)
  (pss_cons (ps_set (i := 5) sc_point_square.nd rfl (Or.inl rfl) (pe_fn O_cross hr rfl (pa_cons (pv 1) (pa_cons (pv 2) (pa_cons (pv 0) pa_nil)))))
  (pss_one (ps_ret (pe_tup (pa_cons (pe_op op_mul (pv 5) (pv 5)) (pa_cons (pv 3) pa_nil)))))))))), ?_⟩
    refine ⟨_, rfl, _, rfl, _, rfl, b, c, c, s, e, e, rfl, hb, hc, hc, bs, be, be, ?_⟩
    refine ⟨_, rfl, _, rfl, _, rfl, b, c, a, s, e, p, rfl, hb, hc, ha, bs, be, bp, ?_⟩
    refine ⟨_, rfl, _, _, rfl, rfl, _, rfl, ite2 (fun h1 => ?_) fun h1 => ?_⟩
    · have h1 := of_decide_eq_true h1
      refine ⟨_, rfl, _, rfl, _, rfl, a, b, b, p, s, s, rfl, ha, hb, hb, bp, bs, bs, by show 2 ≤ sizeLine; decide, fun r hn => ?_⟩
      have e0 : pointSq p s e = (dotP p s s, 1) := by
        unfold pointSq
        rw [if_pos h1]
      exact q _ r (same_upd hn) (by rw [upd_same, e0])
    · have h1 : ¬ dotP s e p ≤ 0 := fun z => h1 (decide_eq_true z)
      refine ⟨_, rfl, _, rfl, _, _, rfl, rfl, _, rfl, ite2 (fun h2 => ?_) fun h2 => ?_⟩
      · have h2 := of_decide_eq_true h2
        refine ⟨_, rfl, _, rfl, _, rfl, a, c, c, p, e, e, rfl, ha, hc, hc, bp, be, be, by show 2 ≤ sizeLine; decide, fun r hn => ?_⟩
        have e0 : pointSq p s e = (dotP p e e, 1) := by
          unfold pointSq
          rw [if_neg h1, if_pos h2]
        exact q _ r (same_upd hn) (by rw [upd_same, e0])
      · have h2 : ¬ dotP s e e ≤ dotP s e p := fun z => h2 (decide_eq_true z)
        have cb := cross_bd bs be bp
        refine ⟨_, rfl, _, rfl, _, rfl, b, c, a, s, e, p, rfl, hb, hc, ha, bs, be, bp, _, rfl, _, rfl, _, _, rfl, rfl, .inl ⟨by omega, by omega⟩, _, rfl, by show 2 ≤ sizeLine; decide, fun r hn => ?_⟩
        have e0 : pointSq p s e = (crossP s e p * crossP s e p, dotP s e e) := by
          unfold pointSq
          rw [if_neg h1, if_neg h2]
        exact q _ r (same_upd hn) (by rw [upd_same, e0])
end
end K16
set_option maxHeartbeats 4000000
namespace K16
open PySem PySem.Spec PyProof.Rows L2
open GxR (TabG Tabbed)
open Geo (Pt crossP dotP pointSq sgn crossesB)
/-- a segment (ax, ay, bx, by, d) -/
structure Seg5 where
  ax : Int
  ay : Int
  bx : Int
  bY : Int
  d : Int
abbrev sg (s : Seg5) : List V := [.int s.ax, .int s.ay, .int s.bx, .int s.bY, .int s.d]
/-- 2 ^ 19, 2 ^ 9 -/
abbrev CB : Int := 524288
structure SB (s : Seg5) : Prop where
  ax : -CB ≤ s.ax ∧ s.ax ≤ CB
  ay : -CB ≤ s.ay ∧ s.ay ≤ CB
  bx : -CB ≤ s.bx ∧ s.bx ≤ CB
  bY : -CB ≤ s.bY ∧ s.bY ≤ CB
  d0 : 0 < s.d
  d1 : s.d ≤ 512
def p1 (s t : Seg5) : Pt := (s.ax * t.d, s.ay * t.d)
def p2 (s t : Seg5) : Pt := (s.bx * t.d, s.bY * t.d)
/-- the four fractions -/
def sq4 (s t : Seg5) : List (Int × Int) := [pointSq (p1 s t) (p1 t s) (p2 t s), pointSq (p2 s t) (p1 t s) (p2 t s), pointSq (p1 t s) (p1 s t) (p2 s t), pointSq (p2 t s) (p1 s t) (p2 s t)]
def bound (s t : Seg5) (l : Int) : Int := l * l * (s.d * t.d) * (s.d * t.d)
def closerB (s t : Seg5) (l : Int) : Bool := crossesB (p1 s t) (p2 s t) (p1 t s) (p2 t s) || (sq4 s t).any fun r => decide (r.1 < bound s t l * r.2)
theorem p1_bd {s t : Seg5} (hs : SB s) (ht : SB t) : Bd NB (p1 s t) := by
  have h := And.intro (show -512 ≤ t.d by have := ht.d0; omega) ht.d1
  have h1 := mul_bd hs.ax h
  have h2 := mul_bd hs.ay h
  simp only [NB, CB] at *
  exact ⟨⟨by show _ ≤ s.ax * t.d; omega, by show s.ax * t.d ≤ _; omega⟩, ⟨by show _ ≤ s.ay * t.d; omega, by show s.ay * t.d ≤ _; omega⟩⟩
theorem p2_bd {s t : Seg5} (hs : SB s) (ht : SB t) : Bd NB (p2 s t) := by
  have h := And.intro (show -512 ≤ t.d by have := ht.d0; omega) ht.d1
  have h1 := mul_bd hs.bx h
  have h2 := mul_bd hs.bY h
  simp only [NB, CB] at *
  exact ⟨⟨by show _ ≤ s.bx * t.d; omega, by show s.bx * t.d ≤ _; omega⟩, ⟨by show _ ≤ s.bY * t.d; omega, by show s.bY * t.d ≤ _; omega⟩⟩
theorem cb64 {a : Int} (h : -CB ≤ a ∧ a ≤ CB) : -(2 ^ 64) < a ∧ a < 2 ^ 64 := by
  simp only [CB] at *
  omega
def spSq : Sp := fun vs H Q _ => ∃ (e a b c d : Addr) (x y z t : Pt), vs = [.ref e] ∧ H e = some (.tup [.ref a, .ref b, .ref c, .ref d]) ∧ H a = some (.tup (pt x)) ∧ H b = some (.tup (pt y)) ∧ H c = some (.tup (pt z)) ∧ H d = some (.tup (pt t)) ∧
  Bd NB x ∧ Bd NB y ∧ Bd NB z ∧ Bd NB t ∧ ∀ H' r q1 q2 q3 q4, Same H H' → H' r = some (.tup [.ref q1, .ref q2, .ref q3, .ref q4]) →
    H' q1 = some (.tup (pt (pointSq x z t))) → H' q2 = some (.tup (pt (pointSq y z t))) → H' q3 = some (.tup (pt (pointSq z x y))) → H' q4 = some (.tup (pt (pointSq t x y))) → Q (.ref r) H'
def spCommon : Sp := fun vs H Q _ => ∃ (a b : Addr) (s t : Seg5), vs = [.ref a, .ref b] ∧ H a = some (.tup (sg s)) ∧ H b = some (.tup (sg t)) ∧ SB s ∧ SB t ∧
  ∀ H' r e q1 q2 q3 q4, Same H H' → H' r = some (.tup [.ref e, .int (s.d * t.d)]) → H' e = some (.tup [.ref q1, .ref q2, .ref q3, .ref q4]) →
    H' q1 = some (.tup (pt (p1 s t))) → H' q2 = some (.tup (pt (p2 s t))) → H' q3 = some (.tup (pt (p1 t s))) → H' q4 = some (.tup (pt (p2 t s))) → Q (.ref r) H'
section
variable {P : Program} {w : World} {K : PySem.W.Frag} {mg : Str → Option Value} {base : Heap}
theorem sc_squares : FnScope ["ends", "start", "end", "other_start", "other_end"] ["ends"] (defScope s_squares) := ⟨rfl, rfl, rfl, by decide +kernel, rfl, by decide +kernel, by decide +kernel⟩
theorem ok_squares (T : Tx K mg) (O_point_square : OkF P w K mg base 2 "point_square" ["point", "start", "end"] spPS) : OkF P w K mg base 3 "squares" ["ends"] spSq := by
  obtain ⟨fd, F⟩ := T.f_squares
  refine ⟨_, fd, okD F sc_squares (fun vs H Q E h => ?_) (fun cdv A outer s H vs Q E hr h => ?_), T.g_squares, F.kp, F.bindsN fun _ _ _ _ _ _ us hl => match us, hl with | [_], _ => rfl⟩
  · obtain ⟨_, _, _, _, _, _, _, _, _, rfl, _⟩ := h
    rfl
  · obtain ⟨e, a, b, c, d, x, y, z, t, rfl, he, ha, hb, hc, hd, bx, bY, bz, bt, q⟩ := h
    refine ⟨_, (pss_cons (ps_asg (pv 0) (pg_tup rfl (pgs_cons (pg_name (i := 1) sc_squares.nd rfl (Or.inl rfl)) (pgs_cons (pg_name (i := 2) sc_squares.nd rfl (Or.inl rfl)) (pgs_cons (pg_name (i := 3) sc_squares.nd rfl (Or.inl rfl)) (pgs_cons (pg_name (i := 4) sc_squares.nd rfl (Or.inl rfl)) pgs_nil))))))
  (pss_one (ps_ret (pe_tup (pa_cons (pe_fn O_point_square hr rfl (pa_cons (pv 1) (pa_cons (pv 3) (pa_cons (pv 4) pa_nil)))) (pa_cons (pe_fn O_point_square hr rfl (pa_cons (pv 2) (pa_cons (pv 3) (pa_cons (pv 4) pa_nil)))) (pa_cons (pe_fn O_point_square hr rfl (pa_cons (pv 3) (pa_cons (pv 1) (pa_cons (pv 2) pa_nil)))) (pa_cons (pe_fn O_point_square hr rfl (pa_cons (pv 4) (pa_cons (pv 1) (pa_cons (pv 2) pa_nil)))) pa_nil)))))))), ?_⟩
    refine ⟨_, rfl, _, _, rfl, SqT.of he, rfl, _, _, rfl, _, _, rfl, _, _, rfl, _, _, rfl, rfl, ?_⟩
    refine ⟨_, rfl, _, rfl, _, rfl, a, c, d, x, z, t, rfl, ha, hc, hd, bx, bz, bt, fun H1 r1 s1 e1 => ?_⟩
    refine ⟨_, rfl, _, rfl, _, rfl, b, c, d, y, z, t, rfl, s1 _ _ hb, s1 _ _ hc, s1 _ _ hd, bY, bz, bt, fun H2 r2 s2 e2 => ?_⟩
    have s12 := s1.trans s2
    refine ⟨_, rfl, _, rfl, _, rfl, c, a, b, z, x, y, rfl, s12 _ _ hc, s12 _ _ ha, s12 _ _ hb, bz, bx, bY, fun H3 r3 s3 e3 => ?_⟩
    have s13 := s12.trans s3
    refine ⟨_, rfl, _, rfl, _, rfl, d, a, b, t, x, y, rfl, s13 _ _ hd, s13 _ _ ha, s13 _ _ hb, bt, bx, bY, fun H4 r4 s4 e4 => ?_⟩
    have s14 := s13.trans s4
    refine ⟨by show 4 ≤ sizeLine; decide, fun r hn => ?_⟩
    have s5 : Same H4 (upd H4 r (.tup [.ref r1, .ref r2, .ref r3, .ref r4])) := same_upd hn
    exact q _ r r1 r2 r3 r4 (s14.trans s5) upd_same (s5 _ _ (s4 _ _ (s3 _ _ (s2 _ _ e1)))) (s5 _ _ (s4 _ _ (s3 _ _ e2))) (s5 _ _ (s4 _ _ e3)) (s5 _ _ e4)
theorem sc_common : FnScope ["first", "second", "ends", "ax", "ay", "bx", "by", "d", "cx", "cy", "ex", "ey", "e"] ["first", "second"] (defScope s_common) := ⟨rfl, rfl, rfl, by decide +kernel, rfl, by decide +kernel, by decide +kernel⟩
theorem ok_common (T : Tx K mg) : OkF P w K mg base 1 "common" ["first", "second"] spCommon := by
  obtain ⟨fd, F⟩ := T.f_common
  refine ⟨_, fd, okD F sc_common (fun vs H Q E h => ?_) (fun cdv A outer s H vs Q E hr h => ?_), T.g_common, F.kp, F.bindsN fun _ _ _ _ _ _ us hl => match us, hl with | [_, _], _ => rfl⟩
  · obtain ⟨_, _, _, _, rfl, _⟩ := h
    rfl
  · obtain ⟨a, b, u, v, rfl, ha, hb, su, sv, q⟩ := h
    refine ⟨_, (pss_cons (ps_asg (pv 0) (pg_tup rfl (pgs_cons (pg_name (i := 3) sc_common.nd rfl (Or.inl rfl)) (pgs_cons (pg_name (i := 4) sc_common.nd rfl (Or.inl rfl)) (pgs_cons (pg_name (i := 5) sc_common.nd rfl (Or.inl rfl)) (pgs_cons (pg_name (i := 6) sc_common.nd rfl (Or.inl rfl)) (pgs_cons (pg_name (i := 7) sc_common.nd rfl (Or.inl rfl)) pgs_nil)))))))
  (pss_cons (ps_asg (pv 1) (pg_tup rfl (pgs_cons (pg_name (i := 8) sc_common.nd rfl (Or.inl rfl)) (pgs_cons (pg_name (i := 9) sc_common.nd rfl (Or.inl rfl)) (pgs_cons (pg_name (i := 10) sc_common.nd rfl (Or.inl rfl)) (pgs_cons (pg_name (i := 11) sc_common.nd rfl (Or.inl rfl)) (pgs_cons (pg_name (i := 12) sc_common.nd rfl (Or.inl rfl)) pgs_nil)))))))
  (pss_cons (ps_set (i := 2) sc_common.nd rfl (Or.inl rfl) (pe_tup (pa_cons (pe_tup (pa_cons (pe_op op_mul (pv 3) (pv 12)) (pa_cons (pe_op op_mul (pv 4) (pv 12)) pa_nil))) (pa_cons (pe_tup (pa_cons (pe_op op_mul (pv 5) (pv 12)) (pa_cons (pe_op op_mul (pv 6) (pv 12)) pa_nil))) (pa_cons (pe_tup (pa_cons (pe_op op_mul (pv 8) (pv 7)) (pa_cons (pe_op op_mul (pv 9) (pv 7)) pa_nil))) (pa_cons (pe_tup (pa_cons (pe_op op_mul (pv 10) (pv 7)) (pa_cons (pe_op op_mul (pv 11) (pv 7)) pa_nil))) pa_nil))))))
  (pss_one (ps_ret (pe_tup (pa_cons (pv 2) (pa_cons (pe_op op_mul (pv 7) (pv 12)) pa_nil)))))))), ?_⟩
    refine ⟨_, rfl, _, _, rfl, SqT.of ha, rfl, _, _, rfl, _, _, rfl, _, _, rfl, _, _, rfl, _, _, rfl, rfl, ?_⟩
    refine ⟨_, rfl, _, _, rfl, SqT.of hb, rfl, _, _, rfl, _, _, rfl, _, _, rfl, _, _, rfl, _, _, rfl, rfl, ?_⟩
    refine ⟨_, rfl, _, rfl, _, _, rfl, rfl, .inl (cb64 su.ax), _, rfl, _, rfl, _, _, rfl, rfl, .inl (cb64 su.ay), by show 2 ≤ sizeLine; decide, fun q1 n1 => ?_⟩
    have s1 : Same H (upd H q1 (.tup (pt (p1 u v)))) := same_upd n1
    have e1 : (upd H q1 (.tup (pt (p1 u v)))) q1 = some (.tup (pt (p1 u v))) := upd_same
    refine ⟨_, rfl, _, rfl, _, _, rfl, rfl, .inl (cb64 su.bx), _, rfl, _, rfl, _, _, rfl, rfl, .inl (cb64 su.bY), by show 2 ≤ sizeLine; decide, fun q2 n2 => ?_⟩
    have s2 : Same (upd H q1 (.tup (pt (p1 u v)))) (upd (upd H q1 (.tup (pt (p1 u v)))) q2 (.tup (pt (p2 u v)))) := same_upd n2
    have e2 : (upd (upd H q1 (.tup (pt (p1 u v)))) q2 (.tup (pt (p2 u v)))) q2 = some (.tup (pt (p2 u v))) := upd_same
    refine ⟨_, rfl, _, rfl, _, _, rfl, rfl, .inl (cb64 sv.ax), _, rfl, _, rfl, _, _, rfl, rfl, .inl (cb64 sv.ay), by show 2 ≤ sizeLine; decide, fun q3 n3 => ?_⟩
    have s3 : Same (upd (upd H q1 (.tup (pt (p1 u v)))) q2 (.tup (pt (p2 u v)))) (upd (upd (upd H q1 (.tup (pt (p1 u v)))) q2 (.tup (pt (p2 u v)))) q3 (.tup (pt (p1 v u)))) := same_upd n3
    have e3 : (upd (upd (upd H q1 (.tup (pt (p1 u v)))) q2 (.tup (pt (p2 u v)))) q3 (.tup (pt (p1 v u)))) q3 = some (.tup (pt (p1 v u))) := upd_same
    refine ⟨_, rfl, _, rfl, _, _, rfl, rfl, .inl (cb64 sv.bx), _, rfl, _, rfl, _, _, rfl, rfl, .inl (cb64 sv.bY), by show 2 ≤ sizeLine; decide, fun q4 n4 => ?_⟩
    have s4 : Same (upd (upd (upd H q1 (.tup (pt (p1 u v)))) q2 (.tup (pt (p2 u v)))) q3 (.tup (pt (p1 v u)))) (upd (upd (upd (upd H q1 (.tup (pt (p1 u v)))) q2 (.tup (pt (p2 u v)))) q3 (.tup (pt (p1 v u)))) q4 (.tup (pt (p2 v u)))) := same_upd n4
    have e4 : (upd (upd (upd (upd H q1 (.tup (pt (p1 u v)))) q2 (.tup (pt (p2 u v)))) q3 (.tup (pt (p1 v u)))) q4 (.tup (pt (p2 v u)))) q4 = some (.tup (pt (p2 v u))) := upd_same
    have s04 := s1.trans (s2.trans (s3.trans s4))
    refine ⟨by show 4 ≤ sizeLine; decide, fun e n5 => ?_⟩
    have s5 : Same _ (upd (upd (upd (upd (upd H q1 (.tup (pt (p1 u v)))) q2 (.tup (pt (p2 u v)))) q3 (.tup (pt (p1 v u)))) q4 (.tup (pt (p2 v u)))) e (.tup [.ref q1, .ref q2, .ref q3, .ref q4])) := same_upd n5
    have e5 : (upd (upd (upd (upd (upd H q1 (.tup (pt (p1 u v)))) q2 (.tup (pt (p2 u v)))) q3 (.tup (pt (p1 v u)))) q4 (.tup (pt (p2 v u)))) e (.tup [.ref q1, .ref q2, .ref q3, .ref q4])) e = some (.tup [.ref q1, .ref q2, .ref q3, .ref q4]) := upd_same
    refine ⟨_, rfl, _, rfl, _, rfl, _, _, rfl, rfl, .inl (by have h1 := su.d0; have h2 := su.d1; exact ⟨by omega, by omega⟩), by show 2 ≤ sizeLine; decide, fun r n6 => ?_⟩
    have s6 := same_upd (o := .tup [.ref e, .int (u.d * v.d)]) n6
    exact q _ r e q1 q2 q3 q4 (s04.trans (s5.trans s6)) upd_same (s6 _ _ e5) (s6 _ _ (s5 _ _ (s4 _ _ (s3 _ _ (s2 _ _ e1))))) (s6 _ _ (s5 _ _ (s4 _ _ (s3 _ _ e2)))) (s6 _ _ (s5 _ _ (s4 _ _ e3))) (s6 _ _ (s5 _ _ e4))
end
end K16
set_option maxHeartbeats 4000000
namespace K16
open PySem PySem.Spec PyProof.Rows L2
open GxR (TabG Tabbed)
open Geo (Pt crossP dotP pointSq sgn crossesB)
/-- the code objects that make generators, their tables -/
abbrev cC (K : PySem.W.Frag) : Addr := (He.cT K ("closer", none)).1
abbrev cL (K : PySem.W.Frag) : Addr := (He.cT K ("lines_closer", none)).1
abbrev tC (K : PySem.W.Frag) : Addr := (He.cT K ("closer", none)).2
abbrev tL (K : PySem.W.Frag) : Addr := (He.cT K ("lines_closer", none)).2
abbrev tbs (K : PySem.W.Frag) : List Addr := [tC K, tL K]
/-- both tables are in order -/
def Tb (K : PySem.W.Frag) (H : Hp) : Prop := ∀ P ∈ tbs K, TabG H P
theorem Tb.ev {K : PySem.W.Frag} {H H' : Hp} (t : Tb K H) (e : EvT (tbs K) H H') : Tb K H' := fun P hP => e.tab P hP (t P hP)
theorem Tb.evs {K : PySem.W.Frag} {sd : Addr} {H H' : Hp} (t : Tb K H) (e : Ev (tbs K) sd H H') : Tb K H' := fun P hP => e.tab P hP (t P hP)
def spCloser (K : PySem.W.Frag) : Sp := fun vs H Q _ => ∃ (a b : Addr) (s t : Seg5) (l : Int), vs = [.ref a, .ref b, .int l] ∧ H a = some (.tup (sg s)) ∧ H b = some (.tup (sg t)) ∧ SB s ∧ SB t ∧ 0 < l ∧ l ≤ 128 ∧ Tb K H ∧
  ∀ H', EvT (tbs K) H H' → Q (.bl (closerB s t l)) H'
theorem bound_bd {s t : Seg5} (hs : SB s) (ht : SB t) {l : Int} (h0 : 0 < l) (h1 : l ≤ 128) : (-(2 ^ 64) < l ∧ l < 2 ^ 64) ∧ (-(2 ^ 64) < l * l ∧ l * l < 2 ^ 64) ∧ (-(2 ^ 64) < l * l * (s.d * t.d) ∧ l * l * (s.d * t.d) < 2 ^ 64) ∧ (-(2 ^ 64) < bound s t l ∧ bound s t l < 2 ^ 64) := by
  have a1 := mul_bd (a := l) (b := l) (A := 128) (B := 128) ⟨by omega, h1⟩ ⟨by omega, h1⟩
  have a2 := mul_bd (a := s.d) (b := t.d) (A := 512) (B := 512) ⟨by have := hs.d0; omega, hs.d1⟩ ⟨by have := ht.d0; omega, ht.d1⟩
  have a3 := mul_bd (a := l * l) (b := s.d * t.d) (A := 16384) (B := 262144) ⟨by omega, by omega⟩ ⟨by omega, by omega⟩
  have a4 := mul_bd (a := l * l * (s.d * t.d)) (b := s.d * t.d) (A := 4294967296) (B := 262144) ⟨by omega, by omega⟩ ⟨by omega, by omega⟩
  unfold bound
  exact ⟨⟨by omega, by omega⟩, ⟨by omega, by omega⟩, ⟨by omega, by omega⟩, ⟨by omega, by omega⟩⟩
section
variable {P : Program} {w : World} {K : PySem.W.Frag} {mg : Str → Option Value} {base : Heap}
theorem sc_closer : FnScope ["first", "second", "limit", "bound", "ends", "scale"] ["first", "second", "limit"] (defScope s_closer) := ⟨rfl, rfl, rfl, by decide +kernel, rfl, by decide +kernel, by decide +kernel⟩
theorem nd_closer : ((["first", "second", "limit", "bound", "ends", "scale"] : List Str) ++ (["above", "below"] : List Str)).Nodup := by decide +kernel
theorem ok_closer (T : Tx K mg) (TB : AnyG.TabB base mg (cC K) (tC K)) (O_common : OkF P w K mg base 1 "common" ["first", "second"] spCommon) (O_crosses : OkF P w K mg base 2 "crosses" ["start", "end", "other_start", "other_end"] spCrosses)
    (O_squares : OkF P w K mg base 3 "squares" ["ends"] spSq) : OkF P w K mg base 4 "closer" ["first", "second", "limit"] (spCloser K) := by
  obtain ⟨fd, F⟩ := T.f_closer
  refine ⟨_, fd, okC (p := ("closer", none)) F sc_closer (fun vs H Q E h => ?_) (fun A outer s H vs Q E hr h => ?_), T.g_closer, F.kp, F.bindsN fun _ _ _ _ _ _ us hl => match us, hl with | [_, _, _], _ => rfl⟩
  · obtain ⟨_, _, _, _, _, rfl, _⟩ := h
    rfl
  · obtain ⟨a, b, u, v, l, rfl, ha, hb, su, sv, l0, l1, tb, q⟩ := h
    have nd2 := nd_closer
    refine ⟨_, (pss_cons (ps_asg (pe_fn O_common hr rfl (pa_cons (pv 0) (pa_cons (pv 1) pa_nil))) (pg_tup rfl (pgs_cons (pg_name (i := 4) sc_closer.nd rfl (Or.inl rfl)) (pgs_cons (pg_name (i := 5) sc_closer.nd rfl (Or.inl rfl)) pgs_nil))))
  (pss_cons (ps_set (i := 3) sc_closer.nd rfl (Or.inr rfl) (pe_op op_mul (pe_op op_mul (pe_op op_mul (pv 2) (pv 2)) (pv 5)) (pv 5)))
  (pss_cons (ps_if (PW.pt (pw_and (pt_cmpR op_gt (pv 2) pe_int (nomark _)) (pw_and1 (pt_val (pe_fn O_crosses hr rfl (pa_cons (pe_ix ix_tup (pv 4) pe_int (fun _ _ => rfl)) (pa_cons (pe_ix ix_tup (pv 4) pe_int (fun _ _ => rfl)) (pa_cons (pe_ix ix_tup (pv 4) pe_int (fun _ _ => rfl)) (pa_cons (pe_ix ix_tup (pv 4) pe_int (fun _ _ => rfl)) pa_nil))))))))) (pss_one (ps_ret pe_bl)) pss_nil)
  (pss_one (ps_ret (AnyG.pe_any1 (own := ["above", "below"]) (g := (gTup K 2 (gCons (gName 6) (gCons (gName 7) gNil)))) hr rfl T.any TB rfl (AnyG.gsc_by (N := ["first", "second", "limit", "bound", "ends", "scale"]) (sc := defScope s_closer) (own := ["above", "below"]) (by decide +kernel)) (pi_tup (pe_fn O_squares hr rfl (pa_cons (pv 4) pa_nil))) (fun _ _ _ _ _ _ => (pg_tup rfl (pgs_cons (pg_name (i := 6) nd2 rfl (Or.inl rfl) (Or.inr rfl)) (pgs_cons (pg_name (i := 7) nd2 rfl (Or.inl rfl) (Or.inr rfl)) pgs_nil)))) (fun _ _ _ _ _ _ hr2 => (pe_cmpR op_lt (pv 6) (pe_op op_mul (pv 3) (pv 7)) (nomark _))) (fun _ => rfl))))))), ?_⟩
    obtain ⟨b1, b2, b3, b4⟩ := bound_bd su sv l0 l1
    refine ⟨_, rfl, _, rfl, a, b, u, v, rfl, ha, hb, su, sv, fun H1 r e q1 q2 q3 q4 s1 er ee e1 e2 e3 e4 => ?_⟩
    refine ⟨_, _, rfl, SqT.of er, rfl, _, _, rfl, _, _, rfl, rfl, ?_⟩
    refine ⟨_, rfl, _, rfl, _, _, rfl, rfl, .inl b1, _, rfl, _, _, rfl, rfl, .inl b2, _, rfl, _, _, rfl, rfl, .inl b3, ?_⟩
    have bd1 := p1_bd su sv
    have bd2 := p2_bd su sv
    have bd3 := p1_bd sv su
    have bd4 := p2_bd sv su
    have tb1 : Tb K H1 := tb.ev (EvT.of s1)
    refine ⟨_, rfl, _, _, rfl, rfl, _, rfl, ?_⟩
    rw [decide_eq_true l0]
    refine iteT ⟨_, rfl, _, _, 0, _, rfl, rfl, SqT.of ee, rfl, _, rfl, _, _, 1, _, rfl, rfl, SqT.of ee, rfl, _, rfl, _, _, 2, _, rfl, rfl, SqT.of ee, rfl, _, rfl, _, _, 3, _, rfl, rfl, SqT.of ee, rfl, q1, q2, q3, q4, _, _, _, _, rfl, e1, e2, e3, e4, bd1, bd2, bd3, bd4, _, rfl, ?_⟩
    refine ite2 (fun hc => ?_) fun hc => ?_
    · have ec : closerB u v l = true := by
        unfold closerB
        rw [hc, Bool.true_or]
      have z := q H1 (EvT.of s1)
      rw [ec] at z
      exact z
    · have hc : crossesB (p1 u v) (p2 u v) (p1 v u) (p2 v u) = false := by
        cases z : crossesB (p1 u v) (p2 u v) (p1 v u) (p2 v u) with
        | false => rfl
        | true => exact absurd z hc
      have ec : closerB u v l = (sq4 u v).any fun r => decide (r.1 < bound u v l * r.2) := by
        unfold closerB
        rw [hc, Bool.false_or]
      rw [ec] at q
      refine ⟨_, rfl, e, q1, q2, q3, q4, _, _, _, _, rfl, ee, e1, e2, e3, e4, bd1, bd2, bd3, bd4, fun H2 r2 k1 k2 k3 k4 s2 er2 f1 f2 f3 f4 => ?_⟩
      have tb2 : Tb K H2 := tb1.ev (EvT.of s2)
      refine ⟨r2, rfl, ⟨_, SqT.of er2⟩, tb2 _ (List.mem_cons_self ..), fun H3 t3 => ?_⟩
      have ev3 : EvT (tbs K) H2 H3 := EvT.tabbed (tb2 _ (List.mem_cons_self ..)) t3
      have ev : EvT (tbs K) H H3 := (EvT.of (s1.trans s2)).trans ev3
      have q' := q H3 ev
      have er3 := ev3.tup er2
      have at4 : ∀ (i : Nat) (x : V), ([.ref k1, .ref k2, .ref k3, .ref k4] : List V)[i]? = some x → ∃ (k : Addr) (r : Int × Int), x = .ref k ∧ (sq4 u v)[i]? = some r ∧ H3 k = some (.tup (pt r)) := fun i x hx => by
        match i, hx with
        | 0, hx => exact ⟨k1, _, (Option.some.inj hx).symm, rfl, ev3.tup f1⟩
        | 1, hx => exact ⟨k2, _, (Option.some.inj hx).symm, rfl, ev3.tup f2⟩
        | 2, hx => exact ⟨k3, _, (Option.some.inj hx).symm, rfl, ev3.tup f3⟩
        | 3, hx => exact ⟨k4, _, (Option.some.inj hx).symm, rfl, ev3.tup f4⟩
        | n + 4, hx => cases hx
      refine ⟨fun i m H' => m + i = 4 ∧ H' = H3 ∧ ((sq4 u v).any fun r => decide (r.1 < bound u v l * r.2)) = ((sq4 u v).drop i).any fun r => decide (r.1 < bound u v l * r.2), ⟨4, rfl, rfl, rfl⟩, fun i m H' hW => ?_⟩
      obtain ⟨em, rfl, ea⟩ := hW
      by_cases hi : i < 4
      · have hx : ∃ x, ([.ref k1, .ref k2, .ref k3, .ref k4] : List V)[i]? = some x := ⟨_, List.getElem?_eq_getElem hi⟩
        obtain ⟨x, hx⟩ := hx
        obtain ⟨k, r, rfl, hr4, hk⟩ := at4 i x hx
        refine .inr ⟨⟨_, _, SqT.of er3, hx⟩, fun H4 => H4 = H' ∧ decide (r.1 < bound u v l * r.2) = false, fun H4 h4 => ⟨m - 1, by omega, by omega, h4.1, ?_⟩, fun x' H4 hy => ?_⟩
        · rw [ea, List.drop_eq_getElem_cons (by exact hi : i < (sq4 u v).length), List.any_cons]
          have e5 : (sq4 u v)[i]'hi = r := Option.some.inj ((List.getElem?_eq_getElem hi).symm.trans hr4)
          rw [e5, h4.2, Bool.false_or]
        · obtain ⟨rfl, fy⟩ := hy
          have ex : x' = .ref k := Option.some.inj ((fy _ (SqT.of er3)).symm.trans hx)
          subst ex
          refine ⟨k, _, rfl, SqT.of hk, rfl, _, _, rfl, _, _, rfl, rfl, ⟨rfl, rfl, rfl, rfl, rfl, rfl, trivial⟩, ?_⟩
          refine ⟨_, rfl, _, rfl, _, rfl, _, _, rfl, rfl, .inl b4, _, _, rfl, rfl, _, rfl, ite2 (fun ht => ?_) fun ht => ⟨rfl, Bool.eq_false_iff.mpr ht⟩⟩
          have et : ((sq4 u v).any fun r => decide (r.1 < bound u v l * r.2)) = true := List.any_eq_true.mpr ⟨r, List.mem_of_getElem? hr4, ht⟩
          rw [et] at q'
          exact q'
      · refine .inl ⟨⟨_, SqT.of er3, by show 4 ≤ i; omega⟩, ?_⟩
        have ei : i = 4 := by omega
        subst ei
        rw [ea] at q'
        exact q'
end
end K16
set_option maxHeartbeats 4000000
namespace K16
open PySem PySem.Spec PyProof.Rows L2
open GxR (TabG Tabbed)
/-- a list of segments -/
structure SegL (H : Hp) (a : Addr) (ss : List Seg5) (as : List Addr) : Prop where
  lst : H a = some (.lst (as.map V.ref))
  len : as.length = ss.length
  sz : ss.length ≤ 64
  at_ : ∀ (i : Nat) (k : Addr), as[i]? = some k → ∃ s, ss[i]? = some s ∧ SB s ∧ H k = some (.tup (sg s))
theorem SegL.evT {ts : List Addr} {H H' : Hp} {a : Addr} {ss : List Seg5} {as : List Addr} (h : SegL H a ss as) (e : EvT ts H H') : SegL H' a ss as :=
  ⟨e.lst h.lst, h.len, h.sz, fun i k hk => by obtain ⟨s, h1, h2, h3⟩ := h.at_ i k hk; exact ⟨s, h1, h2, e.tup h3⟩⟩
def spLines (K : PySem.W.Frag) : Sp := fun vs H Q _ => ∃ (a b : Addr) (ss tt : List Seg5) (as bs : List Addr) (l : Int), vs = [.ref a, .ref b, .int l] ∧ SegL H a ss as ∧ SegL H b tt bs ∧ 0 < l ∧ l ≤ 128 ∧ Tb K H ∧
  ∀ H', EvT (tbs K) H H' → Q (.bl (ss.any fun s => tt.any fun t => closerB s t l)) H'
section
variable {P : Program} {w : World} {K : PySem.W.Frag} {mg : Str → Option Value} {base : Heap}
theorem sc_lines_closer : FnScope ["first", "second", "limit"] ["first", "second", "limit"] (defScope s_lines_closer) := ⟨rfl, rfl, rfl, by decide +kernel, rfl, by decide +kernel, by decide +kernel⟩
theorem nd_lines : ((["first", "second", "limit"] : List Str) ++ (["one", "other"] : List Str)).Nodup := by decide +kernel
theorem ok_lines_closer (T : Tx K mg) (TB : AnyG.TabB base mg (cL K) (tL K)) (O_closer : OkF P w K mg base 4 "closer" ["first", "second", "limit"] (spCloser K)) : OkF P w K mg base 6 "lines_closer" ["first", "second", "limit"] (spLines K) := by
  obtain ⟨fd, F⟩ := T.f_lines_closer
  refine ⟨_, fd, okC (p := ("lines_closer", none)) F sc_lines_closer (fun vs H Q E h => ?_) (fun A outer s H vs Q E hr h => ?_), T.g_lines_closer, F.kp, F.bindsN fun _ _ _ _ _ _ us hl => match us, hl with | [_, _, _], _ => rfl⟩
  · obtain ⟨_, _, _, _, _, _, _, rfl, _⟩ := h
    rfl
  · obtain ⟨a, b, ss, tt, as, bs, l, rfl, ha, hb, l0, l1, tb, q⟩ := h
    have nd2 := nd_lines
    refine ⟨_, (pss_one (ps_ret (AnyG.pe_any2 (own := ["one", "other"]) (g := (gName 3)) (g1 := (gName 4)) (Mx := 64) (wi1 := iList K (tVar 1)) hr rfl T.any TB rfl (AnyG.gsc_by (N := ["first", "second", "limit"]) (sc := defScope s_lines_closer) (own := ["one", "other"]) (by decide +kernel)) (pi_list (pv 0)) (fun _ _ _ _ _ _ => (pg_name (i := 3) nd2 rfl (Or.inl rfl) (Or.inr rfl))) (fun _ _ _ _ _ _ => (pi_list (pv 1))) (fun _ _ _ _ _ _ => (pg_name (i := 4) nd2 rfl (Or.inl rfl) (Or.inr rfl))) (fun _ _ _ _ _ _ hr2 => (pe_fn O_closer hr2 rfl (pa_cons (pv 3) (pa_cons (pv 4) (pa_cons (pv 2) pa_nil))))) (fun _ => rfl) (fun _ _ => rfl)))), ?_⟩
    have mL : tL K ∈ tbs K := List.mem_cons_of_mem _ (List.mem_cons_self ..)
    refine ⟨_, rfl, a, rfl, ⟨_, SqL.of ha.lst⟩, tb _ mL, fun H1 t1 => ?_⟩
    have e1 : EvT (tbs K) H H1 := EvT.tabbed (tb _ mL) t1
    generalize hR : (ss.any fun s => tt.any fun t => closerB s t l) = R at q
    refine ⟨fun i m H' => m + i = ss.length ∧ EvT (tbs K) H H' ∧ R = ((ss.drop i).any fun s => tt.any fun t => closerB s t l), ⟨ss.length, rfl, e1, hR.symm⟩, fun i m H' hW => ?_⟩
    obtain ⟨em, ev, ea⟩ := hW
    have ha' := ha.evT ev
    by_cases hi : i < ss.length
    · have hx : as[i]? = some (as[i]'(by rw [ha.len]; exact hi)) := List.getElem?_eq_getElem _
      generalize as[i]'(by rw [ha.len]; exact hi) = k at hx
      obtain ⟨u, hu, su, hk⟩ := ha'.at_ i k hx
      have hmx : (as.map V.ref)[i]? = some (V.ref k) := by rw [List.getElem?_map, hx]; rfl
      refine .inr ⟨⟨_, _, SqL.of ha'.lst, hmx⟩, fun H4 => EvT (tbs K) H H4 ∧ R = ((ss.drop (i + 1)).any fun s => tt.any fun t => closerB s t l), fun H4 h4 => ⟨m - 1, by omega, by omega, h4.1, h4.2⟩, fun x' H4 hy => ?_⟩
      obtain ⟨rfl, fy⟩ := hy
      have ex : x' = .ref k := Option.some.inj ((fy _ (SqL.of ha'.lst)).symm.trans hmx)
      subst ex
      have eu : (ss.drop i).any (fun s => tt.any fun t => closerB s t l) = ((tt.any fun t => closerB u t l) || (ss.drop (i + 1)).any fun s => tt.any fun t => closerB s t l) := by
        rw [List.drop_eq_getElem_cons hi, List.any_cons]
        have e5 : ss[i]'hi = u := Option.some.inj ((List.getElem?_eq_getElem hi).symm.trans hu)
        rw [e5]
      rw [eu] at ea
      have hb' := hb.evT ev
      refine ⟨⟨rfl, rfl, rfl, trivial⟩, _, rfl, b, rfl, ⟨_, SqL.of hb'.lst⟩, ?_⟩
      refine ⟨fun j n H5 => n + j = tt.length ∧ EvT (tbs K) H H5 ∧ R = (((tt.drop j).any fun t => closerB u t l) || (ss.drop (i + 1)).any fun s => tt.any fun t => closerB s t l), ⟨tt.length, hb.sz, rfl, ev, ea⟩, fun j n H5 hV => ?_⟩
      obtain ⟨en, ev5, e5⟩ := hV
      have hb5 := hb.evT ev5
      by_cases hj : j < tt.length
      · have hx2 : bs[j]? = some (bs[j]'(by rw [hb.len]; exact hj)) := List.getElem?_eq_getElem _
        generalize bs[j]'(by rw [hb.len]; exact hj) = k2 at hx2
        obtain ⟨v, hv, sv, hk2⟩ := hb5.at_ j k2 hx2
        have hmx2 : (bs.map V.ref)[j]? = some (V.ref k2) := by rw [List.getElem?_map, hx2]; rfl
        refine .inr ⟨⟨_, _, SqL.of hb5.lst, hmx2⟩, fun H6 => EvT (tbs K) H H6 ∧ R = (((tt.drop (j + 1)).any fun t => closerB u t l) || (ss.drop (i + 1)).any fun s => tt.any fun t => closerB s t l), fun H6 h6 => ⟨n - 1, by omega, by omega, h6.1, h6.2⟩, fun y' H6 hz => ?_⟩
        obtain ⟨rfl, fz⟩ := hz
        have ey : y' = .ref k2 := Option.some.inj ((fz _ (SqL.of hb5.lst)).symm.trans hmx2)
        subst ey
        have ev2 : (tt.drop j).any (fun t => closerB u t l) = (closerB u v l || (tt.drop (j + 1)).any fun t => closerB u t l) := by
          rw [List.drop_eq_getElem_cons hj, List.any_cons]
          have e9 : tt[j]'hj = v := Option.some.inj ((List.getElem?_eq_getElem hj).symm.trans hv)
          rw [e9]
        rw [ev2] at e5
        have hk5 : H6 k = some (.tup (sg u)) := by
          obtain ⟨u', hu', _, hk'⟩ := (ha.evT ev5).at_ i k hx
          rw [hu] at hu'
          rw [Option.some.inj hu']
          exact hk'
        refine ⟨⟨rfl, rfl, rfl, rfl, trivial⟩, _, rfl, _, rfl, _, rfl, k, k2, u, v, l, rfl, hk5, hk2, su, sv, l0, l1, tb.ev ev5, fun H7 e7 => ⟨_, rfl, ?_⟩⟩
        have ev7 := ev5.trans e7
        cases hc : closerB u v l with
        | true =>
          rw [hc, Bool.true_or, Bool.true_or] at e5
          rw [e5] at q
          exact q H7 ev7
        | false =>
          rw [hc, Bool.false_or] at e5
          exact ⟨ev7, e5⟩
      · refine .inl ⟨⟨_, SqL.of hb5.lst, by rw [List.length_map, hb.len]; omega⟩, ev5, ?_⟩
        rw [List.drop_of_length_le (by omega)] at e5
        exact e5
    · refine .inl ⟨⟨_, SqL.of ha'.lst, by rw [List.length_map, ha.len]; omega⟩, ?_⟩
      rw [List.drop_of_length_le (by omega)] at ea
      rw [ea] at q
      exact q H' ev
end
end K16
set_option maxHeartbeats 4000000
namespace K16
open PySem PySem.Spec PyProof.Rows L2
open GxR (TabG Tabbed)
/-- the least root above -/
structure RU (n r : Int) : Prop where
  nn : 0 ≤ r
  up : n ≤ r * r
  lst : ∀ k, 0 ≤ k → n ≤ k * k → r ≤ k
theorem RU.uniq {n r r' : Int} (h : RU n r) (h' : RU n r') : r = r' := Int.le_antisymm (h.lst _ h'.nn h'.up) (h'.lst _ h.nn h.up)
def rup (n : Int) : Int := if ((Float64.isqrt n.toNat : Nat) : Int) * ((Float64.isqrt n.toNat : Nat) : Int) = n then ((Float64.isqrt n.toNat : Nat) : Int) else ((Float64.isqrt n.toNat : Nat) : Int) + 1
theorem rup_ru {n : Int} (h0 : 0 ≤ n) : RU n (rup n) := by
  obtain ⟨h1, h2⟩ := PySem.Float64.isqrt_spec n.toNat
  unfold rup
  generalize Float64.isqrt n.toNat = r at *
  have e : ((n.toNat : Nat) : Int) = n := Int.toNat_of_nonneg h0
  have g1 : (r : Int) * r ≤ n := by rw [← e]; exact_mod_cast h1
  have g2 : n < ((r : Int) + 1) * (r + 1) := by rw [← e]; exact_mod_cast h2
  have r0 : (0 : Int) ≤ r := Int.natCast_nonneg r
  by_cases h : (r : Int) * r = n
  · rw [if_pos h]
    refine ⟨r0, by omega, fun k k0 hk => ?_⟩
    by_cases z : (r : Int) ≤ k
    · exact z
    · have hk1 : k * k ≤ k * r := Int.mul_le_mul_of_nonneg_left (by omega) k0
      have hk2 : k * r < r * r := Int.mul_lt_mul_of_pos_right (by omega) (by omega)
      omega
  · rw [if_neg h]
    refine ⟨by omega, by omega, fun k k0 hk => ?_⟩
    by_cases z : (r : Int) + 1 ≤ k
    · exact z
    · have z' : k ≤ r := by omega
      have hk1 : k * k ≤ k * r := Int.mul_le_mul_of_nonneg_left z' k0
      have hk2 : k * r ≤ r * r := Int.mul_le_mul_of_nonneg_right z' r0
      omega
def spRoot : Sp := fun vs H Q _ => ∃ n : Int, vs = [.int n] ∧ 0 ≤ n ∧ n < 2 ^ 20 ∧ Q (.int (rup n)) H
theorem rup_lt {n m : Int} (h0 : 0 ≤ n) (m0 : 0 ≤ m) (h : n ≤ m * m) : 0 ≤ rup n ∧ rup n ≤ m := ⟨(rup_ru h0).nn, (rup_ru h0).lst m m0 h⟩
section
variable {P : Program} {w : World} {K : PySem.W.Frag} {mg : Str → Option Value} {base : Heap}
theorem sc_root_up : FnScope ["n", "root"] ["n"] (defScope s_root_up) := ⟨rfl, rfl, rfl, by decide +kernel, rfl, by decide +kernel, by decide +kernel⟩
theorem ok_root_up (T : Tx K mg) : OkF P w K mg base 1 "root_up" ["n"] spRoot := by
  obtain ⟨fd, F⟩ := T.f_root_up
  refine ⟨_, fd, okD F sc_root_up (fun vs H Q E h => ?_) (fun cdv A outer s H vs Q E hr h => ?_), T.g_root_up, F.kp, F.bindsN fun _ _ _ _ _ _ us hl => match us, hl with | [_], _ => rfl⟩
  · obtain ⟨_, rfl, _⟩ := h
    rfl
  · obtain ⟨n, rfl, h0, h1, q⟩ := h
    refine ⟨_, (pss_cons (ps_set (i := 1) sc_root_up.nd rfl (Or.inl rfl) (pe_isq rfl T.isq (pa_cons (pv 0) pa_nil)))
  (pss_one (ps_ret (pe_ifExp (pt_cmpR op_eq (pe_op op_mul (pv 1) (pv 1)) (pv 0) (nomark _)) (pv 1) (pe_op op_add (pv 1) pe_int))))), ?_⟩
    have hs : Float64.isqrt n.toNat ≤ n.toNat := by
      have z := (PySem.Float64.isqrt_spec n.toNat).1
      by_cases h : Float64.isqrt n.toNat = 0
      · omega
      · exact Nat.le_trans (Nat.le_mul_of_pos_left _ (by omega)) z
    refine ⟨_, rfl, n, rfl, h0, by omega, ?_⟩
    generalize hk : Float64.isqrt n.toNat = k at hs
    have q' : Q (.int (if (k : Int) * k = n then (k : Int) else (k : Int) + 1)) H := by
      unfold rup at q
      rw [hk] at q
      exact q
    refine ⟨_, rfl, _, rfl, _, _, rfl, rfl, .inl ⟨by omega, by omega⟩, _, rfl, rfl, _, rfl, ?_⟩
    refine ite2 (fun hc => ?_) fun hc => ?_
    · have hc : (k : Int) * k = n := V.int.inj (of_decide_eq_true hc)
      rw [if_pos hc] at q'
      exact ⟨_, rfl, q'⟩
    · have hc : ¬ (k : Int) * k = n := fun z => hc (decide_eq_true (congrArg V.int z))
      rw [if_neg hc] at q'
      exact ⟨_, rfl, _, _, rfl, rfl, q'⟩
end
end K16
set_option maxHeartbeats 4000000
namespace K16
open PySem PySem.Spec PyProof.Rows L2
open GxR (TabG Tabbed)
open Geo (Pt)
/-! ### a path -/
structure Pa where
  dx : Addr
  ll : Addr
  pp : Addr
  bb : Addr
  r : V
  ls : List V
  ps : List Addr
abbrev gP (pts : List Pt) (i : Nat) : Pt := pts.getD i (0, 0)
abbrev gB (bg : List Int) (i : Nat) : Int := bg.getD i 0
structure PathAt (K : PySem.W.Frag) (H : Hp) (a : Addr) (u : Pa) (pts : List Pt) (bg : List Int) : Prop where
  ins : H a = some (.ins (He.ga K "Path") u.dx [("_route", u.r), ("_legs", .ref u.ll), ("_points", .ref u.pp), ("_begins", .ref u.bb)])
  legs : H u.ll = some (.lst u.ls)
  nl : u.ls.length + 1 = pts.length
  poi : H u.pp = some (.lst (u.ps.map V.ref))
  np : u.ps.length = pts.length
  at_ : ∀ (i : Nat) (k : Addr), u.ps[i]? = some k → H k = some (.tup (pt (gP pts i)))
  beg : H u.bb = some (.lst (bg.map V.int))
  nb : bg.length = pts.length
  n2 : 2 ≤ pts.length
  bd : ∀ i, -40 ≤ (gP pts i).1 ∧ (gP pts i).1 ≤ 40 ∧ -245 ≤ (gP pts i).2 ∧ (gP pts i).2 ≤ 245
theorem PathAt.ev {K : PySem.W.Frag} {ts : List Addr} {sd : Addr} {H H' : Hp} {a : Addr} {u : Pa} {pts : List Pt} {bg : List Int} (h : PathAt K H a u pts bg) (e : Ev ts sd H H') : PathAt K H' a u pts bg :=
  ⟨e.ins h.ins, e.lst h.legs, h.nl, e.lst h.poi, h.np, fun i k hk => e.tup (h.at_ i k hk), e.lst h.beg, h.nb, h.n2, h.bd⟩
theorem PathAt.same {K : PySem.W.Frag} {H H' : Hp} {a : Addr} {u : Pa} {pts : List Pt} {bg : List Int} (h : PathAt K H a u pts bg) (e : Same H H') : PathAt K H' a u pts bg := h.ev (Ev.of (ts := []) (sd := a) e)
section
variable {K : PySem.W.Frag} {H : Hp} {a : Addr} {u : Pa} {pts : List Pt} {bg : List Int}
theorem atI_m1 {α : Type} {xs : List α} {n : Nat} {v : α} (h : xs[n]? = some v) (hn : xs.length = n + 1) : atI xs (-1) = some v := by
  have e : ixN xs.length (-1) = some n := by
    unfold ixN
    rw [if_neg (by omega), if_pos (by omega)]
    exact congrArg some (by omega)
  unfold atI
  rw [e]
  exact h
theorem PathAt.gb (h : PathAt K H a u pts bg) {i : Nat} (hi : i < pts.length) : atI (bg.map V.int) (i : Int) = some (.int (gB bg i)) := by
  refine atI_nat ?_
  rw [List.getElem?_map, List.getElem?_eq_getElem (by rw [h.nb]; exact hi)]
  show some (V.int _) = _
  rw [gB, List.getD_eq_getElem?_getD, List.getElem?_eq_getElem (by rw [h.nb]; exact hi)]
  rfl
theorem PathAt.gp (h : PathAt K H a u pts bg) {i : Nat} (hi : i < pts.length) : ∃ k, atI (u.ps.map V.ref) (i : Int) = some (.ref k) ∧ H k = some (.tup (pt (gP pts i))) := by
  have hx : u.ps[i]? = some (u.ps[i]'(by rw [h.np]; exact hi)) := List.getElem?_eq_getElem _
  exact ⟨_, atI_nat (by rw [List.getElem?_map, hx]; rfl), h.at_ i _ hx⟩
end
def tot (bg : List Int) : Int := gB bg (bg.length - 1)
def spTotal (K : PySem.W.Frag) : Sp := fun vs H Q _ => ∃ (a : Addr) (u : Pa) (pts : List Pt) (bg : List Int), vs = [.ref a] ∧ PathAt K H a u pts bg ∧ Q (.int (tot bg)) H
def spLegAt (K : PySem.W.Frag) : Sp := fun vs H Q _ => ∃ (a : Addr) (u : Pa) (pts : List Pt) (bg : List Int) (p : Int), vs = [.ref a, .int p] ∧ PathAt K H a u pts bg ∧
  ∀ k : Nat, k + 1 < pts.length → (∀ j, 1 ≤ j → j ≤ k → gB bg j ≤ p) → (k + 2 < pts.length → p < gB bg (k + 1)) → Q (.int k) H
def vecs (pts : List Pt) (bg : List Int) (i : Nat) : List V := [.int ((gP pts (i + 1)).1 - (gP pts i).1), .int ((gP pts (i + 1)).2 - (gP pts i).2), .int (gB bg (i + 1) - gB bg i)]
def spVector (K : PySem.W.Frag) : Sp := fun vs H Q _ => ∃ (a : Addr) (u : Pa) (pts : List Pt) (bg : List Int) (i : Nat), vs = [.ref a, .int i] ∧ PathAt K H a u pts bg ∧ i + 1 < pts.length ∧
  ∀ H' r, Same H H' → H' r = some (.tup (vecs pts bg i)) → Q (.ref r) H'
/-- the place at progress p on leg i -/
def onX (pts : List Pt) (bg : List Int) (i : Nat) (p : Int) : Int := (gP pts i).1 * (gB bg (i + 1) - gB bg i) + ((gP pts (i + 1)).1 - (gP pts i).1) * (p - gB bg i)
def onY (pts : List Pt) (bg : List Int) (i : Nat) (p : Int) : Int := (gP pts i).2 * (gB bg (i + 1) - gB bg i) + ((gP pts (i + 1)).2 - (gP pts i).2) * (p - gB bg i)
def onL (bg : List Int) (i : Nat) : Int := gB bg (i + 1) - gB bg i
abbrev onT (pts : List Pt) (bg : List Int) (i : Nat) (p : Int) : List V := [.int (onX pts bg i p), .int (onY pts bg i p), .int (onL bg i)]
def spOnLeg (K : PySem.W.Frag) : Sp := fun vs H Q _ => ∃ (a : Addr) (u : Pa) (pts : List Pt) (bg : List Int) (i : Nat) (p : Int), vs = [.ref a, .int i, .int p] ∧ PathAt K H a u pts bg ∧ i + 1 < pts.length ∧
  ∀ H' r, Same H H' → H' r = some (.tup (onT pts bg i p)) → Q (.ref r) H'
def spPlace (K : PySem.W.Frag) : Sp := fun vs H Q _ => ∃ (a : Addr) (u : Pa) (pts : List Pt) (bg : List Int) (p : Int), vs = [.ref a, .int p] ∧ PathAt K H a u pts bg ∧
  ∀ (k : Nat) H' r, k + 1 < pts.length → (∀ j, 1 ≤ j → j ≤ k → gB bg j ≤ p) → (k + 2 < pts.length → p < gB bg (k + 1)) → Same H H' → H' r = some (.tup (onT pts bg k p)) → Q (.ref r) H'
section
variable {P : Program} {w : World} {K : PySem.W.Frag} {mg : Str → Option Value} {base : Heap}
theorem sc_P_total : FnScope ["self"] ["self"] (defScope sP_total) := ⟨rfl, rfl, rfl, by decide +kernel, rfl, by decide +kernel, by decide +kernel⟩
theorem ok_total (T : Tx K mg) : OkM P w K mg base 1 (He.ga K "Path") "total" ["self"] (spTotal K) := by
  obtain ⟨fd, F⟩ := T.fm_total
  refine ⟨_, fd, okD F sc_P_total (fun vs H Q E h => ?_) (fun cdv A outer s H vs Q E hr h => ?_), T.m_total, F.bindsN fun _ _ _ _ _ _ us hl => match us, hl with | [_], _ => rfl⟩
  · obtain ⟨_, _, _, _, rfl, _⟩ := h
    rfl
  · obtain ⟨a, u, pts, bg, rfl, h, q⟩ := h
    refine ⟨_, (pss_one (ps_ret (pe_ix ix_list (pe_fld (pv 0) rfl) (pe_un un_neg pe_int) (fun _ _ => rfl)))), ?_⟩
    refine ⟨_, rfl, a, _, _, _, _, rfl, h.ins, T.cl, T.no_begins, rfl, _, rfl, _, _, _, _, rfl, rfl, SqL.of h.beg, ?_, q⟩
    have n2 := h.n2
    have nb := h.nb
    have hx : (bg.map V.int)[bg.length - 1]? = some (.int (tot bg)) := by
      rw [List.getElem?_map, List.getElem?_eq_getElem (by omega)]
      show some (V.int _) = _
      rw [tot, gB, List.getD_eq_getElem?_getD, List.getElem?_eq_getElem (by omega)]
      rfl
    exact atI_m1 hx (by rw [List.length_map]; omega)
theorem sc_P_leg_at : FnScope ["self", "progress", "index"] ["self", "progress"] (defScope sP_leg_at) := ⟨rfl, rfl, rfl, by decide +kernel, rfl, by decide +kernel, by decide +kernel⟩
theorem ok_leg_at (T : Tx K mg) : OkM P w K mg base 1 (He.ga K "Path") "leg_at" ["self", "progress"] (spLegAt K) := by
  obtain ⟨fd, F⟩ := T.fm_leg_at
  refine ⟨_, fd, okD F sc_P_leg_at (fun vs H Q E h => ?_) (fun cdv A outer s H vs Q E hr h => ?_), T.m_leg_at, F.bindsN fun _ _ _ _ _ _ us hl => match us, hl with | [_, _], _ => rfl⟩
  · obtain ⟨_, _, _, _, _, rfl, _⟩ := h
    rfl
  · obtain ⟨a, u, pts, bg, p, rfl, h, q⟩ := h
    have n2 := h.n2
    refine ⟨_, (pss_cons (ps_set (i := 2) sc_P_leg_at.nd rfl (Or.inl rfl) pe_int)
  (pss_cons (ps_while PassesOwn.never (PW.pt (pw_and (pt_cmpR op_lt (pe_op op_add (pv 2) pe_int) (pe_callB call_len_seq (by rfl) T.len (by decide +kernel) (pa_cons (pe_fld (pv 0) rfl) pa_nil)) (nomark _)) (pw_and1 (pt_cmpR op_le (pe_ix ix_list (pe_fld (pv 0) rfl) (pe_op op_add (pv 2) pe_int) (fun _ _ => rfl)) (pv 1) (nomark _))))) (pss_one (ps_aug (i := 2) sc_P_leg_at.nd rfl (Or.inl rfl) pe_int ip_add)))
  (pss_one (ps_ret (pv 2))))), ?_⟩
    refine ⟨fun m σ H' => ∃ k : Nat, m + k = pts.length ∧ σ = [some (.ref a), some (.int p), some (.int k)] ∧ H' = H ∧ k + 1 < pts.length ∧ ∀ j, 1 ≤ j → j ≤ k → gB bg j ≤ p, ⟨pts.length, 0, rfl, rfl, rfl, by omega, fun j h1 h2 => by omega⟩, fun m σ H' hW => ?_⟩
    obtain ⟨k, em, rfl, rfl, hk, hj⟩ := hW
    refine ⟨_, rfl, _, _, rfl, rfl, _, rfl, a, _, _, _, _, rfl, h.ins, T.cl, T.no_legs, rfl, _, _, rfl, .inl (SqL.of h.legs), _, _, rfl, rfl, _, rfl, ?_⟩
    by_cases c1 : (k : Int) + 1 < (u.ls.length : Int)
    · rw [decide_eq_true c1]
      have nl := h.nl
      refine iteT ⟨_, rfl, a, _, _, _, _, rfl, h.ins, T.cl, T.no_begins, rfl, _, rfl, _, _, rfl, rfl, _, _, _, _, rfl, rfl, SqL.of h.beg, h.gb (i := k + 1) (by omega), ?_⟩
      refine ⟨_, rfl, _, _, rfl, rfl, _, rfl, ?_⟩
      refine ite2 (fun c2 => ?_) fun c2 => ?_
      · have c2 := of_decide_eq_true c2
        refine ⟨fun σ' H'' => ∃ k' : Nat, k' = k + 1 ∧ σ' = [some (.ref a), some (.int p), some (.int (k' : Nat))] ∧ H'' = H', fun σ' H'' hN => ?_, ?_⟩
        · obtain ⟨k', rfl, rfl, rfl⟩ := hN
          refine ⟨m - 1, by omega, k + 1, by omega, rfl, rfl, by omega, fun j h1 h2 => ?_⟩
          by_cases z : j ≤ k
          · exact hj j h1 z
          · rw [show j = k + 1 by omega]
            exact c2
        · exact ⟨_, rfl, _, _, rfl, rfl, k + 1, rfl, rfl, rfl⟩
      · have c2 : ¬ gB bg (k + 1) ≤ p := fun z => c2 (decide_eq_true z)
        exact ⟨_, rfl, q k hk hj fun _ => by omega⟩
    · rw [decide_eq_false c1]
      refine iteF ⟨_, rfl, q k hk hj fun z => ?_⟩
      have nl := h.nl
      omega
theorem sc_P_vector : FnScope ["self", "index", "ax", "ay", "bx", "by"] ["self", "index"] (defScope sP_vector) := ⟨rfl, rfl, rfl, by decide +kernel, rfl, by decide +kernel, by decide +kernel⟩
theorem ok_vector (T : Tx K mg) : OkM P w K mg base 1 (He.ga K "Path") "vector" ["self", "index"] (spVector K) := by
  obtain ⟨fd, F⟩ := T.fm_vector
  refine ⟨_, fd, okD F sc_P_vector (fun vs H Q E h => ?_) (fun cdv A outer s H vs Q E hr h => ?_), T.m_vector, F.bindsN fun _ _ _ _ _ _ us hl => match us, hl with | [_, _], _ => rfl⟩
  · obtain ⟨_, _, _, _, _, rfl, _⟩ := h
    rfl
  · obtain ⟨a, u, pts, bg, i, rfl, h, hi, q⟩ := h
    refine ⟨_, (pss_cons (ps_asg (pe_ix ix_list (pe_fld (pv 0) rfl) (pv 1) (fun _ _ => rfl)) (pg_tup rfl (pgs_cons (pg_name (i := 2) sc_P_vector.nd rfl (Or.inl rfl)) (pgs_cons (pg_name (i := 3) sc_P_vector.nd rfl (Or.inl rfl)) pgs_nil))))
  (pss_cons (ps_asg (pe_ix ix_list (pe_fld (pv 0) rfl) (pe_op op_add (pv 1) pe_int) (fun _ _ => rfl)) (pg_tup rfl (pgs_cons (pg_name (i := 4) sc_P_vector.nd rfl (Or.inl rfl)) (pgs_cons (pg_name (i := 5) sc_P_vector.nd rfl (Or.inl rfl)) pgs_nil))))
  (pss_one (ps_ret (pe_tup (pa_cons (pe_op op_sub (pv 4) (pv 2)) (pa_cons (pe_op op_sub (pv 5) (pv 3)) (pa_cons (pe_op op_sub (pe_ix ix_list (pe_fld (pv 0) rfl) (pe_op op_add (pv 1) pe_int) (fun _ _ => rfl)) (pe_ix ix_list (pe_fld (pv 0) rfl) (pv 1) (fun _ _ => rfl))) pa_nil)))))))), ?_⟩
    obtain ⟨k1, a1, e1⟩ := h.gp (i := i) (by omega)
    obtain ⟨k2, a2, e2⟩ := h.gp (i := i + 1) hi
    refine ⟨_, rfl, a, _, _, _, _, rfl, h.ins, T.cl, T.no_points, rfl, _, rfl, _, _, _, _, rfl, rfl, SqL.of h.poi, a1, ?_⟩
    refine ⟨_, _, rfl, SqT.of e1, rfl, _, _, rfl, _, _, rfl, rfl, ?_⟩
    refine ⟨_, rfl, a, _, _, _, _, rfl, h.ins, T.cl, T.no_points, rfl, _, rfl, _, _, rfl, rfl, _, _, _, _, rfl, rfl, SqL.of h.poi, a2, ?_⟩
    refine ⟨_, _, rfl, SqT.of e2, rfl, _, _, rfl, _, _, rfl, rfl, ?_⟩
    refine ⟨_, rfl, _, rfl, _, _, rfl, rfl, _, rfl, _, rfl, _, _, rfl, rfl, ?_⟩
    refine ⟨_, rfl, a, _, _, _, _, rfl, h.ins, T.cl, T.no_begins, rfl, _, rfl, _, _, rfl, rfl, _, _, _, _, rfl, rfl, SqL.of h.beg, h.gb (i := i + 1) hi, ?_⟩
    refine ⟨_, rfl, a, _, _, _, _, rfl, h.ins, T.cl, T.no_begins, rfl, _, rfl, _, _, _, _, rfl, rfl, SqL.of h.beg, h.gb (i := i) (by omega), _, _, rfl, rfl, ?_⟩
    exact ⟨by show 3 ≤ sizeLine; decide, fun r hn => q _ r (same_upd hn) upd_same⟩
theorem sc_P_on_leg : FnScope ["self", "index", "progress", "along", "ax", "ay", "dx", "dy", "length"] ["self", "index", "progress"] (defScope sP_on_leg) := ⟨rfl, rfl, rfl, by decide +kernel, rfl, by decide +kernel, by decide +kernel⟩
theorem ok_on_leg (T : Tx K mg) (O_m_vector : OkM P w K mg base 1 (He.ga K "Path") "vector" ["self", "index"] (spVector K)) : OkM P w K mg base 2 (He.ga K "Path") "_on_leg" ["self", "index", "progress"] (spOnLeg K) := by
  obtain ⟨fd, F⟩ := T.fm_on_leg
  refine ⟨_, fd, okD F sc_P_on_leg (fun vs H Q E h => ?_) (fun cdv A outer s H vs Q E hr h => ?_), T.m_on_leg, F.bindsN fun _ _ _ _ _ _ us hl => match us, hl with | [_, _, _], _ => rfl⟩
  · obtain ⟨_, _, _, _, _, _, rfl, _⟩ := h
    rfl
  · obtain ⟨a, u, pts, bg, i, p, rfl, h, hi, q⟩ := h
    have hcl := T.cl
    refine ⟨_, (pss_cons (ps_asg (pe_ix ix_list (pe_fld (pv 0) rfl) (pv 1) (fun _ _ => rfl)) (pg_tup rfl (pgs_cons (pg_name (i := 4) sc_P_on_leg.nd rfl (Or.inl rfl)) (pgs_cons (pg_name (i := 5) sc_P_on_leg.nd rfl (Or.inl rfl)) pgs_nil))))
  (pss_cons (ps_asg (pe_mth O_m_vector hcl hr (pv 0) (pa_cons (pv 1) pa_nil)) (pg_tup rfl (pgs_cons (pg_name (i := 6) sc_P_on_leg.nd rfl (Or.inl rfl)) (pgs_cons (pg_name (i := 7) sc_P_on_leg.nd rfl (Or.inl rfl)) (pgs_cons (pg_name (i := 8) sc_P_on_leg.nd rfl (Or.inl rfl)) pgs_nil)))))
  (pss_cons (ps_set (i := 3) sc_P_on_leg.nd rfl (Or.inl rfl) (pe_op op_sub (pv 2) (pe_ix ix_list (pe_fld (pv 0) rfl) (pv 1) (fun _ _ => rfl))))
  (pss_one (ps_ret (pe_tup (pa_cons (pe_op op_add (pe_op op_mul (pv 4) (pv 8)) (pe_op op_mul (pv 6) (pv 3))) (pa_cons (pe_op op_add (pe_op op_mul (pv 5) (pv 8)) (pe_op op_mul (pv 7) (pv 3))) (pa_cons (pv 8) pa_nil))))))))), ?_⟩
    obtain ⟨k1, a1, e1⟩ := h.gp (i := i) (by omega)
    refine ⟨_, rfl, a, _, _, _, _, rfl, h.ins, T.cl, T.no_points, rfl, _, rfl, _, _, _, _, rfl, rfl, SqL.of h.poi, a1, ?_⟩
    refine ⟨_, _, rfl, SqT.of e1, rfl, _, _, rfl, _, _, rfl, rfl, ?_⟩
    refine ⟨_, rfl, a, _, _, rfl, h.ins, rfl, _, rfl, a, u, pts, bg, i, rfl, h, hi, fun H1 r1 s1 f1 => ?_⟩
    refine ⟨_, _, rfl, SqT.of f1, rfl, _, _, rfl, _, _, rfl, _, _, rfl, rfl, ?_⟩
    have h1 := h.same s1
    have b0 := h.bd i
    have b1 := h.bd (i + 1)
    refine ⟨_, rfl, _, rfl, a, _, _, _, _, rfl, h1.ins, T.cl, T.no_begins, rfl, _, rfl, _, _, _, _, rfl, rfl, SqL.of h1.beg, h1.gb (i := i) (by omega), _, _, rfl, rfl, ?_⟩
    refine ⟨_, rfl, _, rfl, _, _, rfl, rfl, .inl ⟨by omega, by omega⟩, _, rfl, _, rfl, _, _, rfl, rfl, .inl ⟨by omega, by omega⟩, _, _, rfl, rfl, ?_⟩
    refine ⟨_, rfl, _, rfl, _, _, rfl, rfl, .inl ⟨by omega, by omega⟩, _, rfl, _, rfl, _, _, rfl, rfl, .inl ⟨by omega, by omega⟩, _, _, rfl, rfl, ?_⟩
    exact ⟨_, rfl, by show 3 ≤ sizeLine; decide, fun r hn => q _ r (s1.trans (same_upd hn)) upd_same⟩
theorem sc_P_place : FnScope ["self", "progress"] ["self", "progress"] (defScope sP_place) := ⟨rfl, rfl, rfl, by decide +kernel, rfl, by decide +kernel, by decide +kernel⟩
theorem ok_place (T : Tx K mg) (O_m_on_leg : OkM P w K mg base 2 (He.ga K "Path") "_on_leg" ["self", "index", "progress"] (spOnLeg K)) (O_m_leg_at : OkM P w K mg base 1 (He.ga K "Path") "leg_at" ["self", "progress"] (spLegAt K)) : OkM P w K mg base 3 (He.ga K "Path") "place" ["self", "progress"] (spPlace K) := by
  obtain ⟨fd, F⟩ := T.fm_place
  refine ⟨_, fd, okD F sc_P_place (fun vs H Q E h => ?_) (fun cdv A outer s H vs Q E hr h => ?_), T.m_place, F.bindsN fun _ _ _ _ _ _ us hl => match us, hl with | [_, _], _ => rfl⟩
  · obtain ⟨_, _, _, _, _, rfl, _⟩ := h
    rfl
  · obtain ⟨a, u, pts, bg, p, rfl, h, q⟩ := h
    have hcl := T.cl
    refine ⟨_, (pss_one (ps_ret (pe_mth O_m_on_leg hcl hr (pv 0) (pa_cons (pe_mth O_m_leg_at hcl hr (pv 0) (pa_cons (pv 1) pa_nil)) (pa_cons (pv 1) pa_nil))))), ?_⟩
    refine ⟨_, rfl, a, _, _, rfl, h.ins, rfl, _, rfl, a, _, _, rfl, h.ins, rfl, _, rfl, a, u, pts, bg, p, rfl, h, fun k hk hj hl => ?_⟩
    exact ⟨_, rfl, a, u, pts, bg, k, p, rfl, h, hk, fun H' r s e => q k H' r hk hj hl s e⟩
end
end K16
/-! The pieces of a path: plain mathematics. -/
namespace K16
open PySem PySem.Spec PyProof.Rows L2
open Geo (Pt)
def d2 (p q : Pt) : Int := (q.1 - p.1) * (q.1 - p.1) + (q.2 - p.2) * (q.2 - p.2)
structure Chain (pts : List Pt) (bg : List Int) : Prop where
  b0 : gB bg 0 = 0
  st : ∀ i, i + 1 < pts.length → gB bg (i + 1) = gB bg i + rup (d2 (gP pts i) (gP pts (i + 1)))
  bd : ∀ i, -40 ≤ (gP pts i).1 ∧ (gP pts i).1 ≤ 40 ∧ -245 ≤ (gP pts i).2 ∧ (gP pts i).2 ≤ 245
  nb : bg.length = pts.length
  n2 : 2 ≤ pts.length
  n8 : pts.length ≤ 8
theorem sq_le {a m : Int} (h : -m ≤ a ∧ a ≤ m) : 0 ≤ a * a ∧ a * a ≤ m * m := by
  have h1 := mul_bd h h
  refine ⟨?_, h1.2⟩
  rcases Int.le_total 0 a with z | z
  · exact Int.mul_nonneg z z
  · exact Int.mul_nonneg_of_nonpos_of_nonpos z z
theorem d2_bd {p q : Pt} (hp : -40 ≤ p.1 ∧ p.1 ≤ 40 ∧ -245 ≤ p.2 ∧ p.2 ≤ 245) (hq : -40 ≤ q.1 ∧ q.1 ≤ 40 ∧ -245 ≤ q.2 ∧ q.2 ≤ 245) : 0 ≤ d2 p q ∧ d2 p q ≤ 246500 := by
  have h1 := sq_le (a := q.1 - p.1) (m := 80) (by omega)
  have h2 := sq_le (a := q.2 - p.2) (m := 490) (by omega)
  unfold d2
  omega
theorem d2_zero {p q : Pt} (h : d2 p q ≤ 0) : p = q := by
  have h1 : 0 ≤ (q.1 - p.1) * (q.1 - p.1) := (sq_le (a := q.1 - p.1) (m := (q.1 - p.1).natAbs) (by omega)).1
  have h2 : 0 ≤ (q.2 - p.2) * (q.2 - p.2) := (sq_le (a := q.2 - p.2) (m := (q.2 - p.2).natAbs) (by omega)).1
  unfold d2 at h
  have e1 : (q.1 - p.1) * (q.1 - p.1) = 0 := by omega
  have e2 : (q.2 - p.2) * (q.2 - p.2) = 0 := by omega
  have f1 := (Int.mul_eq_zero.mp e1)
  have f2 := (Int.mul_eq_zero.mp e2)
  exact Prod.ext (by omega) (by omega)
section
variable {pts : List Pt} {bg : List Int}
theorem Chain.len (c : Chain pts bg) {i : Nat} (hi : i + 1 < pts.length) : 0 ≤ onL bg i ∧ onL bg i ≤ 497 := by
  have h := d2_bd (c.bd i) (c.bd (i + 1))
  have r := rup_lt (m := 497) h.1 (by omega) (by omega)
  have := c.st i hi
  unfold onL
  omega
theorem Chain.le (c : Chain pts bg) {i j : Nat} (h : i ≤ j) (hj : j < pts.length) : gB bg i ≤ gB bg j := by
  induction j with
  | zero =>
    obtain rfl : i = 0 := by omega
    exact Int.le_refl _
  | succ n ih =>
    by_cases z : i = n + 1
    · rw [z]
      exact Int.le_refl _
    · have h1 := ih (by omega) (by omega)
      have h2 := (c.len (i := n) hj).1
      unfold onL at h2
      omega
theorem Chain.leg1 (c : Chain pts bg) {p : Int} {k k' : Nat} (hk : k + 1 < pts.length) (hk' : k' + 1 < pts.length) (h1 : gB bg k ≤ p) (h2 : p < gB bg (k + 1)) (h1' : gB bg k' ≤ p) (h2' : p < gB bg (k' + 1)) : k = k' := by
  by_cases z : k < k'
  · have := c.le (i := k + 1) (j := k') (by omega) (by omega)
    omega
  · by_cases z' : k' < k
    · have := c.le (i := k' + 1) (j := k) (by omega) (by omega)
      omega
    · omega
/-- the leg before with a length -/
theorem Chain.before (c : Chain pts bg) {f : Int} (f0 : 0 ≤ f) : ∀ k, k < pts.length → f < gB bg k → ∃ j, j + 1 ≤ k ∧ gB bg j < gB bg (j + 1) ∧ gB bg (j + 1) = gB bg k ∧ gP pts (j + 1) = gP pts k := by
  intro k
  induction k with
  | zero =>
    intro _ h
    have := c.b0
    omega
  | succ n ih =>
    intro hn hf
    by_cases z : gB bg n < gB bg (n + 1)
    · exact ⟨n, Nat.le_refl _, z, rfl, rfl⟩
    · have h2 := (c.len (i := n) hn).1
      have e : gB bg n = gB bg (n + 1) := by unfold onL at h2; omega
      obtain ⟨j, j1, j2, j3, j4⟩ := ih (by omega) (by omega)
      have hd := d2_bd (c.bd n) (c.bd (n + 1))
      have hr := rup_ru hd.1
      have es := c.st n hn
      have r0 : rup (d2 (gP pts n) (gP pts (n + 1))) = 0 := by omega
      have hu := hr.up
      rw [r0] at hu
      have ep := d2_zero (by omega : d2 (gP pts n) (gP pts (n + 1)) ≤ 0)
      exact ⟨j, by omega, j2, by omega, by rw [j4, ep]⟩
end
/-- the point (X / L, Y / L) lies on the segment -/
def OnSeg (X Y L : Int) (s : Seg5) : Prop := ∃ u v : Int, 0 ≤ u ∧ 0 ≤ v ∧ 0 < u + v ∧ X * ((u + v) * s.d) = L * (u * s.ax + v * s.bx) ∧ Y * ((u + v) * s.d) = L * (u * s.ay + v * s.bY)
def PieceOk (pts : List Pt) (bg : List Int) (lo hi : Int) (ss : List Seg5) : Prop :=
  ∀ (p : Int) (k : Nat), lo ≤ p → 0 ≤ p → p ≤ hi → k + 1 < pts.length → gB bg k ≤ p → p < gB bg (k + 1) → ∃ s ∈ ss, OnSeg (onX pts bg k p) (onY pts bg k p) (onL bg k) s
def segAt (pts : List Pt) (bg : List Int) (i : Nat) (a b : Int) : Seg5 := ⟨onX pts bg i a, onY pts bg i a, onX pts bg i b, onY pts bg i b, onL bg i⟩
section
variable {pts : List Pt} {bg : List Int}
theorem Chain.on_bd (c : Chain pts bg) {i : Nat} (hi : i + 1 < pts.length) {p : Int} (h1 : gB bg i ≤ p) (h2 : p ≤ gB bg (i + 1)) : (-CB ≤ onX pts bg i p ∧ onX pts bg i p ≤ CB) ∧ (-CB ≤ onY pts bg i p ∧ onY pts bg i p ≤ CB) := by
  have hl := c.len hi
  have b0 := c.bd i
  have b1 := c.bd (i + 1)
  unfold onL at hl
  have m1 := mul_bd (a := (gP pts i).1) (b := gB bg (i + 1) - gB bg i) (A := 40) (B := 497) ⟨by omega, by omega⟩ ⟨by omega, by omega⟩
  have m2 := mul_bd (a := (gP pts (i + 1)).1 - (gP pts i).1) (b := p - gB bg i) (A := 80) (B := 497) ⟨by omega, by omega⟩ ⟨by omega, by omega⟩
  have m3 := mul_bd (a := (gP pts i).2) (b := gB bg (i + 1) - gB bg i) (A := 245) (B := 497) ⟨by omega, by omega⟩ ⟨by omega, by omega⟩
  have m4 := mul_bd (a := (gP pts (i + 1)).2 - (gP pts i).2) (b := p - gB bg i) (A := 490) (B := 497) ⟨by omega, by omega⟩ ⟨by omega, by omega⟩
  unfold onX onY
  simp only [CB]
  omega
theorem Chain.sb (c : Chain pts bg) {i : Nat} (hi : i + 1 < pts.length) {a b : Int} (a1 : gB bg i ≤ a) (a2 : a ≤ gB bg (i + 1)) (b1 : gB bg i ≤ b) (b2 : b ≤ gB bg (i + 1)) (hl : gB bg i < gB bg (i + 1)) : SB (segAt pts bg i a b) := by
  have h1 := c.on_bd hi a1 a2
  have h2 := c.on_bd hi b1 b2
  have h3 := c.len hi
  refine ⟨h1.1, h1.2, h2.1, h2.2, ?_, ?_⟩
  · show 0 < onL bg i
    unfold onL
    omega
  · show onL bg i ≤ 512
    omega
theorem on_seg {i : Nat} {a b p : Int} (h1 : a ≤ p) (h2 : p ≤ b) (h : a < b) : OnSeg (onX pts bg i p) (onY pts bg i p) (onL bg i) (segAt pts bg i a b) := by
  refine ⟨b - p, p - a, by omega, by omega, by omega, ?_, ?_⟩
  · show onX pts bg i p * ((b - p + (p - a)) * onL bg i) = onL bg i * ((b - p) * onX pts bg i a + (p - a) * onX pts bg i b)
    unfold onX onL
    grind
  · show onY pts bg i p * ((b - p + (p - a)) * onL bg i) = onL bg i * ((b - p) * onY pts bg i a + (p - a) * onY pts bg i b)
    unfold onY onL
    grind
theorem on_one {i : Nat} {p : Int} : OnSeg (onX pts bg i p) (onY pts bg i p) (onL bg i) (segAt pts bg i p p) := by
  refine ⟨1, 0, by omega, by omega, by omega, ?_, ?_⟩
  · show onX pts bg i p * ((1 + 0) * onL bg i) = onL bg i * (1 * onX pts bg i p + 0 * onX pts bg i p)
    grind
  · show onY pts bg i p * ((1 + 0) * onL bg i) = onL bg i * (1 * onY pts bg i p + 0 * onY pts bg i p)
    grind
/-- at the end of leg j, the begin of leg k -/
theorem on_end {j k : Nat} {a p : Int} (e1 : gB bg (j + 1) = p) (e2 : gB bg k = p) (ep : gP pts (j + 1) = gP pts k) : OnSeg (onX pts bg k p) (onY pts bg k p) (onL bg k) (segAt pts bg j a p) := by
  refine ⟨0, 1, by omega, by omega, by omega, ?_, ?_⟩
  · show onX pts bg k p * ((0 + 1) * onL bg j) = onL bg k * (0 * onX pts bg j a + 1 * onX pts bg j p)
    unfold onX onL
    rw [← ep, e1, e2]
    grind
  · show onY pts bg k p * ((0 + 1) * onL bg j) = onL bg k * (0 * onY pts bg j a + 1 * onY pts bg j p)
    unfold onY onL
    rw [← ep, e1, e2]
    grind
abbrev fiO (lo : Int) : Int := max lo 0
abbrev laO (bg : List Int) (hi : Int) : Int := min hi (tot bg)
theorem Chain.tot_eq (c : Chain pts bg) : tot bg = gB bg (pts.length - 1) := by
  unfold K16.tot
  rw [c.nb]
/-- the many segments -/
theorem Chain.many (c : Chain pts bg) {lo hi : Int} {ss : List Seg5} (hne : fiO lo ≠ laO bg hi)
    (hs : ∀ i, i + 1 < pts.length → max (fiO lo) (gB bg i) < min (laO bg hi) (gB bg (i + 1)) → segAt pts bg i (max (fiO lo) (gB bg i)) (min (laO bg hi) (gB bg (i + 1))) ∈ ss) : PieceOk pts bg lo hi ss := by
  intro p k h1 h0 h2 hk h3 h4
  have f1 : fiO lo = max lo 0 := rfl
  have f2 : laO bg hi = min hi (K16.tot bg) := rfl
  have ht := c.tot_eq
  have hm := c.le (i := k + 1) (j := pts.length - 1) (by omega) (by omega)
  by_cases z : max (fiO lo) (gB bg k) < min (laO bg hi) (gB bg (k + 1))
  · exact ⟨_, hs k hk z, on_seg (by omega) (by omega) z⟩
  · have e1 : laO bg hi = p := by omega
    have e2 : gB bg k = p := by omega
    have e3 : fiO lo < gB bg k := by omega
    obtain ⟨j, j1, j2, j3, j4⟩ := c.before (f := fiO lo) (by omega) k (by omega) e3
    have e4 : min (laO bg hi) (gB bg (j + 1)) = p := by omega
    have z2 : max (fiO lo) (gB bg j) < min (laO bg hi) (gB bg (j + 1)) := by omega
    have hj := hs j (by omega) z2
    rw [e4] at hj
    exact ⟨_, hj, on_end (by omega) e2 j4⟩
/-- a leg by the path's own search is the leg -/
theorem Chain.found (c : Chain pts bg) {p : Int} (p0 : 0 ≤ p) (pt_ : p < tot bg) {k : Nat} (hk : k + 1 < pts.length) (h1 : ∀ j, 1 ≤ j → j ≤ k → gB bg j ≤ p) (h2 : k + 2 < pts.length → p < gB bg (k + 1)) : gB bg k ≤ p ∧ p < gB bg (k + 1) := by
  have ht := c.tot_eq
  constructor
  · by_cases z : k = 0
    · rw [z, c.b0]
      exact p0
    · exact h1 k (by omega) (Nat.le_refl _)
  · by_cases z : k + 2 < pts.length
    · exact h2 z
    · rw [show k + 1 = pts.length - 1 by omega, ← ht]
      exact pt_
theorem Chain.one (c : Chain pts bg) {lo hi : Int} {k : Nat} (e : fiO lo = laO bg hi) (hk : k + 1 < pts.length) (h1 : gB bg k ≤ fiO lo) (h2 : fiO lo < gB bg (k + 1)) : PieceOk pts bg lo hi [segAt pts bg k (fiO lo) (fiO lo)] := by
  intro p k' g1 g0 g2 hk' g3 g4
  have f1 : fiO lo = max lo 0 := rfl
  have f2 : laO bg hi = min hi (K16.tot bg) := rfl
  have ht := c.tot_eq
  have hm := c.le (i := k' + 1) (j := pts.length - 1) (by omega) (by omega)
  have ep : p = fiO lo := by omega
  rw [← ep] at h1 h2 ⊢
  obtain rfl := c.leg1 hk hk' h1 h2 g3 g4
  exact ⟨_, List.mem_singleton.mpr rfl, on_one⟩
end
end K16
set_option maxHeartbeats 4000000
namespace K16
open PySem PySem.Spec PyProof.Rows L2
open GxR (TabG Tabbed)
open Geo (Pt)
def spPiece (K : PySem.W.Frag) : Sp := fun vs H Q _ => ∃ (a : Addr) (u : Pa) (pts : List Pt) (bg : List Int) (lo hi : Int), vs = [.ref a, .int lo, .int hi] ∧ PathAt K H a u pts bg ∧ Chain pts bg ∧ lo ≤ hi ∧ 0 ≤ hi ∧ lo < tot bg ∧ 0 < tot bg ∧
  ∀ H' r ss as, Same H H' → SegL H' r ss as → PieceOk pts bg lo hi ss → Q (.ref r) H'
theorem max_if (a b : Int) : (if b > a then b else a) = max a b := by
  by_cases h : b > a
  · rw [if_pos h]; omega
  · rw [if_neg h]; omega
theorem min_if (a b : Int) : (if b < a then b else a) = min a b := by
  by_cases h : b < a
  · rw [if_pos h]; omega
  · rw [if_neg h]; omega
/-- one more segment -/
theorem SegL.more {H H' : Hp} {a r : Addr} {ss : List Seg5} {as : List Addr} {s : Seg5} (h : SegL H a ss as) (sz : ss.length < 64) (sb : SB s) (hr : H r = some (.tup (sg s))) (hH : H' = upd H a (.lst (as.map V.ref ++ [V.ref r]))) : SegL H' a (ss ++ [s]) (as ++ [r]) := by
  subst hH
  refine ⟨by rw [upd_same, List.map_append]; rfl, by rw [List.length_append, List.length_append, h.len]; rfl, by rw [List.length_append]; show ss.length + 1 ≤ 64; omega, fun i k hk => ?_⟩
  have hn : ∀ k v, H k = some (.tup v) → k ≠ a := fun k v hk z => by
    rw [z, h.lst] at hk
    cases hk
  by_cases hi : i < as.length
  · rw [List.getElem?_append_left hi] at hk
    obtain ⟨s', h1, h2, h3⟩ := h.at_ i k hk
    exact ⟨s', by rw [List.getElem?_append_left (by rw [← h.len]; exact hi)]; exact h1, h2, by rw [upd_ne (hn _ _ h3)]; exact h3⟩
  · rw [List.getElem?_append_right (by omega)] at hk
    have e0 : i - as.length = 0 := by
      have := (List.getElem?_eq_some_iff.mp hk).1
      have z : ([r] : List Addr).length = 1 := rfl
      omega
    rw [e0] at hk
    cases hk
    exact ⟨s, by rw [List.getElem?_append_right (by rw [← h.len]; omega), ← h.len, e0]; rfl, sb, by rw [upd_ne (hn _ _ hr)]; exact hr⟩
theorem SegL.nil {H : Hp} {a : Addr} (h : H a = some (.lst [])) : SegL H a [] [] := ⟨h, rfl, by decide, fun i k hk => by cases hk⟩
theorem SegL.same {H H' : Hp} {a : Addr} {ss : List Seg5} {as : List Addr} (h : SegL H a ss as) (e : Same H H') : SegL H' a ss as := h.evT (ts := []) (EvT.of e)
/-- a list that was not there may be changed -/
theorem same_upd_new {H H' : Hp} {a : Addr} {o : HO} (s : Same H H') (n : H a = none) : Same H (upd H' a o) := fun b x e => by
  rw [upd_ne (fun z => by rw [z, n] at e; cases e)]
  exact s b x e
section
variable {P : Program} {w : World} {K : PySem.W.Frag} {mg : Str → Option Value} {base : Heap}
theorem sc_P_piece : FnScope ["self", "low", "high", "first", "last", "line", "index", "start", "end", "x", "y", "d", "ax", "ay", "bx", "by", "_"] ["self", "low", "high"] (defScope sP_piece) := ⟨rfl, rfl, rfl, by decide +kernel, rfl, by decide +kernel, by decide +kernel⟩
theorem ok_piece (T : Tx K mg) (O_m_total : OkM P w K mg base 1 (He.ga K "Path") "total" ["self"] (spTotal K)) (O_m_on_leg : OkM P w K mg base 2 (He.ga K "Path") "_on_leg" ["self", "index", "progress"] (spOnLeg K))
    (O_m_place : OkM P w K mg base 3 (He.ga K "Path") "place" ["self", "progress"] (spPlace K)) : OkM P w K mg base 4 (He.ga K "Path") "piece" ["self", "low", "high"] (spPiece K) := by
  obtain ⟨fd, F⟩ := T.fm_piece
  refine ⟨_, fd, okD F sc_P_piece (fun vs H Q E h => ?_) (fun cdv A outer s H vs Q E hr h => ?_), T.m_piece, F.bindsN fun _ _ _ _ _ _ us hl => match us, hl with | [_, _, _], _ => rfl⟩
  · obtain ⟨_, _, _, _, _, _, rfl, _⟩ := h
    rfl
  · obtain ⟨a, u, pts, bg, lo, hi, rfl, h, c, c1, c2, c3, c4, q⟩ := h
    have hcl := T.cl
    refine ⟨_, (pss_cons (ps_if (PW.pt (pw_or (pt_cmpR op_lt (pv 2) pe_int (nomark _)) (pw_or1 (pt_cmpR op_ge (pv 1) (pe_mth0 O_m_total hcl hr (pv 0)) (nomark _))))) (pss_one (ps_ret (pe_lst pa_nil))) pss_nil)
  (pss_cons (ps_set (i := 3) sc_P_piece.nd rfl (Or.inl rfl) (pe_callB (call_max2 rfl) (by rfl) T.max (by decide +kernel) (pa_cons (pv 1) (pa_cons pe_int pa_nil))))
  (pss_cons (ps_set (i := 4) sc_P_piece.nd rfl (Or.inl rfl) (pe_callB (call_min2 rfl) (by rfl) T.min (by decide +kernel) (pa_cons (pv 2) (pa_cons (pe_mth0 O_m_total hcl hr (pv 0)) pa_nil))))
  (pss_cons (ps_if (pt_cmpR op_eq (pv 3) (pv 4) (nomark _)) (pss_cons (ps_asg (pe_mth O_m_place hcl hr (pv 0) (pa_cons (pv 3) pa_nil)) (pg_tup rfl (pgs_cons (pg_name (i := 9) sc_P_piece.nd rfl (Or.inl rfl)) (pgs_cons (pg_name (i := 10) sc_P_piece.nd rfl (Or.inl rfl)) (pgs_cons (pg_name (i := 11) sc_P_piece.nd rfl (Or.inl rfl)) pgs_nil)))))
  (pss_one (ps_ret (pe_lst (pa_cons (pe_tup (pa_cons (pv 9) (pa_cons (pv 10) (pa_cons (pv 9) (pa_cons (pv 10) (pa_cons (pv 11) pa_nil)))))) pa_nil))))) pss_nil)
  (pss_cons (ps_set (i := 5) sc_P_piece.nd rfl (Or.inl rfl) (pe_lst pa_nil))
  (pss_cons (ps_for PassesOwn.never rfl (pi_range1 rfl T.range (pa_cons (pe_callB call_len_seq (by rfl) T.len (by decide +kernel) (pa_cons (pe_fld (pv 0) rfl) pa_nil)) pa_nil)) (pg_name (i := 6) sc_P_piece.nd rfl (Or.inl rfl)) (pss_cons (ps_set (i := 7) sc_P_piece.nd rfl (Or.inl rfl) (pe_callB (call_max2 rfl) (by rfl) T.max (by decide +kernel) (pa_cons (pv 3) (pa_cons (pe_ix ix_list (pe_fld (pv 0) rfl) (pv 6) (fun _ _ => rfl)) pa_nil))))
  (pss_cons (ps_set (i := 8) sc_P_piece.nd rfl (Or.inl rfl) (pe_callB (call_min2 rfl) (by rfl) T.min (by decide +kernel) (pa_cons (pv 4) (pa_cons (pe_ix ix_list (pe_fld (pv 0) rfl) (pe_op op_add (pv 6) pe_int) (fun _ _ => rfl)) pa_nil))))
  (pss_one (ps_if (pt_cmpR op_lt (pv 7) (pv 8) (nomark _)) (pss_cons (ps_asg (pe_mth O_m_on_leg hcl hr (pv 0) (pa_cons (pv 6) (pa_cons (pv 7) pa_nil))) (pg_tup rfl (pgs_cons (pg_name (i := 12) sc_P_piece.nd rfl (Or.inl rfl)) (pgs_cons (pg_name (i := 13) sc_P_piece.nd rfl (Or.inl rfl)) (pgs_cons (pg_name (i := 11) sc_P_piece.nd rfl (Or.inl rfl)) pgs_nil)))))
  (pss_cons (ps_asg (pe_mth O_m_on_leg hcl hr (pv 0) (pa_cons (pv 6) (pa_cons (pv 8) pa_nil))) (pg_tup rfl (pgs_cons (pg_name (i := 14) sc_P_piece.nd rfl (Or.inl rfl)) (pgs_cons (pg_name (i := 15) sc_P_piece.nd rfl (Or.inl rfl)) (pgs_cons (pg_name (i := 16) sc_P_piece.nd rfl (Or.inl rfl)) pgs_nil)))))
  (pss_one (ps_expr (pe_bm PySem.F.plainAttrs_list PySem.F.slot_list_append PySem.F.type_list_append mt_append (pv 5) (pa_cons (pe_tup (pa_cons (pv 12) (pa_cons (pv 13) (pa_cons (pv 14) (pa_cons (pv 15) (pa_cons (pv 11) pa_nil)))))) pa_nil)))))) pss_nil)))))
  (pss_one (ps_ret (pv 5))))))))), ?_⟩
    refine ⟨_, rfl, _, _, rfl, rfl, _, rfl, ?_⟩
    rw [decide_eq_false (by omega : ¬ hi < 0)]
    refine iteF ⟨_, rfl, _, rfl, a, _, _, rfl, h.ins, rfl, a, u, pts, bg, rfl, h, _, _, rfl, rfl, _, rfl, ?_⟩
    rw [decide_eq_false (by omega : ¬ tot bg ≤ lo)]
    refine iteF ?_
    refine ⟨_, rfl, _, _, rfl, ?_⟩
    rw [max_if]
    refine ⟨_, rfl, _, rfl, a, _, _, rfl, h.ins, rfl, a, u, pts, bg, rfl, h, _, _, rfl, ?_⟩
    rw [min_if]
    refine ⟨_, rfl, _, rfl, rfl, _, rfl, ?_⟩
    have f1 : fiO lo = max lo 0 := rfl
    have f2 : laO bg hi = min hi (K16.tot bg) := rfl
    refine ite2 (fun hc => ?_) fun hc => ?_
    · have hc : fiO lo = laO bg hi := V.int.inj (of_decide_eq_true hc)
      refine ⟨_, rfl, a, _, _, rfl, h.ins, rfl, _, rfl, a, u, pts, bg, fiO lo, rfl, h, fun k H1 r hk hj hl s1 e1 => ?_⟩
      refine ⟨_, _, rfl, SqT.of e1, rfl, _, _, rfl, _, _, rfl, _, _, rfl, rfl, ?_⟩
      obtain ⟨g1, g2⟩ := c.found (p := fiO lo) (by omega) (by omega) hk hj hl
      refine ⟨_, rfl, _, rfl, _, rfl, _, rfl, _, rfl, by show 5 ≤ sizeLine; decide, fun t ht => ?_⟩
      refine ⟨by show 1 ≤ sizeLine; decide, fun l hl2 => ?_⟩
      have s2 := same_upd (o := .tup (sg (segAt pts bg k (fiO lo) (fiO lo)))) ht
      have s3 := same_upd (o := .lst [V.ref t]) hl2
      exact q _ l _ [t] (s1.trans (s2.trans s3)) ⟨upd_same, rfl, by show 1 ≤ 64; decide, fun i k' hk' => by
        match i, hk' with
        | 0, hk' => exact ⟨_, rfl, c.sb hk g1 (by omega) g1 (by omega) (by omega), by cases hk'; exact s3 _ _ upd_same⟩
        | i + 1, hk' => cases hk'⟩ (c.one hc hk g1 g2)
    · have hc : fiO lo ≠ laO bg hi := fun z => hc (decide_eq_true (congrArg V.int z))
      refine ⟨by show 0 ≤ sizeLine; decide, fun l hl => ?_⟩
      have s0 := same_upd (o := .lst []) hl
      have h2 := h.same s0
      have nl := h.nl
      have n8 := c.n8
      refine ⟨_, rfl, a, _, _, _, _, rfl, h2.ins, T.cl, T.no_legs, rfl, _, _, rfl, .inl (SqL.of h2.legs), _, rfl, by omega, by omega, ?_⟩
      refine for_range (n := u.ls.length) (fun i σ H' => (∃ x6 x7 x8 x9 x10 x11 x12 x13 x14 x15 x16 : Option V, σ = [some (.ref a), some (.int lo), some (.int hi), some (.int (fiO lo)), some (.int (laO bg hi)), some (.ref l), x6, x7, x8, x9, x10, x11, x12, x13, x14, x15, x16]) ∧
        ∃ ss as, Same H H' ∧ SegL H' l ss as ∧ ss.length ≤ i ∧ ∀ j, j < i → max (fiO lo) (gB bg j) < min (laO bg hi) (gB bg (j + 1)) → segAt pts bg j (max (fiO lo) (gB bg j)) (min (laO bg hi) (gB bg (j + 1))) ∈ ss)
        ⟨⟨_, _, _, _, _, _, _, _, _, _, _, rfl⟩, [], [], s0, SegL.nil upd_same, Nat.le_refl _, fun j hj => absurd hj (Nat.not_lt_zero _)⟩ (fun i σ H1 hi2 hP => ?_) (fun σ H1 hP => ?_)
      · obtain ⟨⟨x6, x7, x8, x9, x10, x11, x12, x13, x14, x15, x16, rfl⟩, ss, as, s1, hS, hz, hm⟩ := hP
        rw [Int.zero_add]
        have h1 := h.same s1
        have hi3 : i + 1 < pts.length := by omega
        refine ⟨_, rfl, _, rfl, a, _, _, _, _, rfl, h1.ins, T.cl, T.no_begins, rfl, _, rfl, _, _, _, _, rfl, rfl, SqL.of h1.beg, h1.gb (i := i) (by omega), _, _, rfl, ?_⟩
        rw [max_if]
        refine ⟨_, rfl, _, rfl, a, _, _, _, _, rfl, h1.ins, T.cl, T.no_begins, rfl, _, rfl, _, _, rfl, rfl, _, _, _, _, rfl, rfl, SqL.of h1.beg, h1.gb (i := i + 1) hi3, _, _, rfl, ?_⟩
        rw [min_if]
        refine ⟨_, rfl, _, rfl, _, _, rfl, rfl, _, rfl, ite2 (fun ht => ?_) fun ht => ?_⟩
        · have ht := of_decide_eq_true ht
          generalize hb : max (fiO lo) (gB bg i) = b at *
          generalize hd : min (laO bg hi) (gB bg (i + 1)) = d at *
          refine ⟨_, rfl, a, _, _, rfl, h1.ins, rfl, _, rfl, _, rfl, a, u, pts, bg, i, b, rfl, h1, hi3, fun H2 r2 s2 e2 => ?_⟩
          refine ⟨_, _, rfl, SqT.of e2, rfl, _, _, rfl, _, _, rfl, _, _, rfl, rfl, ?_⟩
          have h2 := h1.same s2
          refine ⟨_, rfl, a, _, _, rfl, h2.ins, rfl, _, rfl, _, rfl, a, u, pts, bg, i, d, rfl, h2, hi3, fun H3 r3 s3 e3 => ?_⟩
          refine ⟨_, _, rfl, SqT.of e3, rfl, _, _, rfl, _, _, rfl, _, _, rfl, rfl, ?_⟩
          have s4 := s2.trans s3
          have hS3 := hS.same s4
          have sb : SB (segAt pts bg i b d) := c.sb hi3 (by omega) (by omega) (by omega) (by omega) (by omega)
          refine ⟨_, rfl, .inl ⟨rfl, _, SqL.of hS3.lst⟩, _, rfl, _, rfl, _, rfl, _, rfl, _, rfl, by show 5 ≤ sizeLine; decide, fun t ht2 => ?_⟩
          have s5 := same_upd (o := .tup (sg (segAt pts bg i b d))) ht2
          have hS4 := hS3.same s5
          refine ⟨l, _, _, rfl, rfl, hS4.lst, ?_, ?_⟩
          · rw [List.length_map, hS4.len]
            exact Nat.lt_of_le_of_lt hz (Nat.lt_trans hi2 (small1000 (by omega)))
          · refine ⟨⟨_, _, _, _, _, _, _, _, _, _, _, rfl⟩, ss ++ [segAt pts bg i b d], as ++ [t], ?_, hS4.more (by omega) sb upd_same rfl, ?_, fun j hj hjj => ?_⟩
            · exact same_upd_new ((s1.trans s4).trans s5) hl
            · rw [List.length_append]
              show ss.length + 1 ≤ i + 1
              omega
            · by_cases ej : j = i
              · subst ej
                rw [hb, hd]
                exact List.mem_append_right _ (List.mem_singleton.mpr rfl)
              · exact List.mem_append_left _ (hm j (by omega) hjj)
        · refine ⟨⟨_, _, _, _, _, _, _, _, _, _, _, rfl⟩, ss, as, s1, hS, by omega, fun j hj hjj => ?_⟩
          by_cases ej : j = i
          · subst ej
            exact absurd (decide_eq_true hjj) ht
          · exact hm j (by omega) hjj
      · obtain ⟨⟨x6, x7, x8, x9, x10, x11, x12, x13, x14, x15, x16, rfl⟩, ss, as, s1, hS, hz, hm⟩ := hP
        exact ⟨_, rfl, q H1 l ss as s1 hS (c.many hc fun i hi2 hz2 => hm i (by omega) hz2)⟩
end
end K16
set_option maxHeartbeats 4000000
namespace K16
open PySem PySem.Spec PyProof.Rows L2
open GxR (TabG Tabbed)
open Geo (Pt)
/-- the rules, as far as they are read -/
structure RuAt (H : Hp) (a : Addr) (kvs : List (Key × V)) (la ve ra ba : Int) : Prop where
  dk : H a = some (.dK kvs)
  la : valV kvs (.inr "lateral") = some (.int la)
  ve : valV kvs (.inr "vertical") = some (.int ve)
  ra : valV kvs (.inr "radius") = some (.int ra)
  ba : valV kvs (.inr "band") = some (.int ba)
theorem dget_of {H : Hp} {a : Addr} {kvs : List (Key × V)} {x : Str} {v : V} (h : H a = some (.dK kvs)) (e : valV kvs (.inr x) = some v) : DGet H a (.str x) (some v) := by
  rw [← e]
  exact DGet.k (k := .inr x) h
abbrev bx (b0 b1 b2 b3 : Int) : List V := [.int b0, .int b1, .int b2, .int b3]
/-- the boxes' heights lie apart -/
def aboveP (ve ba b2 b3 o2 o3 : Int) : Prop := ve + 2 * ba ≤ max (b2 - o3) (o2 - b3)
instance {ve ba b2 b3 o2 o3 : Int} : Decidable (aboveP ve ba b2 b3 o2 o3) := Int.decLe ..
def spAbove : Sp := fun vs H Q _ => ∃ (r a b : Addr) (kvs : List (Key × V)) (la ve ra ba b0 b1 b2 b3 o0 o1 o2 o3 : Int), vs = [.ref r, .ref a, .ref b] ∧ RuAt H r kvs la ve ra ba ∧ H a = some (.tup (bx b0 b1 b2 b3)) ∧ H b = some (.tup (bx o0 o1 o2 o3)) ∧
  Q (.bl (decide (aboveP ve ba b2 b3 o2 o3))) H
def spSep (K : PySem.W.Frag) : Sp := fun vs H Q _ => ∃ (r pa a pb b : Addr) (kvs : List (Key × V)) (la ve ra ba b0 b1 b2 b3 o0 o1 o2 o3 : Int) (u1 u2 : Pa) (pts1 pts2 : List Pt) (bg1 bg2 : List Int),
  vs = [.ref r, .ref pa, .ref a, .ref pb, .ref b] ∧ RuAt H r kvs la ve ra ba ∧ 0 < la ∧ la ≤ 64 ∧ 0 ≤ ra ∧ ra ≤ 4 ∧ H a = some (.tup (bx b0 b1 b2 b3)) ∧ H b = some (.tup (bx o0 o1 o2 o3)) ∧ PathAt K H pa u1 pts1 bg1 ∧ Chain pts1 bg1 ∧ PathAt K H pb u2 pts2 bg2 ∧ Chain pts2 bg2 ∧
  b0 ≤ b1 ∧ 0 ≤ b1 ∧ b0 < tot bg1 ∧ 0 < tot bg1 ∧ o0 ≤ o1 ∧ 0 ≤ o1 ∧ o0 < tot bg2 ∧ 0 < tot bg2 ∧ Tb K H ∧
  ∀ H' (b : Bool), EvT (tbs K) H H' → (b = true → aboveP ve ba b2 b3 o2 o3 ∨ ∃ ss tt : List Seg5, PieceOk pts1 bg1 b0 b1 ss ∧ PieceOk pts2 bg2 o0 o1 tt ∧ (∀ s ∈ ss, SB s) ∧ (∀ s ∈ tt, SB s) ∧ (ss.any fun s => tt.any fun t => closerB s t (la + 2 * ra)) = false) → Q (.bl b) H'
theorem SegL.sb {H : Hp} {a : Addr} {ss : List Seg5} {as : List Addr} (h : SegL H a ss as) : ∀ s ∈ ss, SB s := fun s hs => by
  obtain ⟨i, hi, e⟩ := List.getElem_of_mem hs
  obtain ⟨s', h1, h2, _⟩ := h.at_ i (as[i]'(by rw [h.len]; exact hi)) (List.getElem?_eq_getElem _)
  rw [List.getElem?_eq_getElem hi, e] at h1
  rw [Option.some.inj h1]
  exact h2
section
variable {P : Program} {w : World} {K : PySem.W.Frag} {mg : Str → Option Value} {base : Heap}
theorem sc_are_above : FnScope ["rules", "box", "other_box", "gap"] ["rules", "box", "other_box"] (defScope s_are_above) := ⟨rfl, rfl, rfl, by decide +kernel, rfl, by decide +kernel, by decide +kernel⟩
theorem ok_are_above (T : Tx K mg) : OkF P w K mg base 1 "are_above" ["rules", "box", "other_box"] spAbove := by
  obtain ⟨fd, F⟩ := T.f_are_above
  refine ⟨_, fd, okD F sc_are_above (fun vs H Q E h => ?_) (fun cdv A outer s H vs Q E hr h => ?_), T.g_are_above, F.kp, F.bindsN fun _ _ _ _ _ _ us hl => match us, hl with | [_, _, _], _ => rfl⟩
  · obtain ⟨_, _, _, _, _, _, _, _, _, _, _, _, _, _, _, _, rfl, _⟩ := h
    rfl
  · obtain ⟨r, a, b, kvs, la, ve, ra, ba, b0, b1, b2, b3, o0, o1, o2, o3, rfl, hR, ha, hb, q⟩ := h
    have hu := hu_of hr
    refine ⟨_, (pss_cons (ps_set (i := 3) sc_are_above.nd rfl (Or.inl rfl) (pe_callB (call_max2 rfl) (by rfl) T.max (by decide +kernel) (pa_cons (pe_op op_sub (pe_ix ix_tup (pv 1) pe_int (fun _ _ => rfl)) (pe_ix ix_tup (pv 2) pe_int (fun _ _ => rfl))) (pa_cons (pe_op op_sub (pe_ix ix_tup (pv 2) pe_int (fun _ _ => rfl)) (pe_ix ix_tup (pv 1) pe_int (fun _ _ => rfl))) pa_nil))))
  (pss_one (ps_ret (pe_cmpR op_ge (pv 3) (pe_op op_add (pe_dget hu (pv 0) pe_str (fun _ _ => rfl)) (pe_op op_mul pe_int (pe_dget hu (pv 0) pe_str (fun _ _ => rfl)))) (nomark _))))), ?_⟩
    refine ⟨_, rfl, _, _, 2, _, rfl, rfl, SqT.of ha, rfl, _, rfl, _, _, 3, _, rfl, rfl, SqT.of hb, rfl, _, _, rfl, rfl, _, rfl, _, _, 2, _, rfl, rfl, SqT.of hb, rfl, _, rfl, _, _, 3, _, rfl, rfl, SqT.of ha, rfl, _, _, rfl, rfl, _, _, rfl, ?_⟩
    rw [max_if]
    refine ⟨_, rfl, _, rfl, r, _, rfl, dget_of hR.dk hR.ve, _, rfl, r, _, rfl, dget_of hR.dk hR.ba, _, _, rfl, rfl, .inl ⟨by omega, by omega⟩, _, _, rfl, rfl, _, _, rfl, rfl, q⟩
theorem sc_separated : FnScope ["rules", "path", "box", "other_path", "other_box", "piece", "other_piece"] ["rules", "path", "box", "other_path", "other_box"] (defScope s_separated) := ⟨rfl, rfl, rfl, by decide +kernel, rfl, by decide +kernel, by decide +kernel⟩
theorem ok_separated (T : Tx K mg) (O_are_above : OkF P w K mg base 1 "are_above" ["rules", "box", "other_box"] spAbove) (O_m_piece : OkM P w K mg base 4 (He.ga K "Path") "piece" ["self", "low", "high"] (spPiece K))
    (O_lines_closer : OkF P w K mg base 6 "lines_closer" ["first", "second", "limit"] (spLines K)) : OkF P w K mg base 7 "separated" ["rules", "path", "box", "other_path", "other_box"] (spSep K) := by
  obtain ⟨fd, F⟩ := T.f_separated
  refine ⟨_, fd, okD F sc_separated (fun vs H Q E h => ?_) (fun cdv A outer s H vs Q E hr h => ?_), T.g_separated, F.kp, F.bindsN fun _ _ _ _ _ _ us hl => match us, hl with | [_, _, _, _, _], _ => rfl⟩
  · obtain ⟨_, _, _, _, _, _, _, _, _, _, _, _, _, _, _, _, _, _, _, _, _, _, _, _, rfl, _⟩ := h
    rfl
  · obtain ⟨r, pa, a, pb, b, kvs, la, ve, ra, ba, b0, b1, b2, b3, o0, o1, o2, o3, u1, u2, pts1, pts2, bg1, bg2, rfl, hR, l0, l1, r0, r1, ha, hb, p1, k1, p2, k2, c1, c2, c3, c4, c5, c6, c7, c8, tb, q⟩ := h
    have hu := hu_of hr
    have hcl := T.cl
    refine ⟨_, (pss_cons (ps_if (pt_val (pe_fn O_are_above hr rfl (pa_cons (pv 0) (pa_cons (pv 2) (pa_cons (pv 4) pa_nil))))) (pss_one (ps_ret pe_bl)) pss_nil)
  (pss_cons (ps_set (i := 5) sc_separated.nd rfl (Or.inl rfl) (pe_mth O_m_piece hcl hr (pv 1) (pa_cons (pe_ix ix_tup (pv 2) pe_int (fun _ _ => rfl)) (pa_cons (pe_ix ix_tup (pv 2) pe_int (fun _ _ => rfl)) pa_nil))))
  (pss_cons (ps_set (i := 6) sc_separated.nd rfl (Or.inl rfl) (pe_mth O_m_piece hcl hr (pv 3) (pa_cons (pe_ix ix_tup (pv 4) pe_int (fun _ _ => rfl)) (pa_cons (pe_ix ix_tup (pv 4) pe_int (fun _ _ => rfl)) pa_nil))))
  (pss_one (ps_ret (pe_not (pe_fn O_lines_closer hr rfl (pa_cons (pv 5) (pa_cons (pv 6) (pa_cons (pe_op op_add (pe_dget hu (pv 0) pe_str (fun _ _ => rfl)) (pe_op op_mul pe_int (pe_dget hu (pv 0) pe_str (fun _ _ => rfl)))) pa_nil)))))))))), ?_⟩
    refine ⟨_, rfl, _, rfl, _, rfl, r, a, b, kvs, la, ve, ra, ba, b0, b1, b2, b3, o0, o1, o2, o3, rfl, hR, ha, hb, _, rfl, ite2 (fun hc => ?_) fun hc => ?_⟩
    · exact q H true (EvT.refl _ _) fun _ => .inl (of_decide_eq_true hc)
    · refine ⟨_, rfl, pa, _, _, rfl, p1.ins, rfl, _, rfl, _, _, 0, _, rfl, rfl, SqT.of ha, rfl, _, rfl, _, _, 1, _, rfl, rfl, SqT.of ha, rfl, pa, u1, pts1, bg1, b0, b1, rfl, p1, k1, c1, c2, c3, c4, fun H1 x1 ss as s1 g1 g2 => ?_⟩
      have p2' := p2.same s1
      have hb' := s1 _ _ hb
      refine ⟨_, rfl, pb, _, _, rfl, p2'.ins, rfl, _, rfl, _, _, 0, _, rfl, rfl, SqT.of hb', rfl, _, rfl, _, _, 1, _, rfl, rfl, SqT.of hb', rfl, pb, u2, pts2, bg2, o0, o1, rfl, p2', k2, c5, c6, c7, c8, fun H2 x2 tt bs s2 f1 f2 => ?_⟩
      have s12 := s1.trans s2
      have hR2 := s12 _ _ hR.dk
      refine ⟨_, rfl, _, rfl, _, rfl, r, _, rfl, dget_of hR2 hR.la, _, rfl, r, _, rfl, dget_of hR2 hR.ra, _, _, rfl, rfl, .inl ⟨by omega, by omega⟩, _, _, rfl, rfl, ?_⟩
      refine ⟨x1, x2, ss, tt, as, bs, la + 2 * ra, rfl, g1.same s2, f1, by omega, by omega, tb.ev (EvT.of s12), fun H3 e3 => ?_⟩
      refine ⟨_, rfl, q H3 _ ((EvT.of s12).trans e3) fun hz => .inr ⟨ss, tt, g2, f2, g1.sb, f1.sb, ?_⟩⟩
      cases hx : (ss.any fun s => tt.any fun t => closerB s t (la + 2 * ra)) with
      | false => rfl
      | true =>
        rw [hx] at hz
        cases hz
end
end K16
set_option maxHeartbeats 4000000
namespace K16
open PySem PySem.Spec PyProof.Rows L2
open GxR (TabG Tabbed)
/-! ### the state of the draws -/
abbrev stK (c : Addr) (at_ left mix : Int) : List (Key × V) := [(.inr "cells", .ref c), (.inr "at", .int at_), (.inr "left", .int left), (.inr "mix", .int mix)]
/-- the state dict at sd -/
def StOk (H : Hp) (sd : Addr) : Prop := ∃ (c : Addr) (cells : List Int) (at_ left mix : Int), H sd = some (.dK (stK c at_ left mix)) ∧ H c = some (.lst (cells.map V.int)) ∧ 0 ≤ at_
theorem Ev.put {ts : List Addr} {sd : Addr} {H : Hp} {c : Addr} {a l m a' l' m' : Int} (h : H sd = some (.dK (stK c a l m))) : Ev ts sd H (upd H sd (.dK (stK c a' l' m'))) where
  keep := fun a o e n m => by
    have z : a ≠ sd := fun z => by
      rw [z, h] at e
      rcases n with n | n
      · exact n _ (Option.some.inj e).symm
      · exact n z
    rw [upd_ne z]
    exact e
  tab := fun P _ ⟨ps, e, t⟩ => ⟨ps, by rw [upd_ne (fun z => by rw [z, h] at e; cases e)]; exact e, t⟩
  free := fun a e => by
    by_cases z : a = sd
    · rw [z, upd_same] at e
      cases e
    · rw [upd_ne z] at e
      exact e
  cel := fun c1 kvs1 h1 e1 => by
    rw [h] at h1
    cases h1
    exact ⟨_, upd_same, e1⟩
theorem put_at {c : Addr} {a l m a' : Int} : putK (stK c a l m) (.inr "at") (.int a') = stK c a' l m := rfl
theorem put_left {c : Addr} {a l m l' : Int} : putK (stK c a l m) (.inr "left") (.int l') = stK c a l' m := rfl
theorem put_mix {c : Addr} {a l m m' : Int} : putK (stK c a l m) (.inr "mix") (.int m') = stK c a l m' := rfl
theorem g_cells {H : Hp} {sd c : Addr} {a l m : Int} (h : H sd = some (.dK (stK c a l m))) : DGet H sd (.str "cells") (some (.ref c)) := dget_of h rfl
theorem g_at {H : Hp} {sd c : Addr} {a l m : Int} (h : H sd = some (.dK (stK c a l m))) : DGet H sd (.str "at") (some (.int a)) := dget_of h rfl
theorem g_left {H : Hp} {sd c : Addr} {a l m : Int} (h : H sd = some (.dK (stK c a l m))) : DGet H sd (.str "left") (some (.int l)) := dget_of h rfl
theorem g_mix {H : Hp} {sd c : Addr} {a l m : Int} (h : H sd = some (.dK (stK c a l m))) : DGet H sd (.str "mix") (some (.int m)) := dget_of h rfl
theorem p_at {H : Hp} {sd c : Addr} {a l m a' : Int} (h : H sd = some (.dK (stK c a l m))) : DPut H sd (.str "at") (.int a') (upd H sd (.dK (stK c a' l m))) := DPut.k (k := .inr "at") h (by show 4 < sizeLine; decide)
theorem p_left {H : Hp} {sd c : Addr} {a l m a' : Int} (h : H sd = some (.dK (stK c a l m))) : DPut H sd (.str "left") (.int a') (upd H sd (.dK (stK c a a' m))) := DPut.k (k := .inr "left") h (by show 4 < sizeLine; decide)
theorem p_mix {H : Hp} {sd c : Addr} {a l m a' : Int} (h : H sd = some (.dK (stK c a l m))) : DPut H sd (.str "mix") (.int a') (upd H sd (.dK (stK c a l a'))) := DPut.k (k := .inr "mix") h (by show 4 < sizeLine; decide)
theorem nzA : (2147483647 : Int) ≠ 0 := by decide
theorem nzB : (2147483629 : Int) ≠ 0 := by decide
theorem fmod_bd (a : Int) {b : Int} (h : 0 < b) : 0 ≤ a.fmod b ∧ a.fmod b < b := ⟨Int.fmod_nonneg_of_pos a h, Int.fmod_lt_of_pos a h⟩
/-- a new draw: the state may go on -/
def spDraw (K : PySem.W.Frag) : Sp := fun vs H Q _ => ∃ (sd : Addr) (b : Int), vs = [.ref sd, .int b] ∧ StOk H sd ∧ 0 < b ∧ b < 1073741824 ∧ ∀ H' r, StOk H' sd → Ev (tbs K) sd H H' → 0 ≤ r → r < b → Q (.int r) H'
/-- one of the things -/
def spPick (K : PySem.W.Frag) : Sp := fun vs H Q _ => ∃ (sd l : Addr) (xs : List V), vs = [.ref sd, .ref l] ∧ StOk H sd ∧ H l = some (.lst xs) ∧ xs ≠ [] ∧ xs.length < 1073741824 ∧ ∀ H' x, StOk H' sd → Ev (tbs K) sd H H' → x ∈ xs → Q x H'
section
variable {P : Program} {w : World} {K : PySem.W.Frag} {mg : Str → Option Value} {base : Heap}
theorem sc_l_draw : FnScope ["_law_state", "_law_bound", "_law_cell", "_law_number"] ["_law_state", "_law_bound"] (defScope s_law_draw) := ⟨rfl, rfl, rfl, by decide +kernel, rfl, by decide +kernel, by decide +kernel⟩
theorem ok_draw (T : Tx K mg) : OkF P w K mg base 1 "_law_draw" ["_law_state", "_law_bound"] (spDraw K) := by
  obtain ⟨fd, F⟩ := T.f_l_draw
  refine ⟨_, fd, okD F sc_l_draw (fun vs H Q E h => ?_) (fun cdv A outer s H vs Q E hr h => ?_), T.g_l_draw, F.kp, F.bindsN fun _ _ _ _ _ _ us hl => match us, hl with | [_, _], _ => rfl⟩
  · obtain ⟨_, _, rfl, _⟩ := h
    rfl
  · obtain ⟨sd, b, rfl, ⟨c, cells, at_, left, mix, h1, h2, h3⟩, b0, b1, q⟩ := h
    have hu := hu_of hr
    have nsc : c ≠ sd := fun z => by rw [z, h1] at h2; cases h2
    refine ⟨_, (pss_cons (ps_if (PW.pt (pw_and (pt_cmpR op_eq (pe_dget hu (pv 0) pe_str (fun _ _ => rfl)) pe_int (nomark _)) (pw_and1 (pt_cmpR op_lt (pe_dget hu (pv 0) pe_str (fun _ _ => rfl)) (pe_callB call_len_seq (by rfl) T.len (by decide +kernel) (pa_cons (pe_dget hu (pv 0) pe_str (fun _ _ => rfl)) pa_nil)) (nomark _))))) (pss_cons (ps_set (i := 2) sc_l_draw.nd rfl (Or.inl rfl) (pe_ix ix_list (pe_dget hu (pv 0) pe_str (fun _ _ => rfl)) (pe_dget hu (pv 0) pe_str (fun _ _ => rfl)) (fun _ _ => rfl)))
  (pss_cons (ps_dput hu (pv 0) pe_str (pe_op op_add (pe_dget hu (pv 0) pe_str (fun _ _ => rfl)) pe_int) rfl)
  (pss_cons (ps_dput hu (pv 0) pe_str (pe_op op_modN (pe_callTy call_int1 (by rfl) T.int (by decide +kernel) (pa_cons (pe_op op_add (pe_op op_add (pe_op op_mul (pe_dget hu (pv 0) pe_str (fun _ _ => rfl)) pe_int) (pv 2)) pe_int) pa_nil)) pe_int) rfl)
  (pss_cons (ps_if (pt_cmpR op_lt (pv 2) (pe_op op_pow pe_int pe_int) (nomark _)) (pss_one (ps_ret (pe_op op_modN (pe_callTy call_int1 (by rfl) T.int (by decide +kernel) (pa_cons (pv 2) pa_nil)) (pv 1)))) pss_nil)
  (pss_one (ps_dput hu (pv 0) pe_str (pv 2) rfl)))))) pss_nil)
  (pss_cons (ps_if (pt_cmpR op_gt (pe_dget hu (pv 0) pe_str (fun _ _ => rfl)) pe_int (nomark _)) (pss_cons (ps_set (i := 3) sc_l_draw.nd rfl (Or.inl rfl) (pe_op op_modN (pe_callTy call_int1 (by rfl) T.int (by decide +kernel) (pa_cons (pe_dget hu (pv 0) pe_str (fun _ _ => rfl)) pa_nil)) (pv 1)))
  (pss_cons (ps_dput hu (pv 0) pe_str (pe_op op_fdivN (pe_dget hu (pv 0) pe_str (fun _ _ => rfl)) (pv 1)) rfl)
  (pss_one (ps_ret (pv 3))))) pss_nil)
  (pss_cons (ps_dput hu (pv 0) pe_str (pe_op op_modN (pe_callTy call_int1 (by rfl) T.int (by decide +kernel) (pa_cons (pe_op op_add (pe_op op_mul (pe_dget hu (pv 0) pe_str (fun _ _ => rfl)) pe_int) pe_int) pa_nil)) pe_int) rfl)
  (pss_one (ps_ret (pe_op op_modN (pe_callTy call_int1 (by rfl) T.int (by decide +kernel) (pa_cons (pe_op op_modN (pe_callTy call_int1 (by rfl) T.int (by decide +kernel) (pa_cons (pe_op op_add (pe_op op_mul (pe_dget hu (pv 0) pe_str (fun _ _ => rfl)) pe_int) pe_int) pa_nil)) pe_int) pa_nil)) (pv 1))))))), ?_⟩
    refine ⟨_, rfl, sd, _, rfl, g_left h1, rfl, _, rfl, ite2 (fun c1 => ?_) fun c1 => ?_⟩
    · refine ⟨_, rfl, sd, _, rfl, g_at h1, _, rfl, sd, _, rfl, g_cells h1, _, _, rfl, .inl (SqL.of h2), _, _, rfl, rfl, _, rfl, ite2 (fun c2 => ?_) fun c2 => ?_⟩
      · have c2 := of_decide_eq_true c2
        have hx : atI (cells.map V.int) at_ = some (.int (cells.getD at_.toNat 0)) := by
          have e : ((at_.toNat : Nat) : Int) = at_ := Int.toNat_of_nonneg h3
          have hl : at_.toNat < cells.length := by
            rw [List.length_map] at c2
            omega
          rw [← e]
          refine atI_nat ?_
          rw [List.getElem?_map, List.getElem?_eq_getElem hl, Int.toNat_natCast, List.getD_eq_getElem?_getD, List.getElem?_eq_getElem hl]
          rfl
        generalize cells.getD at_.toNat 0 = cell at hx
        refine ⟨_, rfl, sd, _, rfl, g_cells h1, _, rfl, sd, _, rfl, g_at h1, _, _, _, _, rfl, rfl, SqL.of h2, hx, ?_⟩
        refine ⟨_, rfl, sd, _, rfl, g_at h1, _, _, rfl, rfl, _, rfl, sd, _, rfl, p_at h1, ?_⟩
        have g1 : (upd H sd (.dK (stK c (at_ + 1) left mix))) sd = some (.dK (stK c (at_ + 1) left mix)) := upd_same
        have g2 : (upd H sd (.dK (stK c (at_ + 1) left mix))) c = some (.lst (cells.map V.int)) := by rw [upd_ne nsc]; exact h2
        have ev : Ev (tbs K) sd H (upd H sd (.dK (stK c (at_ + 1) left mix))) := Ev.put h1
        generalize upd H sd (.dK (stK c (at_ + 1) left mix)) = H1 at g1 g2 ev ⊢
        refine ⟨_, rfl, sd, _, rfl, g_mix g1, _, _, rfl, rfl, .inr ⟨by omega, by omega⟩, _, rfl, _, _, rfl, rfl, _, _, rfl, rfl, .inl ⟨_, rfl, _, _, rfl, rfl, nzA, _, rfl, sd, _, rfl, p_mix g1, ?_⟩⟩
        generalize (mix * 48271 + cell + 11).fmod 2147483647 = mix' at *
        have g1' : (upd H1 sd (.dK (stK c (at_ + 1) left mix'))) sd = some (.dK (stK c (at_ + 1) left mix')) := upd_same
        have g2' : (upd H1 sd (.dK (stK c (at_ + 1) left mix'))) c = some (.lst (cells.map V.int)) := by rw [upd_ne nsc]; exact g2
        have ev' : Ev (tbs K) sd H (upd H1 sd (.dK (stK c (at_ + 1) left mix'))) := ev.trans (Ev.put g1)
        generalize upd H1 sd (.dK (stK c (at_ + 1) left mix')) = H2 at g1' g2' ev' ⊢
        refine ⟨_, rfl, _, _, rfl, rfl, ⟨by decide, by decide, by decide⟩, _, _, rfl, rfl, _, rfl, ite2 (fun c3 => ?_) fun c3 => ?_⟩
        · refine ⟨_, rfl, .inl ⟨_, rfl, _, rfl, _, _, rfl, rfl, by omega, ?_⟩⟩
          exact q _ _ ⟨c, cells, _, _, _, g1', g2', by omega⟩ ev' (fmod_bd _ b0).1 (fmod_bd _ b0).2
        · refine ⟨_, rfl, _, rfl, sd, _, rfl, p_left g1', ?_⟩
          have g1 : (upd H2 sd (.dK (stK c (at_ + 1) cell mix'))) sd = some (.dK (stK c (at_ + 1) cell mix')) := upd_same
          have g2 : (upd H2 sd (.dK (stK c (at_ + 1) cell mix'))) c = some (.lst (cells.map V.int)) := by rw [upd_ne nsc]; exact g2'
          have ev : Ev (tbs K) sd H (upd H2 sd (.dK (stK c (at_ + 1) cell mix'))) := ev'.trans (Ev.put g1')
          have ga : 0 ≤ at_ + 1 := by omega
          generalize upd H2 sd (.dK (stK c (at_ + 1) cell mix')) = H1 at g1 g2 ev ⊢
          refine ⟨_, rfl, sd, _, rfl, g_left g1, _, _, rfl, rfl, _, rfl, ite2 (fun hg => ?_) fun hg => ?_⟩
          · refine ⟨_, rfl, sd, _, rfl, g_left g1, .inl ⟨_, rfl, _, rfl, _, _, rfl, rfl, by omega, ?_⟩⟩
            refine ⟨_, rfl, sd, _, rfl, g_left g1, _, rfl, _, _, rfl, rfl, ⟨by omega, by omega⟩, _, rfl, sd, _, rfl, p_left g1, ?_⟩
            exact ⟨_, rfl, q _ _ ⟨c, cells, _, _, _, upd_same, by rw [upd_ne nsc]; exact g2, ga⟩ (ev.trans (Ev.put g1)) (fmod_bd _ b0).1 (fmod_bd _ b0).2⟩
          · refine ⟨_, rfl, sd, _, rfl, g_mix g1, _, _, rfl, rfl, .inr ⟨by omega, by omega⟩, _, _, rfl, rfl, .inl ⟨_, rfl, _, _, rfl, rfl, nzA, _, rfl, sd, _, rfl, p_mix g1, ?_⟩⟩
            refine ⟨_, rfl, sd, _, rfl, g_mix upd_same, _, _, rfl, rfl, .inr ⟨by omega, by omega⟩, _, _, rfl, rfl, .inl ⟨_, rfl, _, _, rfl, rfl, nzB, .inl ⟨_, rfl, _, rfl, _, _, rfl, rfl, by omega, ?_⟩⟩⟩
            exact q _ _ ⟨c, cells, _, _, _, upd_same, by rw [upd_ne nsc]; exact g2, ga⟩ (ev.trans (Ev.put g1)) (fmod_bd _ b0).1 (fmod_bd _ b0).2
      · have g1 := h1
        have g2 := h2
        have ga := h3
        have ev := Ev.refl (tbs K) sd H
        refine ⟨_, rfl, sd, _, rfl, g_left g1, _, _, rfl, rfl, _, rfl, ite2 (fun hg => ?_) fun hg => ?_⟩
        · refine ⟨_, rfl, sd, _, rfl, g_left g1, .inl ⟨_, rfl, _, rfl, _, _, rfl, rfl, by omega, ?_⟩⟩
          refine ⟨_, rfl, sd, _, rfl, g_left g1, _, rfl, _, _, rfl, rfl, ⟨by omega, by omega⟩, _, rfl, sd, _, rfl, p_left g1, ?_⟩
          exact ⟨_, rfl, q _ _ ⟨c, cells, _, _, _, upd_same, by rw [upd_ne nsc]; exact g2, ga⟩ (ev.trans (Ev.put g1)) (fmod_bd _ b0).1 (fmod_bd _ b0).2⟩
        · refine ⟨_, rfl, sd, _, rfl, g_mix g1, _, _, rfl, rfl, .inr ⟨by omega, by omega⟩, _, _, rfl, rfl, .inl ⟨_, rfl, _, _, rfl, rfl, nzA, _, rfl, sd, _, rfl, p_mix g1, ?_⟩⟩
          refine ⟨_, rfl, sd, _, rfl, g_mix upd_same, _, _, rfl, rfl, .inr ⟨by omega, by omega⟩, _, _, rfl, rfl, .inl ⟨_, rfl, _, _, rfl, rfl, nzB, .inl ⟨_, rfl, _, rfl, _, _, rfl, rfl, by omega, ?_⟩⟩⟩
          exact q _ _ ⟨c, cells, _, _, _, upd_same, by rw [upd_ne nsc]; exact g2, ga⟩ (ev.trans (Ev.put g1)) (fmod_bd _ b0).1 (fmod_bd _ b0).2
    · have g1 := h1
      have g2 := h2
      have ga := h3
      have ev := Ev.refl (tbs K) sd H
      refine ⟨_, rfl, sd, _, rfl, g_left g1, _, _, rfl, rfl, _, rfl, ite2 (fun hg => ?_) fun hg => ?_⟩
      · refine ⟨_, rfl, sd, _, rfl, g_left g1, .inl ⟨_, rfl, _, rfl, _, _, rfl, rfl, by omega, ?_⟩⟩
        refine ⟨_, rfl, sd, _, rfl, g_left g1, _, rfl, _, _, rfl, rfl, ⟨by omega, by omega⟩, _, rfl, sd, _, rfl, p_left g1, ?_⟩
        exact ⟨_, rfl, q _ _ ⟨c, cells, _, _, _, upd_same, by rw [upd_ne nsc]; exact g2, ga⟩ (ev.trans (Ev.put g1)) (fmod_bd _ b0).1 (fmod_bd _ b0).2⟩
      · refine ⟨_, rfl, sd, _, rfl, g_mix g1, _, _, rfl, rfl, .inr ⟨by omega, by omega⟩, _, _, rfl, rfl, .inl ⟨_, rfl, _, _, rfl, rfl, nzA, _, rfl, sd, _, rfl, p_mix g1, ?_⟩⟩
        refine ⟨_, rfl, sd, _, rfl, g_mix upd_same, _, _, rfl, rfl, .inr ⟨by omega, by omega⟩, _, _, rfl, rfl, .inl ⟨_, rfl, _, _, rfl, rfl, nzB, .inl ⟨_, rfl, _, rfl, _, _, rfl, rfl, by omega, ?_⟩⟩⟩
        exact q _ _ ⟨c, cells, _, _, _, upd_same, by rw [upd_ne nsc]; exact g2, ga⟩ (ev.trans (Ev.put g1)) (fmod_bd _ b0).1 (fmod_bd _ b0).2
theorem sc_l_pick : FnScope ["_law_state", "_law_things"] ["_law_state", "_law_things"] (defScope s_law_pick) := ⟨rfl, rfl, rfl, by decide +kernel, rfl, by decide +kernel, by decide +kernel⟩
theorem ok_pick (T : Tx K mg) (O_l_draw : OkF P w K mg base 1 "_law_draw" ["_law_state", "_law_bound"] (spDraw K)) : OkF P w K mg base 2 "_law_pick" ["_law_state", "_law_things"] (spPick K) := by
  obtain ⟨fd, F⟩ := T.f_l_pick
  refine ⟨_, fd, okD F sc_l_pick (fun vs H Q E h => ?_) (fun cdv A outer s H vs Q E hr h => ?_), T.g_l_pick, F.kp, F.bindsN fun _ _ _ _ _ _ us hl => match us, hl with | [_, _], _ => rfl⟩
  · obtain ⟨_, _, _, rfl, _⟩ := h
    rfl
  · obtain ⟨sd, l, xs, rfl, hs, hl, hne, hlen, q⟩ := h
    refine ⟨_, (pss_one (ps_ret (pe_ix ix_list (pv 1) (pe_fn O_l_draw hr rfl (pa_cons (pv 0) (pa_cons (pe_callB call_len_seq (by rfl) T.len (by decide +kernel) (pa_cons (pv 1) pa_nil)) pa_nil))) (fun _ _ => rfl)))), ?_⟩
    have pos : 0 < xs.length := List.length_pos_iff.mpr hne
    refine ⟨_, rfl, _, rfl, _, rfl, _, _, rfl, .inl (SqL.of hl), sd, _, rfl, hs, by omega, by omega, fun H1 r hs1 e1 r0 r1 => ?_⟩
    have ht : r.toNat < xs.length := by omega
    have hx : atI xs r = some xs[r.toNat] := by
      have e : ((r.toNat : Nat) : Int) = r := Int.toNat_of_nonneg r0
      have z := atI_nat (List.getElem?_eq_getElem ht)
      rw [e] at z
      exact z
    exact ⟨_, _, _, _, rfl, rfl, SqL.of (e1.lst hl), hx, q H1 _ hs1 e1 (List.getElem_mem ht)⟩
/-- the script's ints; the state is new -/
def spStart (K : PySem.W.Frag) : Sp := fun vs H Q _ => ∃ (a : Addr) (ns : List Int), vs = [.ref a] ∧ SqL K H a (ns.map V.int) ∧ ns.length ≤ 1000 ∧ ∀ H' sd, Same H H' → StOk H' sd → H sd = none → Q (.ref sd) H'
theorem sc_l_start : FnScope ["_law_script", "_law_cell"] ["_law_script"] (defScope s_law_start) := ⟨rfl, rfl, rfl, by decide +kernel, rfl, by decide +kernel, by decide +kernel⟩
theorem ok_start (T : Tx K mg) : OkF P w K mg base 1 "_law_start" ["_law_script"] (spStart K) := by
  obtain ⟨fd, F⟩ := T.f_l_start
  refine ⟨_, fd, okD F sc_l_start (fun vs H Q E h => ?_) (fun cdv A outer s H vs Q E hr h => ?_), T.g_l_start, F.kp, F.bindsN fun _ _ _ _ _ _ us hl => match us, hl with | [_], _ => rfl⟩
  · obtain ⟨_, _, rfl, _⟩ := h
    rfl
  · obtain ⟨a, ns, rfl, hl, hlen, q⟩ := h
    refine ⟨_, (pss_one (ps_ret (pe_disp (pps_cons pe_str (pe_lc (own := [("_law_cell", 1)]) (g := gName 1) (tt := tYes) rfl sc_l_start.nd (pi_list (pv 0)) (blkOk_by (own := [("_law_cell", 1)]) (N := ["_law_script", "_law_cell"]) (sc := defScope s_law_start) (by decide +kernel)) (fun _ _ _ _ _ => (pg_name (i := 1) sc_l_start.nd rfl (Or.inl rfl))) (fun _ _ _ _ _ => pts_nil) (fun _ _ _ _ _ => (pe_callB call_abs (by rfl) T.abs (by decide +kernel) (pa_cons (pe_callTy call_int1 (by rfl) T.int (by decide +kernel) (pa_cons (pv 1) pa_nil)) pa_nil)))) (pps_cons pe_str pe_int (pps_cons pe_str pe_int (pps_cons pe_str (pe_op op_add pe_int (pe_callB call_len_seq (by rfl) T.len (by decide +kernel) (pa_cons (pv 0) pa_nil))) pps_nil)))) (by rfl) (by rfl) (fun z => by cases z) (by decide)))), ?_⟩
    refine fun p hp => ?_
    have s1 : Same H (upd H p (.dK [])) := same_upd hp
    generalize hH1 : upd H p (.dK []) = H1 at s1
    have p1 : H1 p = some (.dK []) := by rw [← hH1]; exact upd_same
    have hl1 := Same.seq s1 hl
    refine ⟨_, rfl, a, rfl, ⟨_, hl1⟩, fun D hD => lc_list (xs := ns.map V.int) (fun i H' => ∃ ms : List Int, Same H1 H' ∧ H' D = some (.lst (ms.map V.int)) ∧ ms.length = i) ⟨[], same_upd hD, upd_same, rfl⟩
      (fun i H' hi hP => Same.seq hP.choose_spec.1 hl1) (fun i x H' hx hP => ?_) (fun H' hP => ?_)⟩
    · obtain ⟨ms, s2, hd, hm⟩ := hP
      obtain ⟨n, hn, rfl⟩ : ∃ n, ns[i]? = some n ∧ x = .int n := by
        rw [List.getElem?_map] at hx
        cases h : ns[i]? with
        | none => rw [h] at hx; cases hx
        | some n => rw [h] at hx; exact ⟨n, rfl, (Option.some.inj hx).symm⟩
      refine ⟨rfl, _, rfl, .inl ⟨_, rfl, _, rfl, _, hd, ?_, ms ++ [_], ?_, by rw [upd_same, List.map_append]; rfl, by rw [List.length_append, hm]; rfl⟩⟩
      · rw [List.length_map, hm]
        have := (List.getElem?_eq_some_iff.mp hn).1
        exact small1000 (by omega)
      · exact same_upd_new s2 hD
    · obtain ⟨ms, s2, hd, hm⟩ := hP
      have npD : p ≠ D := fun z => by rw [← z, p1] at hD; cases hD
      refine ⟨_, rfl, _, _, rfl, .inl (Same.seq s2 hl1), _, _, rfl, rfl, s2 _ _ p1, stK D 0 0 (7 + ((ns.map V.int).length : Int)), rfl, by show 4 ≤ 15; decide, ?_⟩
      refine q _ p (same_upd_new (fun b o e => s2 b o (s1 b o e)) hp) ⟨D, ms, 0, 0, 7 + ((ns.map V.int).length : Int), upd_same, by rw [upd_ne npD.symm]; exact hd, Int.le_refl _⟩ hp
end
end K16
set_option maxHeartbeats 4000000
namespace K16
open PySem PySem.Spec PyProof.Rows L2
open GxR (TabG Tabbed)
open Geo (Pt)
/-! ### the chart -/
structure Ch where
  ca : Addr
  df : Addr
  ll : Addr
  fk : List (Key × V)
  fx : Str → Option Pt
  as : List Addr
  lg : List (Str × Str)
  zn : V
  rw : V
  hd : V
  hr : V
  cp : V
abbrev chK (c : Ch) : List (Key × V) := [(.inr "fixes", .ref c.df), (.inr "legs", .ref c.ll), (.inr "zones", c.zn), (.inr "runways", c.rw), (.inr "holds", c.hd), (.inr "hours", c.hr), (.inr "capacities", c.cp)]
def PtOk (p : Pt) : Prop := -40 ≤ p.1 ∧ p.1 ≤ 40 ∧ -245 ≤ p.2 ∧ p.2 ≤ 245
structure ChOk (H : Hp) (sd : Addr) (c : Ch) : Prop where
  ch : H c.ca = some (.dK (chK c))
  nca : c.ca ≠ sd
  ndf : c.df ≠ sd
  fxs : H c.df = some (.dK c.fk)
  fx : ∀ n p, c.fx n = some p → PtOk p ∧ ∃ a, valV c.fk (.inr n) = some (.ref a) ∧ H a = some (.tup (pt p))
  lgs : H c.ll = some (.lst (c.as.map V.ref))
  len : c.as.length = c.lg.length
  sz : c.lg.length ≤ 100
  leg : ∀ (i : Nat) (k : Addr), c.as[i]? = some k → ∃ (s e : Str) (x y z : V), c.lg[i]? = some (s, e) ∧ H k = some (.tup [.str s, .str e, x, y, z])
  ends : ∀ s e, (s, e) ∈ c.lg → (∃ p, c.fx s = some p) ∧ ∃ p, c.fx e = some p
theorem ChOk.ev {ts : List Addr} {sd : Addr} {H H' : Hp} {c : Ch} (h : ChOk H sd c) (e : Ev ts sd H H') : ChOk H' sd c :=
  ⟨e.dK h.nca h.ch, h.nca, h.ndf, e.dK h.ndf h.fxs, fun n p hp => by obtain ⟨b, a, h1, h2⟩ := h.fx n p hp; exact ⟨b, a, h1, e.tup h2⟩, e.lst h.lgs, h.len, h.sz,
    fun i k hk => by obtain ⟨s, t, x, y, z, h1, h2⟩ := h.leg i k hk; exact ⟨s, t, x, y, z, h1, e.tup h2⟩, h.ends⟩
theorem ChOk.same {sd : Addr} {H H' : Hp} {c : Ch} (h : ChOk H sd c) (e : Same H H') : ChOk H' sd c := h.ev (Ev.of (ts := []) e)
theorem ChOk.gf {H : Hp} {sd : Addr} {c : Ch} (h : ChOk H sd c) : DGet H c.ca (.str "fixes") (some (.ref c.df)) := dget_of h.ch rfl
theorem ChOk.gl {H : Hp} {sd : Addr} {c : Ch} (h : ChOk H sd c) : DGet H c.ca (.str "legs") (some (.ref c.ll)) := dget_of h.ch rfl
theorem ChOk.gx {H : Hp} {sd : Addr} {c : Ch} (h : ChOk H sd c) {n : Str} {p : Pt} (e : c.fx n = some p) : ∃ a, DGet H c.df (.str n) (some (.ref a)) ∧ H a = some (.tup (pt p)) := by
  obtain ⟨_, a, h1, h2⟩ := h.fx n p e
  exact ⟨a, dget_of h.fxs h1, h2⟩
def spBetween (K : PySem.W.Frag) : Sp := fun vs H Q _ => ∃ (sd : Addr) (c : Ch) (s e : Str), vs = [.ref c.ca, .str s, .str e] ∧ ChOk H sd c ∧ ∀ v, Q v H
def spLegLen (K : PySem.W.Frag) : Sp := fun vs H Q _ => ∃ (sd : Addr) (c : Ch) (s e : Str) (p q : Pt), vs = [.ref c.ca, .str s, .str e] ∧ ChOk H sd c ∧ c.fx s = some p ∧ c.fx e = some q ∧ Q (.int (rup (d2 p q))) H
def spLRoot : Sp := fun vs H Q _ => ∃ n : Int, vs = [.int n] ∧ 0 ≤ n ∧ n < 2 ^ 20 ∧ Q (.int (rup n)) H
def spLLegAt : Sp := fun vs H Q _ => ∃ (b : Addr) (bg : List Int) (p : Int), vs = [.ref b, .int p] ∧ H b = some (.lst (bg.map V.int)) ∧ 2 ≤ bg.length ∧ bg.length ≤ 8 ∧ gB bg 0 = 0 ∧ 0 ≤ p ∧ p < tot bg ∧
  ∀ k : Nat, k + 1 < bg.length → gB bg k ≤ p → p < gB bg (k + 1) → Q (.int k) H
/-- the route's names and their points -/
structure RtOk (c : Ch) (rt : List Str) (pts : List Pt) : Prop where
  len : rt.length = pts.length
  at_ : ∀ i, i < pts.length → ∃ n, rt[i]? = some n ∧ c.fx n = some (gP pts i)
theorem atI_str {rt : List Str} {i : Nat} {n : Str} (h : rt[i]? = some n) : atI (rt.map V.str) (i : Int) = some (.str n) := atI_nat (by rw [List.getElem?_map, h]; rfl)
def spLPlace (K : PySem.W.Frag) : Sp := fun vs H Q _ => ∃ (sd r b : Addr) (c : Ch) (rt : List Str) (pts : List Pt) (bg : List Int) (k : Nat) (p : Int), vs = [.ref c.ca, .ref r, .ref b, .int k, .int p] ∧ ChOk H sd c ∧ H r = some (.tup (rt.map V.str)) ∧
  H b = some (.lst (bg.map V.int)) ∧ RtOk c rt pts ∧ bg.length = pts.length ∧ k + 1 < pts.length ∧ ∀ H' x, Same H H' → H' x = some (.tup (onT pts bg k p)) → Q (.ref x) H'
theorem gb_of {bg : List Int} {i : Nat} (h : i < bg.length) : atI (bg.map V.int) (i : Int) = some (.int (gB bg i)) := by
  refine atI_nat ?_
  rw [List.getElem?_map, List.getElem?_eq_getElem h, gB, List.getD_eq_getElem?_getD, List.getElem?_eq_getElem h]
  rfl
/-- the search for the root -/
structure RB (n lo hi : Int) (i : Nat) : Prop where
  a1 : 0 ≤ lo
  a2 : lo ≤ hi
  a3 : hi ≤ 10000000
  a4 : n ≤ hi * hi
  a5 : ∀ k, 0 ≤ k → n ≤ k * k → lo ≤ k
  a6 : (hi - lo) * 2 ^ i ≤ 10000000
theorem half {a b : Int} {i : Nat} (h : 2 * a ≤ b) (hb : b * 2 ^ i ≤ 10000000) : a * 2 ^ (i + 1) ≤ 10000000 := by
  rw [Int.pow_succ, Int.mul_comm _ 2, ← Int.mul_assoc, Int.mul_comm a 2]
  exact Int.le_trans (Int.mul_le_mul_of_nonneg_right h (Int.le_of_lt (Int.pow_pos (by decide)))) hb
theorem RB.low {n lo hi m : Int} {i : Nat} (b : RB n lo hi i) (h1 : 2 * m ≤ lo + hi) (h2 : lo + hi ≤ 2 * m + 1) (h : n ≤ m * m) : RB n lo m (i + 1) := by
  obtain ⟨a1, a2, a3, a4, a5, a6⟩ := b
  exact ⟨a1, by omega, by omega, h, a5, half (by omega) a6⟩
theorem RB.high {n lo hi m : Int} {i : Nat} (b : RB n lo hi i) (h1 : 2 * m ≤ lo + hi) (h2 : lo + hi ≤ 2 * m + 1) (h : ¬ n ≤ m * m) : RB n (m + 1) hi (i + 1) := by
  obtain ⟨a1, a2, a3, a4, a5, a6⟩ := b
  have hlt : m < hi := by
    by_cases z : m = hi
    · rw [z] at h
      exact absurd a4 h
    · omega
  refine ⟨by omega, by omega, a3, a4, fun k k0 hk => ?_, half (by omega) a6⟩
  by_cases z : m + 1 ≤ k
  · exact z
  · have z1 : k * k ≤ k * m := Int.mul_le_mul_of_nonneg_left (by omega) k0
    have z2 : k * m ≤ m * m := Int.mul_le_mul_of_nonneg_right (by omega) (by omega)
    omega
section
variable {P : Program} {w : World} {K : PySem.W.Frag} {mg : Str → Option Value} {base : Heap}
theorem sc_leg_between : FnScope ["chart", "start", "end", "leg"] ["chart", "start", "end"] (defScope s_leg_between) := ⟨rfl, rfl, rfl, by decide +kernel, rfl, by decide +kernel, by decide +kernel⟩
theorem ok_leg_between (T : Tx K mg) : OkF P w K mg base 1 "leg_between" ["chart", "start", "end"] (spBetween K) := by
  obtain ⟨fd, F⟩ := T.f_leg_between
  refine ⟨_, fd, okD F sc_leg_between (fun vs H Q E h => ?_) (fun cdv A outer s H vs Q E hr h => ?_), T.g_leg_between, F.kp, F.bindsN fun _ _ _ _ _ _ us hl => match us, hl with | [_, _, _], _ => rfl⟩
  · obtain ⟨_, _, _, _, rfl, _⟩ := h
    rfl
  · obtain ⟨sd, c, x, y, rfl, h, q⟩ := h
    have hu := hu_of hr
    refine ⟨_, (pss_cons (ps_for PassesOwn.never rfl (pi_list (pe_dget hu (pv 0) pe_str (fun _ _ => rfl))) (pg_name (i := 3) sc_leg_between.nd rfl (Or.inl rfl)) (pss_one (ps_if (PW.pt (pw_and (pt_cmpR op_eq (pe_ix ix_tup (pv 3) pe_int (fun _ _ => rfl)) (pv 1) (nomark _)) (pw_and1 (pt_cmpR op_eq (pe_ix ix_tup (pv 3) pe_int (fun _ _ => rfl)) (pv 2) (nomark _))))) (pss_one (ps_ret (pv 3))) pss_nil)))
  (pss_one (ps_ret pe_non))), ?_⟩
    refine ⟨_, rfl, _, _, rfl, h.gl, _, rfl, ⟨_, SqL.of h.lgs⟩, for_list (xs := c.as.map V.ref) (fun i σ H' => H' = H ∧ ∃ v, σ = [some (.ref c.ca), some (.str x), some (.str y), v]) ⟨rfl, _, rfl⟩ (fun i σ H' _ hP => by rw [hP.1]; exact SqL.of h.lgs) (fun i z σ H' hz hP => ?_) (fun σ H' hP => ?_)⟩
    · obtain ⟨rfl, v, rfl⟩ := hP
      obtain ⟨k, hk, rfl⟩ : ∃ k, c.as[i]? = some k ∧ z = .ref k := by
        rw [List.getElem?_map] at hz
        cases hh : c.as[i]? with
        | none => rw [hh] at hz; cases hz
        | some n => rw [hh] at hz; exact ⟨n, rfl, (Option.some.inj hz).symm⟩
      obtain ⟨s1, e1, x1, y1, z1, _, hk2⟩ := h.leg i k hk
      refine ⟨_, rfl, _, _, 0, _, rfl, rfl, SqT.of hk2, rfl, _, rfl, rfl, _, rfl, ite2 (fun c1 => ?_) fun c1 => ?_⟩
      · refine ⟨_, rfl, _, _, 1, _, rfl, rfl, SqT.of hk2, rfl, _, rfl, rfl, _, rfl, ite2 (fun c2 => ?_) fun c2 => ?_⟩
        · exact ⟨_, rfl, q _⟩
        · exact ⟨rfl, _, rfl⟩
      · exact ⟨rfl, _, rfl⟩
    · obtain ⟨rfl, v, rfl⟩ := hP
      exact q _
theorem sc_leg_length : FnScope ["chart", "start", "end", "ax", "ay", "bx", "by"] ["chart", "start", "end"] (defScope s_leg_length) := ⟨rfl, rfl, rfl, by decide +kernel, rfl, by decide +kernel, by decide +kernel⟩
theorem ok_leg_length (T : Tx K mg) (O_root_up : OkF P w K mg base 1 "root_up" ["n"] spRoot) : OkF P w K mg base 2 "leg_length" ["chart", "start", "end"] (spLegLen K) := by
  obtain ⟨fd, F⟩ := T.f_leg_length
  refine ⟨_, fd, okD F sc_leg_length (fun vs H Q E h => ?_) (fun cdv A outer s H vs Q E hr h => ?_), T.g_leg_length, F.kp, F.bindsN fun _ _ _ _ _ _ us hl => match us, hl with | [_, _, _], _ => rfl⟩
  · obtain ⟨_, _, _, _, _, _, rfl, _⟩ := h
    rfl
  · obtain ⟨sd, c, x, y, p, r, rfl, h, hp, hq, q⟩ := h
    have hu := hu_of hr
    refine ⟨_, (pss_cons (ps_asg (pe_dget hu (pe_dget hu (pv 0) pe_str (fun _ _ => rfl)) (pv 1) (fun _ _ => rfl)) (pg_tup rfl (pgs_cons (pg_name (i := 3) sc_leg_length.nd rfl (Or.inl rfl)) (pgs_cons (pg_name (i := 4) sc_leg_length.nd rfl (Or.inl rfl)) pgs_nil))))
  (pss_cons (ps_asg (pe_dget hu (pe_dget hu (pv 0) pe_str (fun _ _ => rfl)) (pv 2) (fun _ _ => rfl)) (pg_tup rfl (pgs_cons (pg_name (i := 5) sc_leg_length.nd rfl (Or.inl rfl)) (pgs_cons (pg_name (i := 6) sc_leg_length.nd rfl (Or.inl rfl)) pgs_nil))))
  (pss_one (ps_ret (pe_fn O_root_up hr rfl (pa_cons (pe_op op_add (pe_op op_mul (pe_op op_sub (pv 5) (pv 3)) (pe_op op_sub (pv 5) (pv 3))) (pe_op op_mul (pe_op op_sub (pv 6) (pv 4)) (pe_op op_sub (pv 6) (pv 4)))) pa_nil)))))), ?_⟩
    obtain ⟨k1, g1, e1⟩ := h.gx hp
    obtain ⟨k2, g2, e2⟩ := h.gx hq
    have b1 := (h.fx _ _ hp).1
    have b2 := (h.fx _ _ hq).1
    have bb := d2_bd b1 b2
    unfold PtOk at b1 b2
    refine ⟨_, rfl, _, _, rfl, h.gf, _, rfl, _, _, rfl, g1, _, _, rfl, SqT.of e1, rfl, _, _, rfl, _, _, rfl, rfl, ?_⟩
    refine ⟨_, rfl, _, _, rfl, h.gf, _, rfl, _, _, rfl, g2, _, _, rfl, SqT.of e2, rfl, _, _, rfl, _, _, rfl, rfl, ?_⟩
    exact ⟨_, rfl, _, rfl, _, _, rfl, rfl, _, rfl, _, rfl, _, _, rfl, rfl, _, _, rfl, rfl, .inl ⟨by omega, by omega⟩, _, rfl, _, rfl, _, _, rfl, rfl, _, rfl, _, rfl, _, _, rfl, rfl, _, _, rfl, rfl, .inl ⟨by omega, by omega⟩, _, _, rfl, rfl, d2 p r, rfl, bb.1, by omega, q⟩
theorem sc_l_root_up : FnScope ["_law_n", "_law_low", "_law_high", "_law_k", "_law_middle"] ["_law_n"] (defScope s_law_root_up) := ⟨rfl, rfl, rfl, by decide +kernel, rfl, by decide +kernel, by decide +kernel⟩
theorem ok_l_root_up (T : Tx K mg) : OkF P w K mg base 1 "_law_root_up" ["_law_n"] spLRoot := by
  obtain ⟨fd, F⟩ := T.f_l_root_up
  refine ⟨_, fd, okD F sc_l_root_up (fun vs H Q E h => ?_) (fun cdv A outer s H vs Q E hr h => ?_), T.g_l_root_up, F.kp, F.bindsN fun _ _ _ _ _ _ us hl => match us, hl with | [_], _ => rfl⟩
  · obtain ⟨_, rfl, _⟩ := h
    rfl
  · obtain ⟨n, rfl, h0, h1, q⟩ := h
    refine ⟨_, (pss_cons (ps_set (i := 1) sc_l_root_up.nd rfl (Or.inl rfl) pe_int)
  (pss_cons (ps_set (i := 2) sc_l_root_up.nd rfl (Or.inl rfl) (pe_op op_pow pe_int pe_int))
  (pss_cons (ps_for PassesOwn.never rfl (pi_range1 rfl T.range (pa_cons pe_int pa_nil)) (pg_name (i := 3) sc_l_root_up.nd rfl (Or.inl rfl)) (pss_cons (ps_set (i := 4) sc_l_root_up.nd rfl (Or.inl rfl) (pe_op op_fdivN (pe_op op_add (pv 1) (pv 2)) pe_int))
  (pss_one (ps_if (pt_cmpR op_ge (pe_op op_mul (pv 4) (pv 4)) (pv 0) (nomark _)) (pss_one (ps_set (i := 2) sc_l_root_up.nd rfl (Or.inl rfl) (pv 4))) (pss_one (ps_set (i := 1) sc_l_root_up.nd rfl (Or.inl rfl) (pe_op op_add (pv 4) pe_int)))))))
  (pss_one (ps_ret (pv 2)))))), ?_⟩
    refine ⟨_, _, rfl, rfl, ⟨by decide, by decide, by decide⟩, ?_⟩
    refine ⟨24, rfl, by decide, by decide, for_range (n := 24) (fun i σ H' => H' = H ∧ ∃ (lo hi : Int) (x y : Option V), σ = [some (.int n), some (.int lo), some (.int hi), x, y] ∧ RB n lo hi i)
      ⟨rfl, 0, 10000000, _, _, rfl, by omega, by omega, by omega, by omega, fun k hk _ => hk, by decide⟩ (fun i σ H' hi2 hP => ?_) (fun σ H' hP => ?_)⟩
    · obtain ⟨rfl, lo, hi, x, y, rfl, b⟩ := hP
      refine ⟨_, rfl, _, rfl, _, _, rfl, rfl, _, _, rfl, rfl, ⟨by decide, by decide⟩, ?_⟩
      have em : (lo + hi).fdiv 2 = (lo + hi) / 2 := Int.fdiv_eq_ediv_of_nonneg _ (by decide)
      have a1 := b.a1
      have a2 := b.a2
      have a3 := b.a3
      refine ⟨_, rfl, _, rfl, _, _, rfl, rfl, .inl (show -(2 ^ 64) < (lo + hi).fdiv 2 ∧ (lo + hi).fdiv 2 < 2 ^ 64 from ⟨by omega, by omega⟩), _, rfl, _, _, rfl, rfl, _, rfl, ite2 (fun c1 => ?_) fun c1 => ?_⟩
      · have c1 : n ≤ (lo + hi).fdiv 2 * (lo + hi).fdiv 2 := of_decide_eq_true c1
        exact ⟨_, rfl, rfl, lo, (lo + hi).fdiv 2, _, _, rfl, b.low (by omega) (by omega) c1⟩
      · have c1 : ¬ n ≤ (lo + hi).fdiv 2 * (lo + hi).fdiv 2 := fun z => c1 (decide_eq_true z)
        exact ⟨_, rfl, _, _, rfl, rfl, rfl, (lo + hi).fdiv 2 + 1, hi, _, _, rfl, b.high (by omega) (by omega) c1⟩
    · obtain ⟨rfl, lo, hi, x, y, rfl, a1, a2, a3, a4, a5, a6⟩ := hP
      have e : lo = hi := by
        have : (2 : Int) ^ 24 = 16777216 := by decide
        rw [this] at a6
        omega
      subst e
      have er : rup n = lo := (rup_ru h0).uniq ⟨a1, a4, a5⟩
      rw [er] at q
      exact ⟨_, rfl, q⟩
theorem sc_l_leg_at : FnScope ["_law_begins_here", "_law_progress", "_law_found", "_law_k"] ["_law_begins_here", "_law_progress"] (defScope s_law_leg_at) := ⟨rfl, rfl, rfl, by decide +kernel, rfl, by decide +kernel, by decide +kernel⟩
theorem ok_l_leg_at (T : Tx K mg) : OkF P w K mg base 1 "_law_leg_at" ["_law_begins_here", "_law_progress"] spLLegAt := by
  obtain ⟨fd, F⟩ := T.f_l_leg_at
  refine ⟨_, fd, okD F sc_l_leg_at (fun vs H Q E h => ?_) (fun cdv A outer s H vs Q E hr h => ?_), T.g_l_leg_at, F.kp, F.bindsN fun _ _ _ _ _ _ us hl => match us, hl with | [_, _], _ => rfl⟩
  · obtain ⟨_, _, _, rfl, _⟩ := h
    rfl
  · obtain ⟨b, bg, p, rfl, hb, n2, n8, g0, p0, pt_, q⟩ := h
    refine ⟨_, (pss_cons (ps_set (i := 2) sc_l_leg_at.nd rfl (Or.inl rfl) pe_int)
  (pss_cons (ps_for PassesOwn.never rfl (pi_range2 rfl T.range (pa_cons pe_int (pa_cons (pe_op op_sub (pe_callB call_len_seq (by rfl) T.len (by decide +kernel) (pa_cons (pv 0) pa_nil)) pe_int) pa_nil))) (pg_name (i := 3) sc_l_leg_at.nd rfl (Or.inl rfl)) (pss_one (ps_if (pt_cmpR op_le (pe_ix ix_list (pv 0) (pv 3) (fun _ _ => rfl)) (pv 1) (nomark _)) (pss_one (ps_set (i := 2) sc_l_leg_at.nd rfl (Or.inl rfl) (pv 3))) pss_nil)))
  (pss_one (ps_ret (pv 2))))), ?_⟩
    have hlen : (bg.map V.int).length = bg.length := List.length_map ..
    refine ⟨_, rfl, _, _, rfl, .inl (SqL.of hb), _, _, rfl, rfl, 1, _, rfl, ⟨by omega, by omega, by omega, by omega⟩, ?_⟩
    have en : (((bg.map V.int).length : Int) - 1 - 1).toNat = bg.length - 2 := by omega
    rw [en]
    refine for_range (n := bg.length - 2) (fun i σ H' => H' = H ∧ ∃ (f : Nat) (x : Option V), σ = [some (.ref b), some (.int p), some (.int f), x] ∧ f ≤ i ∧ gB bg f ≤ p ∧ ∀ j, f < j → j ≤ i → p < gB bg j)
      ⟨rfl, 0, _, rfl, Nat.le_refl _, by omega, fun j h1 h2 => by omega⟩ (fun i σ H' hi2 hP => ?_) (fun σ H' hP => ?_)
    · obtain ⟨rfl, f, x, rfl, a1, a2, a3⟩ := hP
      have ei : (1 : Int) + (i : Int) = ((i + 1 : Nat) : Int) := by omega
      rw [ei]
      refine ⟨_, rfl, _, rfl, _, _, _, _, rfl, rfl, SqL.of hb, gb_of (i := i + 1) (by omega), _, rfl, _, _, rfl, rfl, _, rfl, ite2 (fun c1 => ?_) fun c1 => ?_⟩
      · exact ⟨_, rfl, rfl, i + 1, _, rfl, Nat.le_refl _, of_decide_eq_true c1, fun j h1 h2 => by omega⟩
      · have c1 : ¬ gB bg (i + 1) ≤ p := fun z => c1 (decide_eq_true z)
        refine ⟨rfl, f, _, rfl, by omega, a2, fun j h1 h2 => ?_⟩
        by_cases z : j ≤ i
        · exact a3 j h1 z
        · rw [show j = i + 1 by omega]
          omega
    · obtain ⟨rfl, f, x, rfl, a1, a2, a3⟩ := hP
      refine ⟨_, rfl, q f (by omega) a2 ?_⟩
      by_cases z : f + 1 ≤ bg.length - 2
      · exact a3 (f + 1) (by omega) z
      · unfold tot at pt_
        rw [show f + 1 = bg.length - 1 by omega]
        exact pt_
theorem sc_l_place_on : FnScope ["_law_chart_here", "_law_route", "_law_begins_here", "_law_k", "_law_progress", "_law_a", "_law_b", "_law_length", "_law_way"] ["_law_chart_here", "_law_route", "_law_begins_here", "_law_k", "_law_progress"] (defScope s_law_place_on) := ⟨rfl, rfl, rfl, by decide +kernel, rfl, by decide +kernel, by decide +kernel⟩
theorem ok_l_place_on (T : Tx K mg) : OkF P w K mg base 1 "_law_place_on" ["_law_chart_here", "_law_route", "_law_begins_here", "_law_k", "_law_progress"] (spLPlace K) := by
  obtain ⟨fd, F⟩ := T.f_l_place_on
  refine ⟨_, fd, okD F sc_l_place_on (fun vs H Q E h => ?_) (fun cdv A outer s H vs Q E hr h => ?_), T.g_l_place_on, F.kp, F.bindsN fun _ _ _ _ _ _ us hl => match us, hl with | [_, _, _, _, _], _ => rfl⟩
  · obtain ⟨_, _, _, _, _, _, _, _, _, rfl, _⟩ := h
    rfl
  · obtain ⟨sd, r, b, c, rt, pts, bg, k, p, rfl, h, hr2, hb, R, nb, hk, q⟩ := h
    have hu := hu_of hr
    refine ⟨_, (pss_cons (ps_set (i := 5) sc_l_place_on.nd rfl (Or.inl rfl) (pe_dget hu (pe_dget hu (pv 0) pe_str (fun _ _ => rfl)) (pe_ix ix_tup (pv 1) (pv 3) (fun _ _ => rfl)) (fun _ _ => rfl)))
  (pss_cons (ps_set (i := 6) sc_l_place_on.nd rfl (Or.inl rfl) (pe_dget hu (pe_dget hu (pv 0) pe_str (fun _ _ => rfl)) (pe_ix ix_tup (pv 1) (pe_op op_add (pv 3) pe_int) (fun _ _ => rfl)) (fun _ _ => rfl)))
  (pss_cons (ps_set (i := 7) sc_l_place_on.nd rfl (Or.inl rfl) (pe_op op_sub (pe_ix ix_list (pv 2) (pe_op op_add (pv 3) pe_int) (fun _ _ => rfl)) (pe_ix ix_list (pv 2) (pv 3) (fun _ _ => rfl))))
  (pss_cons (ps_set (i := 8) sc_l_place_on.nd rfl (Or.inl rfl) (pe_op op_sub (pv 4) (pe_ix ix_list (pv 2) (pv 3) (fun _ _ => rfl))))
  (pss_one (ps_ret (pe_tup (pa_cons (pe_op op_add (pe_op op_mul (pe_ix ix_tup (pv 5) pe_int (fun _ _ => rfl)) (pv 7)) (pe_op op_mul (pe_op op_sub (pe_ix ix_tup (pv 6) pe_int (fun _ _ => rfl)) (pe_ix ix_tup (pv 5) pe_int (fun _ _ => rfl))) (pv 8))) (pa_cons (pe_op op_add (pe_op op_mul (pe_ix ix_tup (pv 5) pe_int (fun _ _ => rfl)) (pv 7)) (pe_op op_mul (pe_op op_sub (pe_ix ix_tup (pv 6) pe_int (fun _ _ => rfl)) (pe_ix ix_tup (pv 5) pe_int (fun _ _ => rfl))) (pv 8))) (pa_cons (pv 7) pa_nil)))))))))), ?_⟩
    obtain ⟨n1, i1, x1⟩ := R.at_ k (by omega)
    obtain ⟨n2, i2, x2⟩ := R.at_ (k + 1) hk
    obtain ⟨k1, g1, e1⟩ := h.gx x1
    obtain ⟨k2, g2, e2⟩ := h.gx x2
    have b1 := (h.fx _ _ x1).1
    have b2 := (h.fx _ _ x2).1
    unfold PtOk at b1 b2
    refine ⟨_, rfl, _, _, rfl, h.gf, _, rfl, _, rfl, _, _, _, _, rfl, rfl, SqT.of hr2, atI_str i1, _, _, rfl, g1, ?_⟩
    refine ⟨_, rfl, _, _, rfl, h.gf, _, rfl, _, rfl, _, _, rfl, rfl, _, _, _, _, rfl, rfl, SqT.of hr2, atI_str (i := k + 1) i2, _, _, rfl, g2, ?_⟩
    refine ⟨_, rfl, _, rfl, _, _, rfl, rfl, _, _, _, _, rfl, rfl, SqL.of hb, gb_of (i := k + 1) (by omega), _, rfl, _, rfl, _, _, _, _, rfl, rfl, SqL.of hb, gb_of (i := k) (by omega), _, _, rfl, rfl, ?_⟩
    refine ⟨_, rfl, _, rfl, _, rfl, _, _, _, _, rfl, rfl, SqL.of hb, gb_of (i := k) (by omega), _, _, rfl, rfl, ?_⟩
    refine ⟨_, rfl, _, _, 0, _, rfl, rfl, SqT.of e1, rfl, _, rfl, _, _, rfl, rfl, .inl ⟨by omega, by omega⟩, ?_⟩
    refine ⟨_, rfl, _, _, 0, _, rfl, rfl, SqT.of e2, rfl, _, rfl, _, _, 0, _, rfl, rfl, SqT.of e1, rfl, _, _, rfl, rfl, _, rfl, _, _, rfl, rfl, .inl ⟨by omega, by omega⟩, _, _, rfl, rfl, ?_⟩
    refine ⟨_, rfl, _, _, 1, _, rfl, rfl, SqT.of e1, rfl, _, rfl, _, _, rfl, rfl, .inl ⟨by omega, by omega⟩, ?_⟩
    refine ⟨_, rfl, _, _, 1, _, rfl, rfl, SqT.of e2, rfl, _, rfl, _, _, 1, _, rfl, rfl, SqT.of e1, rfl, _, _, rfl, rfl, _, rfl, _, _, rfl, rfl, .inl ⟨by omega, by omega⟩, _, _, rfl, rfl, ?_⟩
    exact ⟨_, rfl, by show 3 ≤ sizeLine; decide, fun x hn => q _ x (same_upd hn) upd_same⟩
end
end K16
set_option maxHeartbeats 4000000
namespace K16
open PySem PySem.Spec PyProof.Rows L2
open GxR (TabG Tabbed)
open Geo (Pt)
abbrev rLenK (K : PySem.W.Frag) : List V → Hp → VK → Prop := fun xs H Q => ∃ p ys, xs = [.ref p] ∧ (SqL K H p ys ∨ SqT K H p ys) ∧ Q (.int ys.length) H
abbrev rTupK (K : PySem.W.Frag) : List V → Hp → VK → Prop := fun xs H Q => ∃ p ys, xs = [.ref p] ∧ ((SqL K H p ys ∧ ∀ l, H l = none → Q (.ref l) (upd H l (.tup ys))) ∨ (SqT K H p ys ∧ Q (.ref p) H))
theorem StOk.same {H H' : Hp} {sd : Addr} (h : StOk H sd) (e : Same H H') : StOk H' sd := by
  obtain ⟨c, cells, a, l, m, h1, h2, h3⟩ := h
  exact ⟨c, cells, a, l, m, e _ _ h1, e _ _ h2, h3⟩
/-- a thing that was not there may be changed -/
theorem StOk.upd {ts : List Addr} {H0 H : Hp} {sd p : Addr} {o : HO} (h0 : StOk H0 sd) (e : Ev ts sd H0 H) (h : StOk H sd) (hp : H0 p = none) : StOk (upd H p o) sd := by
  obtain ⟨c, cells, a, l, m, h1, h2, h3⟩ := h
  obtain ⟨c0, cells0, a0, l0, m0, g1, g2, g3⟩ := h0
  obtain ⟨kvs', k1, k2⟩ := e.cel c0 _ g1 rfl
  rw [h1] at k1
  cases k1
  have ec : c = c0 := V.ref.inj (Option.some.inj k2)
  subst ec
  exact ⟨c, cells, a, l, m, by rw [upd_ne (fun z => by rw [← z, g1] at hp; cases hp)]; exact h1, by rw [upd_ne (fun z => by rw [← z, g2] at hp; cases hp)]; exact h2, h3⟩
/-- not there: an address other than the state's -/
theorem StOk.ne {H : Hp} {sd p : Addr} (h : StOk H sd) (hp : H p = none) : p ≠ sd := fun z => by
  obtain ⟨c, cells, a, l, m, h1, h2, h3⟩ := h
  rw [z, h1] at hp
  cases hp
theorem Ev.upd_new {ts : List Addr} {sd : Addr} {H H' : Hp} {a : Addr} {o : HO} (e : Ev ts sd H H') (n : H a = none) : Ev ts sd H (upd H' a o) where
  keep := fun b x h m k => by
    rw [upd_ne (fun z => by rw [z, n] at h; cases h)]
    exact e.keep b x h m k
  tab := fun P hP h => by
    obtain ⟨ps, q, r⟩ := e.tab P hP h
    obtain ⟨ps0, q0, _⟩ := h
    exact ⟨ps, by rw [upd_ne (fun z => by rw [z, n] at q0; cases q0)]; exact q, r⟩
  free := fun b h => by
    by_cases z : b = a
    · rw [z]; exact n
    · rw [upd_ne z] at h
      exact e.free b h
  cel := fun c kvs h x => by
    obtain ⟨kvs', h1, h2⟩ := e.cel c kvs h x
    exact ⟨kvs', by rw [upd_ne (fun z => by rw [← z, h] at n; cases n)]; exact h1, h2⟩
/-- the rules' dict as it is made -/
structure RS (ts : List Addr) (H0 H : Hp) (sd p : Addr) (kvs : List (Key × V)) (la ve ra ba : Int) (n : Nat) : Prop where
  s0 : StOk H0 sd
  st : StOk H sd
  ev : Ev ts sd H0 H
  ru : RuAt H p kvs la ve ra ba
  np : H0 p = none
  ne : p ≠ sd
  len : kvs.length ≤ n
theorem RuAt.ev {ts : List Addr} {sd : Addr} {H H' : Hp} {p : Addr} {kvs : List (Key × V)} {la ve ra ba : Int} (h : RuAt H p kvs la ve ra ba) (n : p ≠ sd) (e : Ev ts sd H H') : RuAt H' p kvs la ve ra ba := ⟨e.dK n h.dk, h.la, h.ve, h.ra, h.ba⟩
theorem RS.draw {ts : List Addr} {H0 H H' : Hp} {sd p : Addr} {kvs : List (Key × V)} {la ve ra ba : Int} {n : Nat} (h : RS ts H0 H sd p kvs la ve ra ba n) (st : StOk H' sd) (e : Ev ts sd H H') : RS ts H0 H' sd p kvs la ve ra ba n :=
  ⟨h.s0, st, h.ev.trans e, h.ru.ev h.ne e, h.np, h.ne, h.len⟩
theorem RS.newly {ts : List Addr} {H0 H : Hp} {sd p D : Addr} {kvs : List (Key × V)} {la ve ra ba : Int} {n : Nat} {o : HO} (h : RS ts H0 H sd p kvs la ve ra ba n) (hD : H0 D = none) (hn : D ≠ p) : RS ts H0 (upd H D o) sd p kvs la ve ra ba n :=
  ⟨h.s0, h.s0.upd h.ev h.st hD, h.ev.upd_new hD, ⟨by rw [upd_ne hn.symm]; exact h.ru.dk, h.ru.la, h.ru.ve, h.ru.ra, h.ru.ba⟩, h.np, h.ne, h.len⟩
theorem putK_len {kvs : List (Key × V)} {k : Key} {v : V} : (putK kvs k v).length ≤ kvs.length + 1 := by
  unfold putK
  split
  · rw [List.length_map]; omega
  · rw [List.length_append]; exact Nat.le_refl _
theorem RS.put {ts : List Addr} {H0 H : Hp} {sd p : Addr} {kvs : List (Key × V)} {la ve ra ba : Int} {n : Nat} (h : RS ts H0 H sd p kvs la ve ra ba n) (x : Str) (v : V) (h1 : x ≠ "lateral") (h2 : x ≠ "vertical") (h3 : x ≠ "radius") (h4 : x ≠ "band") :
    RS ts H0 (upd H p (.dK (putK kvs (.inr x) v))) sd p (putK kvs (.inr x) v) la ve ra ba (n + 1) := by
  have k : ∀ y : Str, x ≠ y → valV (putK kvs (.inr x) v) (.inr y) = valV kvs (.inr y) := fun y hy => by
    rw [valV_put, if_neg (fun z => hy (Sum.inr.inj z).symm)]
  exact ⟨h.s0, h.s0.upd h.ev h.st h.np, h.ev.upd_new h.np, ⟨upd_same, by rw [k _ h1]; exact h.ru.la, by rw [k _ h2]; exact h.ru.ve, by rw [k _ h3]; exact h.ru.ra, by rw [k _ h4]; exact h.ru.ba⟩, h.np, h.ne, Nat.le_trans putK_len (Nat.succ_le_succ h.len)⟩
theorem RS.dput {ts : List Addr} {H0 H : Hp} {sd p : Addr} {kvs : List (Key × V)} {la ve ra ba : Int} {n : Nat} (h : RS ts H0 H sd p kvs la ve ra ba n) (x : Str) (v : V) (hn : n ≤ 1000) : DPut H p (.str x) v (upd H p (.dK (putK kvs (.inr x) v))) :=
  DPut.k (k := .inr x) h.ru.dk (Nat.lt_of_le_of_lt h.len (small1000 hn))
theorem mem3 {a b c : Int} {x : V} (h : x ∈ [V.int a, V.int b, V.int c]) : ∃ n, x = .int n ∧ (n = a ∨ n = b ∨ n = c) := by
  simp only [List.mem_cons, List.not_mem_nil, or_false] at h
  rcases h with h | h | h
  · exact ⟨a, h, .inl rfl⟩
  · exact ⟨b, h, .inr (.inl rfl)⟩
  · exact ⟨c, h, .inr (.inr rfl)⟩
def spRules (K : PySem.W.Frag) : Sp := fun vs H Q _ => ∃ sd : Addr, vs = [.ref sd] ∧ StOk H sd ∧ ∀ H' p kvs la ve ra ba, StOk H' sd → Ev (tbs K) sd H H' → RuAt H' p kvs la ve ra ba → p ≠ sd → H p = none → 1 ≤ la → la ≤ 60 → 1 ≤ ve → ve ≤ 60 → 0 ≤ ra → ra ≤ 3 → 0 ≤ ba → ba ≤ 3 → Q (.ref p) H'
section
variable {P : Program} {w : World} {K : PySem.W.Frag} {mg : Str → Option Value} {base : Heap}
theorem sc_l_rules : FnScope ["_law_state", "_law_lateral", "_law_vertical", "_law_rules_here", "_law_j", "_law_k"] ["_law_state"] (defScope s_law_rules) := ⟨rfl, rfl, rfl, by decide +kernel, rfl, by decide +kernel, by decide +kernel⟩
theorem ok_rules (T : Tx K mg) (O_l_draw : OkF P w K mg base 1 "_law_draw" ["_law_state", "_law_bound"] (spDraw K)) (O_l_pick : OkF P w K mg base 2 "_law_pick" ["_law_state", "_law_things"] (spPick K)) : OkF P w K mg base 3 "_law_rules" ["_law_state"] (spRules K) := by
  obtain ⟨fd, F⟩ := T.f_l_rules
  refine ⟨_, fd, okD F sc_l_rules (fun vs H Q E h => ?_) (fun cdv A outer s H vs Q E hr h => ?_), T.g_l_rules, F.kp, F.bindsN fun _ _ _ _ _ _ us hl => match us, hl with | [_], _ => rfl⟩
  · obtain ⟨_, rfl, _⟩ := h
    rfl
  · obtain ⟨sd, rfl, st, q⟩ := h
    have hu := hu_of hr
    refine ⟨_, (pss_cons (ps_set (i := 1) sc_l_rules.nd rfl (Or.inl rfl) (pe_op op_add pe_int (pe_fn O_l_draw hr rfl (pa_cons (pv 0) (pa_cons (pe_fn O_l_pick hr rfl (pa_cons (pv 0) (pa_cons (pe_lst (pa_cons pe_int (pa_cons pe_int (pa_cons pe_int pa_nil)))) pa_nil))) pa_nil)))))
  (pss_cons (ps_set (i := 2) sc_l_rules.nd rfl (Or.inl rfl) (pe_op op_add pe_int (pe_fn O_l_draw hr rfl (pa_cons (pv 0) (pa_cons (pe_fn O_l_pick hr rfl (pa_cons (pv 0) (pa_cons (pe_lst (pa_cons pe_int (pa_cons pe_int (pa_cons pe_int pa_nil)))) pa_nil))) pa_nil)))))
  (pss_cons (ps_set (i := 3) sc_l_rules.nd rfl (Or.inl rfl) (pe_disp (pps_cons pe_str (pv 1) (pps_cons pe_str (pv 2) (pps_cons pe_str (pe_fn O_l_draw hr rfl (pa_cons (pv 0) (pa_cons pe_int pa_nil))) (pps_cons pe_str (pe_fn O_l_draw hr rfl (pa_cons (pv 0) (pa_cons pe_int pa_nil))) pps_nil)))) (by rfl) (by rfl) (fun z => by cases z) (by decide)))
  (pss_cons (ps_dput hu (pv 3) pe_str (pe_fn O_l_draw hr rfl (pa_cons (pv 0) (pa_cons pe_int pa_nil))) rfl)
  (pss_cons (ps_dput hu (pv 3) pe_str (pe_fn O_l_draw hr rfl (pa_cons (pv 0) (pa_cons (pe_op op_fdivN (pe_op op_add (pv 1) pe_int) pe_int) pa_nil))) rfl)
  (pss_cons (ps_dput hu (pv 3) pe_str (pe_fn O_l_draw hr rfl (pa_cons (pv 0) (pa_cons (pe_op op_fdivN (pe_op op_add (pv 2) pe_int) pe_int) pa_nil))) rfl)
  (pss_cons (ps_dput hu (pv 3) pe_str (pe_fn O_l_draw hr rfl (pa_cons (pv 0) (pa_cons pe_int pa_nil))) rfl)
  (pss_cons (ps_dput hu (pv 3) pe_str (pe_fn O_l_draw hr rfl (pa_cons (pv 0) (pa_cons pe_int pa_nil))) rfl)
  (pss_cons (ps_dput hu (pv 3) pe_str (pe_op op_add pe_int (pe_fn O_l_draw hr rfl (pa_cons (pv 0) (pa_cons pe_int pa_nil)))) rfl)
  (pss_cons (ps_dput hu (pv 3) pe_str (pe_fn O_l_draw hr rfl (pa_cons (pv 0) (pa_cons pe_int pa_nil))) rfl)
  (pss_cons (ps_dput hu (pv 3) pe_str (pe_callTy call_tuple_of (by rfl) T.tuple (by decide +kernel) (pa_cons (pe_lc (own := [("_law_j", 4)]) (g := gName 4) (tt := tYes) rfl sc_l_rules.nd (pi_range1 rfl T.range (pa_cons pe_int pa_nil)) (blkOk_by (own := [("_law_j", 4)]) (N := ["_law_state", "_law_lateral", "_law_vertical", "_law_rules_here", "_law_j", "_law_k"]) (sc := defScope s_law_rules) (by decide +kernel)) (fun _ _ _ _ _ => (pg_name (i := 4) sc_l_rules.nd rfl (Or.inl rfl))) (fun _ _ _ _ _ => pts_nil) (fun _ _ _ _ _ => (pe_callTy (r := rTupK K) call_tuple_of (by rfl) T.tuple (by decide +kernel) (pa_cons (pe_lc (own := [("_law_k", 5)]) (g := gName 5) (tt := tYes) rfl sc_l_rules.nd (pi_range1 rfl T.range (pa_cons pe_int pa_nil)) (blkOk_by (own := [("_law_k", 5)]) (N := ["_law_state", "_law_lateral", "_law_vertical", "_law_rules_here", "_law_j", "_law_k"]) (by rfl)) (fun _ _ _ _ _ => (pg_name (i := 5) sc_l_rules.nd rfl (Or.inl rfl))) (fun _ _ _ _ _ => pts_nil) (fun _ _ _ _ _ => (pe_op op_add pe_int (pe_fn O_l_draw hr rfl (pa_cons (pv 0) (pa_cons pe_int pa_nil)))))) pa_nil)))) pa_nil)) rfl)
  (pss_one (ps_ret (pv 3)))))))))))))), ?_⟩
    refine ⟨_, rfl, _, rfl, by show 3 ≤ sizeLine; decide, fun la hla => ?_⟩
    refine ⟨sd, la, [.int 3, .int 12, .int 60], rfl, st.same (same_upd hla), upd_same, List.cons_ne_nil _ _, by decide, fun Haa xa staa eaa ma => ?_⟩
    obtain ⟨na, rfl, hna⟩ := mem3 ma
    refine ⟨sd, na, rfl, staa, by omega, by omega, fun Hab ra stab eab ga0 ga1 => ?_⟩
    have eva := (Ev.of (ts := tbs K) (sd := sd) (same_upd (o := .lst [.int 3, .int 12, .int 60]) hla)).trans (eaa.trans eab)
    refine ⟨_, _, rfl, rfl, ?_⟩
    have st1 := stab
    refine ⟨_, rfl, _, rfl, by show 3 ≤ sizeLine; decide, fun lb hlb => ?_⟩
    refine ⟨sd, lb, [.int 3, .int 20, .int 60], rfl, stab.same (same_upd hlb), upd_same, List.cons_ne_nil _ _, by decide, fun Hba xb stba eba mb => ?_⟩
    obtain ⟨nb, rfl, hnb⟩ := mem3 mb
    refine ⟨sd, nb, rfl, stba, by omega, by omega, fun Hbb rb stbb ebb gb0 gb1 => ?_⟩
    have evb := (Ev.of (ts := tbs K) (sd := sd) (same_upd (o := .lst [.int 3, .int 20, .int 60]) hlb)).trans (eba.trans ebb)
    refine ⟨_, _, rfl, rfl, ?_⟩
    have ev1 := eva.trans evb
    refine fun p hp => ?_
    have hp0 : H p = none := ev1.free _ hp
    have npd : p ≠ sd := stbb.ne hp
    refine ⟨_, rfl, _, rfl, _, rfl, sd, _, rfl, stbb.same (same_upd hp), by decide, by decide, fun H3 r3 st3 e3 g30 g31 => ?_⟩
    refine ⟨_, rfl, sd, _, rfl, st3, by decide, by decide, fun H4 r4 st4 e4 g40 g41 => ?_⟩
    have hp4 : H4 p = some (.dK []) := (e3.trans e4).dK npd upd_same
    refine ⟨hp4, [(.inr "lateral", .int (1 + ra)), (.inr "vertical", .int (1 + rb)), (.inr "radius", .int r3), (.inr "band", .int r4)], rfl, by show 4 ≤ 15; decide, ?_⟩
    have ev4 : Ev (tbs K) sd H H4 := ev1.trans ((Ev.of (same_upd hp)).trans (e3.trans e4))
    have S4 : RS (tbs K) H (upd H4 p (.dK [(.inr "lateral", .int (1 + ra)), (.inr "vertical", .int (1 + rb)), (.inr "radius", .int r3), (.inr "band", .int r4)])) sd p [(.inr "lateral", .int (1 + ra)), (.inr "vertical", .int (1 + rb)), (.inr "radius", .int r3), (.inr "band", .int r4)] (1 + ra) (1 + rb) r3 r4 4 :=
      ⟨st, st.upd ev4 st4 hp0, ev4.upd_new hp0, ⟨upd_same, rfl, rfl, rfl, rfl⟩, hp0, npd, Nat.le_refl _⟩
    have q' : ∀ H' kvs, StOk H' sd → Ev (tbs K) sd H H' → RuAt H' p kvs (1 + ra) (1 + rb) r3 r4 → Q (.ref p) H' := fun H' kvs x1 x2 x3 => q H' p kvs _ _ _ _ x1 x2 x3 npd hp0 (by omega) (by omega) (by omega) (by omega) (by omega) (by omega) (by omega) (by omega)
    clear q
    have hs : mergeK [] [(.inr "lateral", V.int (1 + ra)), (.inr "vertical", .int (1 + rb)), (.inr "radius", .int r3), (.inr "band", .int r4)] = [(.inr "lateral", .int (1 + ra)), (.inr "vertical", .int (1 + rb)), (.inr "radius", .int r3), (.inr "band", .int r4)] := rfl
    rw [hs]
    generalize [((.inr "lateral" : Key), V.int (1 + ra)), (.inr "vertical", .int (1 + rb)), (.inr "radius", .int r3), (.inr "band", .int r4)] = kv4 at S4 ⊢
    generalize upd H4 p (.dK kv4) = G4 at S4 ⊢
    refine ⟨_, rfl, sd, 4, rfl, S4.st, by decide, by decide, fun I4 x4 st4 e4 y40 y41 => ?_⟩
    have T4 := S4.draw st4 e4
    have S5 := T4.put "slip" (.int x4) (by decide) (by decide) (by decide) (by decide)
    refine ⟨_, rfl, p, _, rfl, T4.dput "slip" (.int x4) (by decide), ?_⟩
    generalize putK kv4 (.inr "slip") (.int x4) = kv5 at S5 ⊢
    generalize upd I4 p (.dK kv5) = G5 at S5 ⊢
    have ed5 : (1 + ra + 1).fdiv 2 = (1 + ra + 1) / 2 := Int.fdiv_eq_ediv_of_nonneg _ (by decide)
    refine ⟨_, rfl, _, rfl, _, _, rfl, rfl, _, _, rfl, rfl, ⟨by decide, by decide⟩, sd, (1 + ra + 1).fdiv 2, rfl, S5.st, by omega, by omega, fun I5 x5 st5 e5 y50 y51 => ?_⟩
    have T5 := S5.draw st5 e5
    have S6 := T5.put "radar" (.int x5) (by decide) (by decide) (by decide) (by decide)
    refine ⟨_, rfl, p, _, rfl, T5.dput "radar" (.int x5) (by decide), ?_⟩
    generalize putK kv5 (.inr "radar") (.int x5) = kv6 at S6 ⊢
    generalize upd I5 p (.dK kv6) = G6 at S6 ⊢
    have ed6 : (1 + rb + 1).fdiv 2 = (1 + rb + 1) / 2 := Int.fdiv_eq_ediv_of_nonneg _ (by decide)
    refine ⟨_, rfl, _, rfl, _, _, rfl, rfl, _, _, rfl, rfl, ⟨by decide, by decide⟩, sd, (1 + rb + 1).fdiv 2, rfl, S6.st, by omega, by omega, fun I6 x6 st6 e6 y60 y61 => ?_⟩
    have T6 := S6.draw st6 e6
    have S7 := T6.put "height" (.int x6) (by decide) (by decide) (by decide) (by decide)
    refine ⟨_, rfl, p, _, rfl, T6.dput "height" (.int x6) (by decide), ?_⟩
    generalize putK kv6 (.inr "height") (.int x6) = kv7 at S7 ⊢
    generalize upd I6 p (.dK kv7) = G7 at S7 ⊢
    refine ⟨_, rfl, sd, 9, rfl, S7.st, by decide, by decide, fun I7 x7 st7 e7 y70 y71 => ?_⟩
    have T7 := S7.draw st7 e7
    have S8 := T7.put "foreign" (.int x7) (by decide) (by decide) (by decide) (by decide)
    refine ⟨_, rfl, p, _, rfl, T7.dput "foreign" (.int x7) (by decide), ?_⟩
    generalize putK kv7 (.inr "foreign") (.int x7) = kv8 at S8 ⊢
    generalize upd I7 p (.dK kv8) = G8 at S8 ⊢
    refine ⟨_, rfl, sd, 9, rfl, S8.st, by decide, by decide, fun I8 x8 st8 e8 y80 y81 => ?_⟩
    have T8 := S8.draw st8 e8
    have S9 := T8.put "climb" (.int x8) (by decide) (by decide) (by decide) (by decide)
    refine ⟨_, rfl, p, _, rfl, T8.dput "climb" (.int x8) (by decide), ?_⟩
    generalize putK kv8 (.inr "climb") (.int x8) = kv9 at S9 ⊢
    generalize upd I8 p (.dK kv9) = G9 at S9 ⊢
    refine ⟨_, rfl, sd, 5, rfl, S9.st, by decide, by decide, fun I9 x9 st9 e9 y90 y91 => ?_⟩
    refine ⟨_, _, rfl, rfl, ?_⟩
    have T9 := S9.draw st9 e9
    have S10 := T9.put "memory" (.int (1 + x9)) (by decide) (by decide) (by decide) (by decide)
    refine ⟨_, rfl, p, _, rfl, T9.dput "memory" (.int (1 + x9)) (by decide), ?_⟩
    generalize putK kv9 (.inr "memory") (.int (1 + x9)) = kv10 at S10 ⊢
    generalize upd I9 p (.dK kv10) = G10 at S10 ⊢
    refine ⟨_, rfl, sd, 9, rfl, S10.st, by decide, by decide, fun I10 x10 st10 e10 y100 y101 => ?_⟩
    have T10 := S10.draw st10 e10
    have S11 := T10.put "ahead" (.int x10) (by decide) (by decide) (by decide) (by decide)
    refine ⟨_, rfl, p, _, rfl, T10.dput "ahead" (.int x10) (by decide), ?_⟩
    generalize putK kv10 (.inr "ahead") (.int x10) = kv11 at S11 ⊢
    generalize upd I10 p (.dK kv11) = G11 at S11 ⊢
    refine ⟨4, rfl, by decide, by decide, fun D hD => lc_range (n := 4) (fun i H' => RS (tbs K) H H' sd p kv11 (1 + ra) (1 + rb) r3 r4 11 ∧ ∃ acc, H' D = some (.lst acc) ∧ acc.length = i) ?_ (fun i H' hi hP => ?_) (fun H' hP => ?_)⟩
    · have nDp : D ≠ p := fun z => by rw [z, S11.ru.dk] at hD; cases hD
      exact ⟨S11.newly (S11.ev.free _ hD) nDp, [], upd_same, rfl⟩
    · have nDp : D ≠ p := fun z => by rw [z, S11.ru.dk] at hD; cases hD
      have hD0 := S11.ev.free _ hD
      obtain ⟨S, acc, hacc, hlen⟩ := hP
      refine ⟨rfl, 4, rfl, by decide, by decide, fun D2 hD2 => lc_range (n := 4) (fun j H2 => RS (tbs K) H H2 sd p kv11 (1 + ra) (1 + rb) r3 r4 11 ∧ H2 D = some (.lst acc) ∧ ∃ acc2, H2 D2 = some (.lst acc2) ∧ acc2.length = j) ?_ (fun j H2 hj hP2 => ?_) (fun H2 hP2 => ?_)⟩
      · have n2 : D2 ≠ p := fun z => by rw [z, S.ru.dk] at hD2; cases hD2
        have n3 : D2 ≠ D := fun z => by rw [z, hacc] at hD2; cases hD2
        exact ⟨S.newly (S.ev.free _ hD2) n2, by rw [upd_ne n3.symm]; exact hacc, [], upd_same, rfl⟩
      · have n2 : D2 ≠ p := fun z => by rw [z, S.ru.dk] at hD2; cases hD2
        have n3 : D2 ≠ D := fun z => by rw [z, hacc] at hD2; cases hD2
        have hD20 := S.ev.free _ hD2
        obtain ⟨S2, hacc', acc2, h2, hl2⟩ := hP2
        refine ⟨rfl, _, rfl, sd, 5, rfl, S2.st, by decide, by decide, fun H3 x st3' e3' g0 g1 => ⟨_, _, rfl, rfl, acc2, e3'.lst h2, ?_, ?_, ?_, acc2 ++ [_], upd_same, ?_⟩⟩
        · exact small1000 (by omega)
        · exact (S2.draw st3' e3').newly hD20 n2
        · rw [upd_ne n3.symm]
          exact e3'.lst hacc'
        · rw [List.length_append, hl2]
          rfl
      · obtain ⟨S2, hacc', acc2, h2, hl2⟩ := hP2
        refine ⟨D2, acc2, rfl, .inl ⟨SqL.of h2, fun l hl => ?_⟩⟩
        have n4 : l ≠ p := fun z => by rw [z, S2.ru.dk] at hl; cases hl
        have n5 : l ≠ D := fun z => by rw [z, hacc'] at hl; cases hl
        refine ⟨acc, by rw [upd_ne n5.symm]; exact hacc', small1000 (by omega), (S2.newly (S2.ev.free _ hl) n4).newly hD0 nDp, acc ++ [_], upd_same, ?_⟩
        rw [List.length_append, hlen]
        rfl
    · obtain ⟨S, acc, hacc, hlen⟩ := hP
      refine ⟨D, acc, rfl, .inl ⟨SqL.of hacc, fun l hl => ?_⟩⟩
      have n4 : l ≠ p := fun z => by rw [z, S.ru.dk] at hl; cases hl
      have T12 := S.newly (o := .tup acc) (S.ev.free _ hl) n4
      have S12 := T12.put "gaps" (.ref l) (by decide) (by decide) (by decide) (by decide)
      exact ⟨_, rfl, p, _, rfl, T12.dput "gaps" (.ref l) (by decide), _, rfl, q' _ _ S12.st S12.ev S12.ru⟩
end
end K16
set_option maxHeartbeats 4000000
namespace K16
open PySem PySem.Spec PyProof.Rows L2
open GxR (TabG Tabbed)
open Geo (Pt)
theorem gb_last {bg : List Int} (h : 1 ≤ bg.length) : atI (bg.map V.int) (((bg.map V.int).length : Int) - 1) = some (.int (tot bg)) := by
  have e := gb_of (bg := bg) (i := bg.length - 1) (by omega)
  rw [List.length_map]
  rw [show ((bg.length - 1 : Nat) : Int) = (bg.length : Int) - 1 by omega] at e
  exact e
/-- a list of vectors within r -/
structure VecL (H : Hp) (l : Addr) (as : List Addr) (r : Nat) : Prop where
  lst : H l = some (.lst (as.map V.ref))
  all : ∀ k ∈ as, ∃ x y : Int, H k = some (.tup [.int x, .int y]) ∧ x * x + y * y ≤ (r : Int) * r
theorem VecL.more {H : Hp} {l t : Addr} {as : List Addr} {r : Nat} {x y : Int} (h : VecL H l as r) (ht : H t = none) (c : x * x + y * y ≤ (r : Int) * r) :
    VecL (upd (upd H t (.tup [.int x, .int y])) l (.lst (as.map V.ref ++ [V.ref t]))) l (as ++ [t]) r := by
  have nl : t ≠ l := fun z => by rw [z, h.lst] at ht; cases ht
  refine ⟨by rw [upd_same, List.map_append]; rfl, fun k hk => ?_⟩
  rcases List.mem_append.mp hk with hk | hk
  · obtain ⟨a, b, h1, h2⟩ := h.all k hk
    exact ⟨a, b, by rw [upd_ne (fun z => by rw [z, h.lst] at h1; cases h1), upd_ne (fun z => by rw [z, ht] at h1; cases h1)]; exact h1, h2⟩
  · rw [List.mem_singleton.mp hk]
    exact ⟨x, y, by rw [upd_ne nl, upd_same], c⟩
def spInBox (K : PySem.W.Frag) : Sp := fun vs H Q _ => ∃ (sd b a : Addr) (bg : List Int) (b0 b1 b2 b3 : Int), vs = [.ref sd, .ref b, .ref a] ∧ StOk H sd ∧ H b = some (.lst (bg.map V.int)) ∧ 1 ≤ bg.length ∧ tot bg ≤ 10000 ∧ H a = some (.tup (bx b0 b1 b2 b3)) ∧
  (Q .non H) ∧ ∀ H' p, StOk H' sd → Ev (tbs K) sd H H' → b0 ≤ p → 0 ≤ p → p ≤ b1 → p < tot bg → Q (.int p) H'
def spVec (K : PySem.W.Frag) : Sp := fun vs H Q _ => ∃ (sd : Addr) (r : Nat), vs = [.ref sd, .int r] ∧ StOk H sd ∧ r ≤ 10 ∧ ∀ H' a x y, StOk H' sd → Ev (tbs K) sd H H' → H' a = some (.tup [.int x, .int y]) → x * x + y * y ≤ (r : Int) * r → Q (.ref a) H'
def spBox (K : PySem.W.Frag) : Sp := fun vs H Q _ => ∃ (sd : Addr) (v : V) (lo : Int), vs = [.ref sd, v, .int lo] ∧ StOk H sd ∧ ∀ H' a b0 b1 b2 b3, StOk H' sd → Ev (tbs K) sd H H' → H' a = some (.tup (bx b0 b1 b2 b3)) → b0 ≤ b1 → b2 ≤ b3 → b3 ≤ b2 + 7 → Q (.ref a) H'
section
variable {P : Program} {w : World} {K : PySem.W.Frag} {mg : Str → Option Value} {base : Heap}
theorem sc_l_in_box : FnScope ["_law_state", "_law_begins_here", "_law_box_here", "_law_low", "_law_high"] ["_law_state", "_law_begins_here", "_law_box_here"] (defScope s_law_in_box) := ⟨rfl, rfl, rfl, by decide +kernel, rfl, by decide +kernel, by decide +kernel⟩
theorem ok_in_box (T : Tx K mg) (O_l_draw : OkF P w K mg base 1 "_law_draw" ["_law_state", "_law_bound"] (spDraw K)) (O_l_pick : OkF P w K mg base 2 "_law_pick" ["_law_state", "_law_things"] (spPick K)) : OkF P w K mg base 3 "_law_in_box" ["_law_state", "_law_begins_here", "_law_box_here"] (spInBox K) := by
  obtain ⟨fd, F⟩ := T.f_l_in_box
  refine ⟨_, fd, okD F sc_l_in_box (fun vs H Q E h => ?_) (fun cdv A outer s H vs Q E hr h => ?_), T.g_l_in_box, F.kp, F.bindsN fun _ _ _ _ _ _ us hl => match us, hl with | [_, _, _], _ => rfl⟩
  · obtain ⟨_, _, _, _, _, _, _, _, rfl, _⟩ := h
    rfl
  · obtain ⟨sd, b, a, bg, b0, b1, b2, b3, rfl, st, hb, n1, n2, ha, q1, q2⟩ := h
    refine ⟨_, (pss_cons (ps_set (i := 3) sc_l_in_box.nd rfl (Or.inl rfl) (pe_callB (call_max2 rfl) (by rfl) T.max (by decide +kernel) (pa_cons (pe_ix ix_tup (pv 2) pe_int (fun _ _ => rfl)) (pa_cons pe_int pa_nil))))
  (pss_cons (ps_set (i := 4) sc_l_in_box.nd rfl (Or.inl rfl) (pe_callB (call_min2 rfl) (by rfl) T.min (by decide +kernel) (pa_cons (pe_ix ix_tup (pv 2) pe_int (fun _ _ => rfl)) (pa_cons (pe_op op_sub (pe_ix ix_list (pv 1) (pe_op op_sub (pe_callB call_len_seq (by rfl) T.len (by decide +kernel) (pa_cons (pv 1) pa_nil)) pe_int) (fun _ _ => rfl)) pe_int) pa_nil))))
  (pss_cons (ps_if (pt_cmpR op_gt (pv 3) (pv 4) (nomark _)) (pss_one (ps_ret pe_non)) pss_nil)
  (pss_one (ps_ret (pe_fn O_l_pick hr rfl (pa_cons (pv 0) (pa_cons (pe_lst (pa_cons (pv 3) (pa_cons (pv 4) (pa_cons (pe_op op_add (pv 3) (pe_fn O_l_draw hr rfl (pa_cons (pv 0) (pa_cons (pe_op op_add (pe_op op_sub (pv 4) (pv 3)) pe_int) pa_nil)))) pa_nil)))) pa_nil)))))))), ?_⟩
    refine ⟨_, rfl, _, _, 0, _, rfl, rfl, SqT.of ha, rfl, _, _, rfl, ?_⟩
    rw [max_if]
    refine ⟨_, rfl, _, _, 1, _, rfl, rfl, SqT.of ha, rfl, _, rfl, _, rfl, _, _, rfl, .inl (SqL.of hb), _, _, rfl, rfl, _, _, _, _, rfl, rfl, SqL.of hb, gb_last n1, _, _, rfl, rfl, _, _, rfl, ?_⟩
    rw [min_if]
    refine ⟨_, rfl, _, rfl, _, _, rfl, rfl, _, rfl, ite2 (fun c => ?_) fun c => ?_⟩
    · exact q1
    · have c : ¬ min b1 (tot bg - 1) < max b0 0 := fun z => c (decide_eq_true z)
      generalize hlo : max b0 0 = lo at c ⊢
      generalize hhi : min b1 (tot bg - 1) = hi at c ⊢
      refine ⟨_, rfl, _, rfl, _, rfl, _, rfl, _, rfl, _, rfl, _, rfl, _, _, rfl, rfl, _, _, rfl, rfl, sd, _, rfl, st, by omega, by omega, fun H1 r st1 e1 r0 r1 => ⟨_, _, rfl, rfl, by show 3 ≤ sizeLine; decide, fun l hl => ?_⟩⟩
      refine ⟨sd, l, [.int lo, .int hi, .int (lo + r)], rfl, st1.same (same_upd hl), upd_same, List.cons_ne_nil _ _, by show 3 < 1073741824; decide, fun H2 x st2 e2 m => ?_⟩
      obtain ⟨n, rfl, hn⟩ := mem3 m
      exact q2 H2 n st2 (e1.trans ((Ev.of (same_upd hl)).trans e2)) (by omega) (by omega) (by omega) (by omega)
theorem sc_l_box : FnScope ["_law_state", "_law_begins_here", "_law_low", "_law_start_here", "_law_down"] ["_law_state", "_law_begins_here", "_law_low"] (defScope s_law_box) := ⟨rfl, rfl, rfl, by decide +kernel, rfl, by decide +kernel, by decide +kernel⟩
theorem ok_box (T : Tx K mg) (O_l_draw : OkF P w K mg base 1 "_law_draw" ["_law_state", "_law_bound"] (spDraw K)) (O_l_pick : OkF P w K mg base 2 "_law_pick" ["_law_state", "_law_things"] (spPick K)) : OkF P w K mg base 3 "_law_box" ["_law_state", "_law_begins_here", "_law_low"] (spBox K) := by
  obtain ⟨fd, F⟩ := T.f_l_box
  refine ⟨_, fd, okD F sc_l_box (fun vs H Q E h => ?_) (fun cdv A outer s H vs Q E hr h => ?_), T.g_l_box, F.kp, F.bindsN fun _ _ _ _ _ _ us hl => match us, hl with | [_, _, _], _ => rfl⟩
  · obtain ⟨_, _, _, rfl, _⟩ := h
    rfl
  · obtain ⟨sd, v, lo, rfl, st, q⟩ := h
    refine ⟨_, (pss_cons (ps_set (i := 3) sc_l_box.nd rfl (Or.inl rfl) (pe_op op_sub (pe_op op_add (pv 2) (pe_fn O_l_draw hr rfl (pa_cons (pv 0) (pa_cons pe_int pa_nil)))) pe_int))
  (pss_cons (ps_set (i := 4) sc_l_box.nd rfl (Or.inl rfl) (pe_fn O_l_draw hr rfl (pa_cons (pv 0) (pa_cons pe_int pa_nil))))
  (pss_one (ps_ret (pe_tup (pa_cons (pv 3) (pa_cons (pe_op op_add (pv 3) (pe_fn O_l_draw hr rfl (pa_cons (pv 0) (pa_cons (pe_fn O_l_pick hr rfl (pa_cons (pv 0) (pa_cons (pe_lst (pa_cons pe_int (pa_cons pe_int (pa_cons pe_int pa_nil)))) pa_nil))) pa_nil)))) (pa_cons (pv 4) (pa_cons (pe_op op_add (pv 4) (pe_fn O_l_draw hr rfl (pa_cons (pv 0) (pa_cons pe_int pa_nil)))) pa_nil))))))))), ?_⟩
    refine ⟨_, rfl, _, rfl, sd, _, rfl, st, by decide, by decide, fun H1 r1 st1 e1 g10 g11 => ⟨_, _, rfl, rfl, _, _, rfl, rfl, ?_⟩⟩
    refine ⟨_, rfl, sd, _, rfl, st1, by decide, by decide, fun H2 r2 st2 e2 g20 g21 => ?_⟩
    refine ⟨_, rfl, _, rfl, _, rfl, _, rfl, by show 3 ≤ sizeLine; decide, fun l hl => ?_⟩
    refine ⟨sd, l, [.int 1, .int 6, .int 30], rfl, st2.same (same_upd hl), upd_same, List.cons_ne_nil _ _, by decide, fun H3 x3 st3 e3 m3 => ?_⟩
    obtain ⟨n3, rfl, hn3⟩ := mem3 m3
    refine ⟨sd, n3, rfl, st3, by omega, by omega, fun H4 r4 st4 e4 g40 g41 => ⟨_, _, rfl, rfl, _, rfl, _, rfl, _, rfl, sd, _, rfl, st4, by decide, by decide, fun H5 r5 st5 e5 g50 g51 => ⟨_, _, rfl, rfl, by show 4 ≤ sizeLine; decide, fun t ht => ?_⟩⟩⟩
    have ev := e1.trans (e2.trans ((Ev.of (same_upd hl)).trans (e3.trans (e4.trans (e5.trans (Ev.of (same_upd (o := .tup (bx (lo + r1 - 12) (lo + r1 - 12 + r4) r2 (r2 + r5))) ht)))))))
    exact q _ t _ _ _ _ (st5.same (same_upd ht)) ev upd_same (by omega) (by omega) (by omega)
theorem sc_l_vector : FnScope ["_law_state", "_law_radius", "_law_vectors", "_law_x", "_law_y"] ["_law_state", "_law_radius"] (defScope s_law_vector) := ⟨rfl, rfl, rfl, by decide +kernel, rfl, by decide +kernel, by decide +kernel⟩
theorem ok_l_vector (T : Tx K mg) (O_l_pick : OkF P w K mg base 2 "_law_pick" ["_law_state", "_law_things"] (spPick K)) : OkF P w K mg base 3 "_law_vector" ["_law_state", "_law_radius"] (spVec K) := by
  obtain ⟨fd, F⟩ := T.f_l_vector
  refine ⟨_, fd, okD F sc_l_vector (fun vs H Q E h => ?_) (fun cdv A outer s H vs Q E hr h => ?_), T.g_l_vector, F.kp, F.bindsN fun _ _ _ _ _ _ us hl => match us, hl with | [_, _], _ => rfl⟩
  · obtain ⟨_, _, rfl, _⟩ := h
    rfl
  · obtain ⟨sd, r, rfl, st, r10, q⟩ := h
    refine ⟨_, (pss_cons (ps_set (i := 2) sc_l_vector.nd rfl (Or.inl rfl) (pe_lst pa_nil))
  (pss_cons (ps_for PassesOwn.never rfl (pi_range2 rfl T.range (pa_cons (pe_un un_neg (pv 1)) (pa_cons (pe_op op_add (pv 1) pe_int) pa_nil))) (pg_name (i := 3) sc_l_vector.nd rfl (Or.inl rfl)) (pss_one (ps_for PassesOwn.never rfl (pi_range2 rfl T.range (pa_cons (pe_un un_neg (pv 1)) (pa_cons (pe_op op_add (pv 1) pe_int) pa_nil))) (pg_name (i := 4) sc_l_vector.nd rfl (Or.inl rfl)) (pss_one (ps_if (pt_cmpR op_le (pe_op op_add (pe_op op_mul (pv 3) (pv 3)) (pe_op op_mul (pv 4) (pv 4))) (pe_op op_mul (pv 1) (pv 1)) (nomark _)) (pss_one (ps_expr (pe_bm PySem.F.plainAttrs_list PySem.F.slot_list_append PySem.F.type_list_append mt_append (pv 2) (pa_cons (pe_tup (pa_cons (pv 3) (pa_cons (pv 4) pa_nil))) pa_nil)))) pss_nil)))))
  (pss_one (ps_ret (pe_fn O_l_pick hr rfl (pa_cons (pv 0) (pa_cons (pv 2) pa_nil))))))), ?_⟩
    refine ⟨by show 0 ≤ sizeLine; decide, fun l hl => ?_⟩
    have s0 := same_upd (o := .lst []) hl
    have en : ((r : Int) + 1 - -(r : Int)).toNat = 2 * r + 1 := by omega
    refine ⟨_, rfl, _, rfl, _, rfl, _, _, rfl, rfl, _, _, rfl, ⟨by omega, by omega, by omega, by omega⟩, ?_⟩
    rw [en]
    refine for_range (n := 2 * r + 1) (fun i σ H' => (∃ x3 x4 : Option V, σ = [some (.ref sd), some (.int r), some (.ref l), x3, x4]) ∧ Same H H' ∧ ∃ as, VecL H' l as r ∧ as.length ≤ 21 * i ∧ (r < i → as ≠ []))
      ⟨⟨_, _, rfl⟩, s0, [], ⟨upd_same, fun k hk => by cases hk⟩, Nat.zero_le _, fun z => absurd z (Nat.not_lt_zero _)⟩ (fun i σ H1 hi hP => ?_) (fun σ H1 hP => ?_)
    · obtain ⟨⟨x3, x4, rfl⟩, s1, as, hV, hz, hne⟩ := hP
      refine ⟨_, rfl, _, rfl, _, rfl, _, _, rfl, rfl, _, _, rfl, ⟨by omega, by omega, by omega, by omega⟩, ?_⟩
      rw [en]
      refine for_range (n := 2 * r + 1) (fun j σ H' => (∃ x4 : Option V, σ = [some (.ref sd), some (.int r), some (.ref l), some (.int (-(r : Int) + i)), x4]) ∧ Same H H' ∧ ∃ as, VecL H' l as r ∧ as.length ≤ 21 * i + j ∧ ((r < i ∨ i = r ∧ r < j) → as ≠ []))
        ⟨⟨_, rfl⟩, s1, as, hV, hz, fun z => hne (by omega)⟩ (fun j σ H2 hj hP2 => ?_) (fun σ H2 hP2 => ?_)
      · obtain ⟨⟨x4, rfl⟩, s2, as2, hV2, hz2, hne2⟩ := hP2
        refine ⟨_, rfl, _, rfl, _, _, rfl, rfl, .inl ⟨by omega, by omega⟩, _, rfl, _, rfl, _, _, rfl, rfl, .inl ⟨by omega, by omega⟩, _, _, rfl, rfl, ?_⟩
        refine ⟨_, rfl, _, rfl, _, _, rfl, rfl, .inl ⟨by omega, by omega⟩, _, _, rfl, rfl, _, rfl, ite2 (fun c => ?_) fun c => ?_⟩
        · have c := of_decide_eq_true c
          refine ⟨_, rfl, .inl ⟨rfl, _, SqL.of hV2.lst⟩, _, rfl, _, rfl, by show 2 ≤ sizeLine; decide, fun t ht => ?_⟩
          have nl : l ≠ t := fun z => by rw [← z, hV2.lst] at ht; cases ht
          refine ⟨l, _, _, rfl, rfl, by rw [upd_ne nl]; exact hV2.lst, by rw [List.length_map]; exact small1000 (by omega), ⟨_, rfl⟩, ?_, as2 ++ [t], ?_, ?_, fun _ => by simp⟩
          · exact same_upd_new (fun b o e => same_upd ht b o (s2 b o e)) hl
          · exact hV2.more ht c
          · rw [List.length_append]
            show as2.length + 1 ≤ 21 * i + (j + 1)
            omega
        · refine ⟨⟨_, rfl⟩, s2, as2, hV2, by omega, fun z => hne2 ?_⟩
          rcases z with z | ⟨z1, z2⟩
          · exact .inl z
          · refine .inr ⟨z1, ?_⟩
            by_cases zz : r < j
            · exact zz
            · exfalso
              have ej : j = r := by omega
              subst ej
              subst z1
              refine c (decide_eq_true ?_)
              have e0 : -(i : Int) + i = 0 := by omega
              show (-(i : Int) + (i : Int)) * (-(i : Int) + (i : Int)) + (-(i : Int) + (i : Int)) * (-(i : Int) + (i : Int)) ≤ (i : Int) * (i : Int)
              rw [e0]
              have := (sq_le (a := (i : Int)) (m := 10) (by omega)).1
              omega
      · obtain ⟨⟨x4, rfl⟩, s2, as2, hV2, hz2, hne2⟩ := hP2
        exact ⟨⟨_, _, rfl⟩, s2, as2, hV2, by omega, fun z => hne2 (by omega)⟩
    · obtain ⟨⟨x3, x4, rfl⟩, s1, as, hV, hz, hne⟩ := hP
      have hne := hne (by omega)
      refine ⟨_, rfl, _, rfl, sd, l, as.map V.ref, rfl, st.same s1, hV.lst, by simpa using hne, by rw [List.length_map]; omega, fun H2 x st2 e2 m => ?_⟩
      obtain ⟨k, hk, rfl⟩ := List.mem_map.mp m
      obtain ⟨vx, vy, h1, h2⟩ := hV.all k hk
      exact q H2 k vx vy st2 ((Ev.of s1).trans e2) (e2.tup h1) h2
end
end K16
set_option maxHeartbeats 4000000
namespace K16
open PySem PySem.Spec PyProof.Rows L2
open GxR (TabG Tabbed)
open Geo (Pt)
/-- the legs' lengths by names -/
structure LenOk (H : Hp) (ld : Addr) (c : Ch) (kvs : List (List Key × V)) : Prop where
  dt : H ld = some (.dT kvs)
  has : ∀ s e p q, (s, e) ∈ c.lg → c.fx s = some p → c.fx e = some q → valV kvs [.inr s, .inr e] = some (.int (rup (d2 p q)))
theorem LenOk.ev {ts : List Addr} {sd : Addr} {H H' : Hp} {ld : Addr} {c : Ch} {kvs : List (List Key × V)} (h : LenOk H ld c kvs) (e : Ev ts sd H H') : LenOk H' ld c kvs := ⟨e.dT h.dt, h.has⟩
/-- each step of the route is a leg -/
def RtLg (c : Ch) (rt : List Str) : Prop := ∀ i s e, rt[i]? = some s → rt[i + 1]? = some e → (s, e) ∈ c.lg
theorem d2_flip (p q : Pt) : (p.1 - q.1) * (p.1 - q.1) + (p.2 - q.2) * (p.2 - q.2) = d2 p q := by
  unfold d2
  grind
def spLengths (K : PySem.W.Frag) : Sp := fun vs H Q _ => ∃ (sd : Addr) (c : Ch), vs = [.ref c.ca] ∧ ChOk H sd c ∧ ∀ H' ld kvs, Same H H' → LenOk H' ld c kvs → Q (.ref ld) H'
def spBegins (K : PySem.W.Frag) : Sp := fun vs H Q _ => ∃ (ld r : Addr) (c : Ch) (kvs : List (List Key × V)) (rt : List Str) (pts : List Pt), vs = [.ref ld, .ref r] ∧ LenOk H ld c kvs ∧ H r = some (.tup (rt.map V.str)) ∧ RtOk c rt pts ∧ RtLg c rt ∧ 2 ≤ rt.length ∧ rt.length ≤ 8 ∧
  (∀ i, PtOk (gP pts i)) ∧ ∀ H' b bg, Same H H' → H' b = some (.lst (bg.map V.int)) → Chain pts bg → Q (.ref b) H'
def spWalk (K : PySem.W.Frag) : Sp := fun vs H Q _ => ∃ (sd : Addr) (c : Ch) (m : Int), vs = [.ref sd, .ref c.ca, .int m] ∧ StOk H sd ∧ ChOk H sd c ∧ c.lg ≠ [] ∧ 0 < m ∧ m ≤ 5 ∧
  ∀ H' r rt, StOk H' sd → Ev (tbs K) sd H H' → H' r = some (.tup (rt.map V.str)) → 2 ≤ rt.length → rt.length ≤ 8 → RtLg c rt → Q (.ref r) H'
theorem gB_app {bg : List Int} {x : Int} {i : Nat} (h : i < bg.length) : gB (bg ++ [x]) i = gB bg i := by
  unfold gB
  rw [List.getD_eq_getElem?_getD, List.getElem?_append_left h, List.getD_eq_getElem?_getD]
theorem gB_lst {bg : List Int} {x : Int} {i : Nat} (h : i = bg.length) : gB (bg ++ [x]) i = x := by
  subst h
  unfold gB
  rw [List.getD_eq_getElem?_getD, List.getElem?_append_right (Nat.le_refl _), Nat.sub_self]
  rfl
section
variable {P : Program} {w : World} {K : PySem.W.Frag} {mg : Str → Option Value} {base : Heap}
theorem sc_l_lengths : FnScope ["_law_chart_here", "_law_lengths_here", "_law_leg_here", "_law_a", "_law_b"] ["_law_chart_here"] (defScope s_law_lengths) := ⟨rfl, rfl, rfl, by decide +kernel, rfl, by decide +kernel, by decide +kernel⟩
theorem ok_lengths (T : Tx K mg) (O_l_root_up : OkF P w K mg base 1 "_law_root_up" ["_law_n"] spLRoot) : OkF P w K mg base 2 "_law_lengths" ["_law_chart_here"] (spLengths K) := by
  obtain ⟨fd, F⟩ := T.f_l_lengths
  refine ⟨_, fd, okD F sc_l_lengths (fun vs H Q E h => ?_) (fun cdv A outer s H vs Q E hr h => ?_), T.g_l_lengths, F.kp, F.bindsN fun _ _ _ _ _ _ us hl => match us, hl with | [_], _ => rfl⟩
  · obtain ⟨_, _, rfl, _⟩ := h
    rfl
  · obtain ⟨sd, c, rfl, h, q⟩ := h
    have hu := hu_of hr
    refine ⟨_, (pss_cons (ps_set (i := 1) sc_l_lengths.nd rfl (Or.inl rfl) (pe_dnewT))
  (pss_cons (ps_for PassesOwn.never rfl (pi_list (pe_dget hu (pv 0) pe_str (fun _ _ => rfl))) (pg_name (i := 2) sc_l_lengths.nd rfl (Or.inl rfl)) (pss_cons (ps_set (i := 3) sc_l_lengths.nd rfl (Or.inl rfl) (pe_dget hu (pe_dget hu (pv 0) pe_str (fun _ _ => rfl)) (pe_ix ix_tup (pv 2) pe_int (fun _ _ => rfl)) (fun _ _ => rfl)))
  (pss_cons (ps_set (i := 4) sc_l_lengths.nd rfl (Or.inl rfl) (pe_dget hu (pe_dget hu (pv 0) pe_str (fun _ _ => rfl)) (pe_ix ix_tup (pv 2) pe_int (fun _ _ => rfl)) (fun _ _ => rfl)))
  (pss_one (ps_dput hu (pv 1) (pe_tup (pa_cons (pe_ix ix_tup (pv 2) pe_int (fun _ _ => rfl)) (pa_cons (pe_ix ix_tup (pv 2) pe_int (fun _ _ => rfl)) pa_nil))) (pe_fn O_l_root_up hr rfl (pa_cons (pe_op op_add (pe_op op_mul (pe_op op_sub (pe_ix ix_tup (pv 3) pe_int (fun _ _ => rfl)) (pe_ix ix_tup (pv 4) pe_int (fun _ _ => rfl))) (pe_op op_sub (pe_ix ix_tup (pv 3) pe_int (fun _ _ => rfl)) (pe_ix ix_tup (pv 4) pe_int (fun _ _ => rfl)))) (pe_op op_mul (pe_op op_sub (pe_ix ix_tup (pv 3) pe_int (fun _ _ => rfl)) (pe_ix ix_tup (pv 4) pe_int (fun _ _ => rfl))) (pe_op op_sub (pe_ix ix_tup (pv 3) pe_int (fun _ _ => rfl)) (pe_ix ix_tup (pv 4) pe_int (fun _ _ => rfl))))) pa_nil)) rfl)))))
  (pss_one (ps_ret (pv 1))))), ?_⟩
    refine fun ld hld => ?_
    have s0 := same_upd (o := .dT []) hld
    have h0 := h.same s0
    refine ⟨_, rfl, _, _, rfl, h0.gl, _, rfl, ⟨_, SqL.of h0.lgs⟩, for_list (xs := c.as.map V.ref) (fun i σ H' => (∃ x2 x3 x4 : Option V, σ = [some (.ref c.ca), some (.ref ld), x2, x3, x4]) ∧ Same H H' ∧ ∃ kvs, H' ld = some (.dT kvs) ∧ kvs.length ≤ i ∧
        ∀ j s e p q, j < i → c.lg[j]? = some (s, e) → c.fx s = some p → c.fx e = some q → valV kvs [.inr s, .inr e] = some (.int (rup (d2 p q))))
      ⟨⟨_, _, _, rfl⟩, s0, [], upd_same, Nat.le_refl _, fun j s e p q hj => absurd hj (Nat.not_lt_zero _)⟩ (fun i σ H' _ hP => SqL.of (hP.2.1 _ _ h.lgs)) (fun i z σ H1 hz hP => ?_) (fun σ H1 hP => ?_)⟩
    · obtain ⟨⟨x2, x3, x4, rfl⟩, s1, kvs, hk, hn, hv⟩ := hP
      obtain ⟨k, hk2, rfl⟩ : ∃ k, c.as[i]? = some k ∧ z = .ref k := by
        rw [List.getElem?_map] at hz
        cases hh : c.as[i]? with
        | none => rw [hh] at hz; cases hz
        | some n => rw [hh] at hz; exact ⟨n, rfl, (Option.some.inj hz).symm⟩
      have h1 := h.same s1
      obtain ⟨s, e, vx, vy, vz, hlg, hkt⟩ := h1.leg i k hk2
      obtain ⟨⟨p, hp⟩, r, hr2⟩ := h.ends s e (List.mem_of_getElem? hlg)
      obtain ⟨k1, g1, e1⟩ := h1.gx hp
      obtain ⟨k2, g2, e2⟩ := h1.gx hr2
      have b1 := (h.fx _ _ hp).1
      have b2 := (h.fx _ _ hr2).1
      have bb := d2_bd b1 b2
      unfold PtOk at b1 b2
      refine ⟨_, rfl, _, _, rfl, h1.gf, _, rfl, _, _, 0, _, rfl, rfl, SqT.of hkt, rfl, _, _, rfl, g1, ?_⟩
      refine ⟨_, rfl, _, _, rfl, h1.gf, _, rfl, _, _, 1, _, rfl, rfl, SqT.of hkt, rfl, _, _, rfl, g2, ?_⟩
      refine ⟨_, rfl, _, _, 0, _, rfl, rfl, SqT.of e1, rfl, _, rfl, _, _, 0, _, rfl, rfl, SqT.of e2, rfl, _, _, rfl, rfl, _, rfl, _, _, 0, _, rfl, rfl, SqT.of e1, rfl, _, rfl, _, _, 0, _, rfl, rfl, SqT.of e2, rfl, _, _, rfl, rfl, _, _, rfl, rfl, .inl ⟨by omega, by omega⟩, ?_⟩
      refine ⟨_, rfl, _, _, 1, _, rfl, rfl, SqT.of e1, rfl, _, rfl, _, _, 1, _, rfl, rfl, SqT.of e2, rfl, _, _, rfl, rfl, _, rfl, _, _, 1, _, rfl, rfl, SqT.of e1, rfl, _, rfl, _, _, 1, _, rfl, rfl, SqT.of e2, rfl, _, _, rfl, rfl, _, _, rfl, rfl, .inl ⟨by omega, by omega⟩, _, _, rfl, rfl, ?_⟩
      refine ⟨_, rfl, by rw [d2_flip]; exact bb.1, by rw [d2_flip]; omega, ?_⟩
      rw [d2_flip]
      refine ⟨_, rfl, _, rfl, _, _, 0, _, rfl, rfl, SqT.of hkt, rfl, _, rfl, _, _, 1, _, rfl, rfl, SqT.of hkt, rfl, by show 2 ≤ sizeLine; decide, fun t ht => ?_⟩
      have nt : ld ≠ t := fun z => by rw [← z, hk] at ht; cases ht
      have hi := (List.getElem?_eq_some_iff.mp hlg).1
      have hsz := h.sz
      refine ⟨ld, _, rfl, DPut.t (k := [.inr s, .inr e]) (by rw [upd_ne nt]; exact hk) upd_same (small1000 (by omega)), ⟨_, _, _, rfl⟩, same_upd_new (fun b o eb => same_upd ht b o (s1 b o eb)) hld, _, upd_same, ?_, fun j s' e' p' q' hj hl' hp' hq' => ?_⟩
      · have : (putK kvs [.inr s, .inr e] (V.int (rup (d2 p r)))).length ≤ kvs.length + 1 := by
          unfold putK
          split
          · rw [List.length_map]; omega
          · rw [List.length_append]; exact Nat.le_refl _
        omega
      · rw [valV_put]
        by_cases ek : ([.inr s', .inr e'] : List Key) = [.inr s, .inr e]
        · rw [if_pos ek]
          obtain ⟨rfl, rfl⟩ : s' = s ∧ e' = e := by
            have z1 := List.cons.inj ek
            have z2 := List.cons.inj z1.2
            exact ⟨Sum.inr.inj z1.1, Sum.inr.inj z2.1⟩
          rw [hp] at hp'
          rw [hr2] at hq'
          rw [Option.some.inj hp', Option.some.inj hq']
        · rw [if_neg ek]
          by_cases ej : j = i
          · subst ej
            rw [hlg] at hl'
            cases hl'
            exact absurd rfl ek
          · exact hv j s' e' p' q' (by omega) hl' hp' hq'
    · obtain ⟨⟨x2, x3, x4, rfl⟩, s1, kvs, hk, hn, hv⟩ := hP
      refine ⟨_, rfl, q H1 ld kvs s1 ⟨hk, fun s e p q hm hp hq => ?_⟩⟩
      obtain ⟨j, hj, hje⟩ := List.getElem_of_mem hm
      have hl : (c.as.map V.ref).length = c.lg.length := by rw [List.length_map, h.len]
      exact hv j s e p q (by omega) (by rw [List.getElem?_eq_getElem hj, hje]) hp hq
theorem sc_l_begins : FnScope ["_law_lengths_here", "_law_route", "_law_begins_here", "_law_k"] ["_law_lengths_here", "_law_route"] (defScope s_law_begins) := ⟨rfl, rfl, rfl, by decide +kernel, rfl, by decide +kernel, by decide +kernel⟩
theorem ok_begins (T : Tx K mg) : OkF P w K mg base 1 "_law_begins" ["_law_lengths_here", "_law_route"] (spBegins K) := by
  obtain ⟨fd, F⟩ := T.f_l_begins
  refine ⟨_, fd, okD F sc_l_begins (fun vs H Q E h => ?_) (fun cdv A outer s H vs Q E hr h => ?_), T.g_l_begins, F.kp, F.bindsN fun _ _ _ _ _ _ us hl => match us, hl with | [_, _], _ => rfl⟩
  · obtain ⟨_, _, _, _, _, _, rfl, _⟩ := h
    rfl
  · obtain ⟨ld, r, c, kvs, rt, pts, rfl, hL, hr2, R, G, n2, n8, hpb, q⟩ := h
    have hu := hu_of hr
    refine ⟨_, (pss_cons (ps_set (i := 2) sc_l_begins.nd rfl (Or.inl rfl) (pe_lst (pa_cons pe_int pa_nil)))
  (pss_cons (ps_for PassesOwn.never rfl (pi_range1 rfl T.range (pa_cons (pe_op op_sub (pe_callB call_len_seq (by rfl) T.len (by decide +kernel) (pa_cons (pv 1) pa_nil)) pe_int) pa_nil)) (pg_name (i := 3) sc_l_begins.nd rfl (Or.inl rfl)) (pss_one (ps_expr (pe_bm PySem.F.plainAttrs_list PySem.F.slot_list_append PySem.F.type_list_append mt_append (pv 2) (pa_cons (pe_op op_add (pe_ix ix_list (pv 2) (pv 3) (fun _ _ => rfl)) (pe_dget hu (pv 0) (pe_tup (pa_cons (pe_ix ix_tup (pv 1) (pv 3) (fun _ _ => rfl)) (pa_cons (pe_ix ix_tup (pv 1) (pe_op op_add (pv 3) pe_int) (fun _ _ => rfl)) pa_nil))) (fun _ _ => rfl))) pa_nil)))))
  (pss_one (ps_ret (pv 2))))), ?_⟩
    refine ⟨by show 1 ≤ sizeLine; decide, fun b hb => ?_⟩
    have s0 := same_upd (o := .lst [.int 0]) hb
    refine ⟨_, rfl, _, _, rfl, .inr (SqT.of (s0 _ _ hr2)), _, _, rfl, rfl, _, rfl, by rw [List.length_map]; omega, by rw [List.length_map]; omega, ?_⟩
    have en : (((rt.map V.str).length : Int) - 1).toNat = rt.length - 1 := by rw [List.length_map]; omega
    rw [en]
    have rl := R.len
    refine for_range (n := rt.length - 1) (fun i σ H' => (∃ x3 : Option V, σ = [some (.ref ld), some (.ref r), some (.ref b), x3]) ∧ Same H H' ∧ ∃ bg : List Int, H' b = some (.lst (bg.map V.int)) ∧ bg.length = i + 1 ∧ gB bg 0 = 0 ∧ ∀ j, j < i → gB bg (j + 1) = gB bg j + rup (d2 (gP pts j) (gP pts (j + 1))))
      ⟨⟨_, rfl⟩, s0, [0], upd_same, rfl, rfl, fun j hj => absurd hj (Nat.not_lt_zero _)⟩ (fun i σ H1 hi hP => ?_) (fun σ H1 hP => ?_)
    · obtain ⟨⟨x3, rfl⟩, s1, bg, hbg, hn, g0, gs⟩ := hP
      rw [Int.zero_add]
      obtain ⟨m1, i1, x1⟩ := R.at_ i (by omega)
      obtain ⟨m2, i2, x2⟩ := R.at_ (i + 1) (by omega)
      have hr3 := s1 _ _ hr2
      have hv := hL.has m1 m2 _ _ (G i m1 m2 i1 i2) x1 x2
      refine ⟨_, rfl, .inl ⟨rfl, _, SqL.of hbg⟩, _, rfl, _, rfl, _, _, _, _, rfl, rfl, SqL.of hbg, gb_of (i := i) (by omega), ?_⟩
      refine ⟨_, rfl, _, rfl, _, rfl, _, _, _, _, rfl, rfl, SqT.of hr3, atI_str i1, _, rfl, _, rfl, _, _, rfl, rfl, _, _, _, _, rfl, rfl, SqT.of hr3, atI_str (i := i + 1) i2, by show 2 ≤ sizeLine; decide, fun t ht => ?_⟩
      have s2 := same_upd (o := .tup [.str m1, .str m2]) ht
      have hld := s2 _ _ (s1 _ _ hL.dt)
      have hbg2 := s2 _ _ hbg
      refine ⟨ld, _, rfl, by rw [← hv]; exact DGet.t (k := [.inr m1, .inr m2]) hld upd_same, _, _, rfl, rfl, b, _, _, rfl, rfl, hbg2, by rw [List.length_map]; exact small1000 (by omega), ⟨_, rfl⟩, same_upd_new (fun a o ea => s2 a o (s1 a o ea)) hb, bg ++ [gB bg i + rup (d2 (gP pts i) (gP pts (i + 1)))], by rw [upd_same, List.map_append]; rfl, by rw [List.length_append, hn]; rfl, ?_, fun j hj => ?_⟩
      · rw [gB_app (by omega)]
        exact g0
      · by_cases ej : j = i
        · subst ej
          rw [gB_lst (i := j + 1) (by omega), gB_app (i := j) (by omega)]
        · rw [gB_app (i := j + 1) (by omega), gB_app (i := j) (by omega)]
          exact gs j (by omega)
    · obtain ⟨⟨x3, rfl⟩, s1, bg, hbg, hn, g0, gs⟩ := hP
      exact ⟨_, rfl, q H1 b bg s1 hbg ⟨g0, fun i hi => gs i (by omega), hpb, by omega, by omega, by omega⟩⟩
end
end K16
set_option maxHeartbeats 4000000
namespace K16
open PySem PySem.Spec PyProof.Rows L2
open GxR (TabG Tabbed)
open Geo (Pt)
theorem at_map {α β : Type} {f : α → β} {xs : List α} {i : Nat} {z : β} (h : (xs.map f)[i]? = some z) : ∃ k, xs[i]? = some k ∧ z = f k := by
  rw [List.getElem?_map] at h
  cases hh : xs[i]? with
  | none => rw [hh] at h; cases h
  | some n => rw [hh] at h; exact ⟨n, rfl, (Option.some.inj h).symm⟩
theorem RtLg.more {c : Ch} {rt : List Str} {last e : Str} (h : RtLg c rt) (hl : rt[rt.length - 1]? = some last) (hm : (last, e) ∈ c.lg) : RtLg c (rt ++ [e]) := by
  intro i s t h1 h2
  have hi := (List.getElem?_eq_some_iff.mp h2).1
  rw [List.length_append] at hi
  have z : ([e] : List Str).length = 1 := rfl
  by_cases hlt : i + 1 < rt.length
  · rw [List.getElem?_append_left (by omega)] at h1
    rw [List.getElem?_append_left hlt] at h2
    exact h i s t h1 h2
  · rw [List.getElem?_append_left (by omega)] at h1
    rw [List.getElem?_append_right (by omega), show i + 1 - rt.length = 0 by omega] at h2
    rw [show i = rt.length - 1 by omega, hl] at h1
    cases h1
    cases h2
    exact hm
section
variable {P : Program} {w : World} {K : PySem.W.Frag} {mg : Str → Option Value} {base : Heap}
theorem sc_l_walk : FnScope ["_law_state", "_law_chart_here", "_law_most", "_law_starts", "_law_route", "_law_k", "_law_ends", "_law_leg_here"] ["_law_state", "_law_chart_here", "_law_most"] (defScope s_law_walk) := ⟨rfl, rfl, rfl, by decide +kernel, rfl, by decide +kernel, by decide +kernel⟩
theorem ok_walk (T : Tx K mg) (O_l_draw : OkF P w K mg base 1 "_law_draw" ["_law_state", "_law_bound"] (spDraw K)) (O_l_pick : OkF P w K mg base 2 "_law_pick" ["_law_state", "_law_things"] (spPick K)) : OkF P w K mg base 3 "_law_walk" ["_law_state", "_law_chart_here", "_law_most"] (spWalk K) := by
  obtain ⟨fd, F⟩ := T.f_l_walk
  refine ⟨_, fd, okD F sc_l_walk (fun vs H Q E h => ?_) (fun cdv A outer s H vs Q E hr h => ?_), T.g_l_walk, F.kp, F.bindsN fun _ _ _ _ _ _ us hl => match us, hl with | [_, _, _], _ => rfl⟩
  · obtain ⟨_, _, _, rfl, _⟩ := h
    rfl
  · obtain ⟨sd, c, m, rfl, st, h, hne, m0, m5, q⟩ := h
    have hu := hu_of hr
    refine ⟨_, (pss_cons (ps_setLc (i := 3) (own := [("_law_leg_here", 7)]) (g := gName 7) (tt := tYes) rfl sc_l_walk.nd rfl rfl (sw_true rfl rfl rfl (by decide +kernel)) (pi_list (pe_dget hu (pv 1) pe_str (fun _ _ => rfl))) (blkOk_by (own := [("_law_leg_here", 7)]) (N := ["_law_state", "_law_chart_here", "_law_most", "_law_starts", "_law_route", "_law_k", "_law_ends", "_law_leg_here"]) (sc := defScope s_law_walk) (by decide +kernel)) (fun _ _ _ _ _ => (pg_name (i := 7) sc_l_walk.nd rfl (Or.inl rfl))) (fun _ _ _ _ _ => pts_nil) (fun _ _ _ _ _ => (pe_ix (r := rIxT K) ix_tup (pv 7) pe_int (fun _ _ => rfl))))
  (pss_cons (ps_set (i := 4) sc_l_walk.nd rfl (Or.inr rfl) (pe_lst (pa_cons (pe_fn O_l_pick hr rfl (pa_cons (pv 0) (pa_cons (pv 3) pa_nil))) pa_nil)))
  (pss_cons (ps_for PassesOwn.never rfl (pi_range1 rfl T.range (pa_cons (pe_op op_add pe_int (pe_fn O_l_draw hr rfl (pa_cons (pv 0) (pa_cons (pv 2) pa_nil)))) pa_nil)) (pg_name (i := 5) sc_l_walk.nd rfl (Or.inl rfl)) (pss_cons (ps_setLc (i := 6) (own := [("_law_leg_here", 7)]) (g := gName 7) rfl sc_l_walk.nd rfl rfl (sw_true rfl rfl rfl (by decide +kernel)) (pi_list (pe_dget hu (pv 1) pe_str (fun _ _ => rfl))) (blkOk_by (own := [("_law_leg_here", 7)]) (N := ["_law_state", "_law_chart_here", "_law_most", "_law_starts", "_law_route", "_law_k", "_law_ends", "_law_leg_here"]) (sc := defScope s_law_walk) (by decide +kernel)) (fun _ _ _ _ _ => (pg_name (i := 7) sc_l_walk.nd rfl (Or.inl rfl))) (fun _ _ _ _ _ => pts_one (pt_cmpR op_eq (pe_ix (r := rIxT K) ix_tup (pv 7) pe_int (fun _ _ => rfl)) (pe_ix (r := rIxL K) ix_list (pv 4) (pe_op op_sub (pe_callB (r := rLenK K) call_len_seq (by rfl) T.len (by decide +kernel) (pa_cons (pv 4) pa_nil)) pe_int) (fun _ _ => rfl)) (nomark _))) (fun _ _ _ _ _ => (pe_ix (r := rIxT K) ix_tup (pv 7) pe_int (fun _ _ => rfl))))
  (pss_one (ps_if (pt_cmpR op_gt (pe_callB call_len_seq (by rfl) T.len (by decide +kernel) (pa_cons (pv 6) pa_nil)) pe_int (nomark _)) (pss_one (ps_expr (pe_bm PySem.F.plainAttrs_list PySem.F.slot_list_append PySem.F.type_list_append mt_append (pv 4) (pa_cons (pe_fn O_l_pick hr rfl (pa_cons (pv 0) (pa_cons (pv 6) pa_nil))) pa_nil)))) pss_nil))))
  (pss_one (ps_ret (pe_callTy call_tuple_of (by rfl) T.tuple (by decide +kernel) (pa_cons (pv 4) pa_nil))))))), ?_⟩
    have hcl : (c.as.map V.ref).length = c.lg.length := by rw [List.length_map, h.len]
    have hsz := h.sz
    refine ⟨_, rfl, _, _, rfl, h.gl, _, rfl, ⟨_, SqL.of h.lgs⟩, fun D hD => lc_list (xs := c.as.map V.ref) (fun i H' => Same H H' ∧ ∃ ss : List Str, H' D = some (.lst (ss.map V.str)) ∧ ss.length = i ∧ ∀ s ∈ ss, ∃ e, (s, e) ∈ c.lg) ⟨same_upd hD, [], upd_same, rfl, fun s hs => by cases hs⟩
      (fun i H' hi hP => SqL.of (hP.1 _ _ h.lgs)) (fun i x H1 hx hP => ?_) (fun H1 hP => ?_)⟩
    · obtain ⟨s1, ss, hd, hn, hs⟩ := hP
      obtain ⟨k, hk2, rfl⟩ := at_map hx
      obtain ⟨s, e, vx, vy, vz, hlg, hkt⟩ := (h.same s1).leg i k hk2
      have hi := (List.getElem?_eq_some_iff.mp hlg).1
      refine ⟨rfl, _, rfl, _, _, 0, _, rfl, rfl, SqT.of hkt, rfl, _, hd, by rw [List.length_map]; exact small1000 (by omega), same_upd_new s1 hD, ss ++ [s], by rw [upd_same, List.map_append]; rfl, by rw [List.length_append, hn]; rfl, fun t ht => ?_⟩
      rcases List.mem_append.mp ht with ht | ht
      · exact hs t ht
      · rw [List.mem_singleton.mp ht]
        exact ⟨e, List.mem_of_getElem? hlg⟩
    · obtain ⟨s1, ss, hd, hn, hs⟩ := hP
      have ssne : ss ≠ [] := fun z => by
        rw [z] at hn
        have : 0 < c.lg.length := List.length_pos_iff.mpr hne
        have : ([] : List Str).length = 0 := rfl
        omega
      refine ⟨_, rfl, _, rfl, sd, D, ss.map V.str, rfl, st.same s1, hd, by simpa using ssne, by rw [List.length_map]; omega, fun H2 x st2 e2 mx => ?_⟩
      obtain ⟨nm, hnm, rfl⟩ := List.mem_map.mp mx
      refine ⟨by show 1 ≤ sizeLine; decide, fun rl hrl => ?_⟩
      have ev2 : Ev (tbs K) sd H H2 := (Ev.of s1).trans e2
      have hrl0 : H rl = none := ev2.free _ hrl
      refine ⟨_, rfl, _, rfl, sd, m, rfl, st2.same (same_upd hrl), m0, by omega, fun H3 r st3 e3 r0 r1 => ⟨_, _, rfl, rfl, _, rfl, by omega, by omega, ?_⟩⟩
      have ev3 : Ev (tbs K) sd H H3 := ev2.trans ((Ev.of (same_upd hrl)).trans e3)
      have hl3 : H3 rl = some (.lst [.str nm]) := e3.lst upd_same
      refine for_range (n := (1 + r).toNat) (fun i σ H' => (∃ x5 x6 x7 : Option V, σ = [some (.ref sd), some (.ref c.ca), some (.int m), some (.ref D), some (.ref rl), x5, x6, x7]) ∧ StOk H' sd ∧ Ev (tbs K) sd H H' ∧ ∃ (rt : List Str) (last : Str), H' rl = some (.lst (rt.map V.str)) ∧ 1 ≤ rt.length ∧ rt.length ≤ i + 1 ∧ (1 ≤ i → 2 ≤ rt.length) ∧ RtLg c rt ∧ rt[rt.length - 1]? = some last ∧ (i = 0 → ∃ e, (last, e) ∈ c.lg))
        ⟨⟨_, _, _, rfl⟩, st3, ev3, [nm], nm, hl3, Nat.le_refl _, Nat.le_refl _, fun z => absurd z (by decide), fun i s e h1 h2 => (by have := (List.getElem?_eq_some_iff.mp h2).1; have z : ([nm] : List Str).length = 1 := rfl; omega), rfl, fun _ => hs nm hnm⟩ (fun i σ H4 hi hP => ?_) (fun σ H4 hP => ?_)
      · obtain ⟨⟨x5, x6, x7, rfl⟩, st4, ev4, rt, last, hrt, n1, n2, n3, hG, hlast, hout⟩ := hP
        have h4 := h.ev ev4
        have hlen : (rt.map V.str).length = rt.length := List.length_map ..
        refine ⟨_, rfl, _, _, rfl, h4.gl, _, rfl, ⟨_, SqL.of h4.lgs⟩, fun D2 hD2 => lc_list (xs := c.as.map V.ref) (fun j H' => Same H4 H' ∧ ∃ ss : List Str, H' D2 = some (.lst (ss.map V.str)) ∧ ss.length ≤ j ∧ (∀ e ∈ ss, (last, e) ∈ c.lg) ∧ ∀ k e, k < j → c.lg[k]? = some (last, e) → ss ≠ []) ⟨same_upd hD2, [], upd_same, Nat.le_refl _, fun s hs => (by cases hs), fun k e hk => absurd hk (Nat.not_lt_zero _)⟩
          (fun j H' hj hP => SqL.of (hP.1 _ _ h4.lgs)) (fun j x H5 hx hP => ?_) (fun H5 hP => ?_)⟩
        · obtain ⟨s5, ss5, hd5, hn5, hs5, hz5⟩ := hP
          obtain ⟨k, hk2, rfl⟩ := at_map hx
          obtain ⟨s, e, vx, vy, vz, hlg, hkt⟩ := (h4.same s5).leg j k hk2
          have hj := (List.getElem?_eq_some_iff.mp hlg).1
          have hla : atI (rt.map V.str) (((rt.map V.str).length : Int) - 1) = some (.str last) := by
            have z := atI_str hlast
            rw [hlen]
            rw [show ((rt.length - 1 : Nat) : Int) = (rt.length : Int) - 1 by omega] at z
            exact z
          have hrt5 := s5 _ _ hrt
          refine ⟨rfl, _, rfl, _, _, 0, _, rfl, rfl, SqT.of hkt, rfl, _, rfl, _, rfl, _, _, rfl, .inl (SqL.of hrt5), _, _, rfl, rfl, _, _, _, _, rfl, rfl, SqL.of hrt5, hla, rfl, _, rfl, ite2 (fun ce => ?_) fun ce => ?_⟩
          · have ce : s = last := V.str.inj (of_decide_eq_true ce)
            subst ce
            refine ⟨_, rfl, _, _, 1, _, rfl, rfl, SqT.of hkt, rfl, _, hd5, by rw [List.length_map]; exact small1000 (by omega), same_upd_new s5 hD2, ss5 ++ [e], by rw [upd_same, List.map_append]; rfl, ?_, fun t ht => ?_, fun _ _ _ _ => by simp⟩
            · rw [List.length_append]
              show ss5.length + 1 ≤ j + 1
              omega
            · rcases List.mem_append.mp ht with ht | ht
              · exact hs5 t ht
              · rw [List.mem_singleton.mp ht]
                exact List.mem_of_getElem? hlg
          · have ce : ¬ s = last := fun z => ce (decide_eq_true (congrArg V.str z))
            refine ⟨s5, ss5, hd5, by omega, hs5, fun k' e' hk' hl' => ?_⟩
            by_cases ek : k' = j
            · subst ek
              rw [hlg] at hl'
              cases hl'
              exact absurd rfl ce
            · exact hz5 k' e' (by omega) hl'
        · obtain ⟨s5, ss5, hd5, hn5, hs5, hz5⟩ := hP
          have hrt5 := s5 _ _ hrt
          refine ⟨_, rfl, _, _, rfl, .inl (SqL.of hd5), _, _, rfl, rfl, _, rfl, ite2 (fun ce => ?_) fun ce => ?_⟩
          · have ce : (0 : Int) < ((ss5.map V.str).length : Int) := of_decide_eq_true ce
            have ne5 : ss5.map V.str ≠ [] := fun z => by rw [z] at ce; exact absurd ce (by decide)
            refine ⟨_, rfl, .inl ⟨rfl, _, SqL.of hrt5⟩, _, rfl, _, rfl, sd, D2, ss5.map V.str, rfl, st4.same s5, hd5, ne5, by rw [List.length_map]; omega, fun H6 x st6 e6 mx => ?_⟩
            obtain ⟨nm6, hnm6, rfl⟩ := List.mem_map.mp mx
            have hrt6 := e6.lst hrt5
            have ev6 : Ev (tbs K) sd H H6 := ev4.trans ((Ev.of s5).trans e6)
            refine ⟨rl, _, _, rfl, rfl, hrt6, by rw [hlen]; exact small1000 (by omega), ⟨_, _, _, rfl⟩, st.upd ev6 st6 hrl0, ev6.upd_new hrl0, rt ++ [nm6], nm6, by rw [upd_same, List.map_append]; rfl, ?_, ?_, fun _ => ?_, hG.more hlast (hs5 nm6 hnm6), ?_, fun z => absurd z (Nat.succ_ne_zero _)⟩
            · rw [List.length_append]; exact Nat.le_add_left _ _
            · rw [List.length_append]; show rt.length + 1 ≤ i + 1 + 1; omega
            · rw [List.length_append]; show 2 ≤ rt.length + 1; omega
            · rw [List.length_append, List.getElem?_append_right (by show rt.length ≤ rt.length + 1 - 1; omega)]
              show [nm6][rt.length + 1 - 1 - rt.length]? = some nm6
              rw [show rt.length + 1 - 1 - rt.length = 0 by omega]
              rfl
          · have ce : ¬ (0 : Int) < ((ss5.map V.str).length : Int) := fun z => ce (decide_eq_true z)
            have e0 : ss5 = [] := by
              rw [List.length_map] at ce
              exact List.length_eq_zero_iff.mp (by omega)
            refine ⟨⟨_, _, _, rfl⟩, st4.same s5, ev4.trans (Ev.of s5), rt, last, hrt5, n1, by omega, fun _ => ?_, hG, hlast, fun z => absurd z (Nat.succ_ne_zero _)⟩
            by_cases iz : i = 0
            · obtain ⟨e, he⟩ := hout iz
              obtain ⟨k, hk, hke⟩ := List.getElem_of_mem he
              exact absurd e0 (hz5 k e (by omega) (by rw [List.getElem?_eq_getElem hk, hke]))
            · exact n3 (by omega)
      · obtain ⟨⟨x5, x6, x7, rfl⟩, st4, ev4, rt, last, hrt, n1, n2, n3, hG, hlast, hout⟩ := hP
        refine ⟨_, rfl, rl, _, rfl, .inl ⟨SqL.of hrt, fun l hl => ?_⟩⟩
        exact q _ l rt (st4.same (same_upd hl)) (ev4.trans (Ev.of (same_upd hl))) upd_same (n3 (by omega)) (by omega) hG
end
end K16
set_option maxHeartbeats 4000000
namespace K16
open PySem PySem.Spec PyProof.Rows L2
open GxR (TabG Tabbed)
open Geo (Pt)
abbrev Lt : Str := "QXAMBZKCTDRE"
/-- the letter of a name -/
def ltr (k : Nat) : Nat := Lt.cps.toList.getD (k % 12) 0
theorem lt_len : Lt.cps.toList.length = 12 := by decide
theorem lt_at (k : Nat) : atI Lt.cps.toList ((k : Int).fmod 12) = some (ltr k) := by
  have e : (k : Int).fmod 12 = ((k % 12 : Nat) : Int) := by
    rw [Int.fmod_eq_emod_of_nonneg _ (by decide)]
    rfl
  rw [e]
  have h : k % 12 < Lt.cps.toList.length := by
    rw [lt_len]
    exact Nat.mod_lt _ (by decide)
  refine atI_nat ?_
  rw [ltr, List.getD_eq_getElem?_getD, List.getElem?_eq_getElem h]
  rfl
theorem lt_ne (k : Nat) : ltr k ≠ ltr (k + 1) := by
  have h : ∀ j, j < 12 → Lt.cps.toList.getD j 0 ≠ Lt.cps.toList.getD ((j + 1) % 12) 0 := by decide
  have z := h (k % 12) (Nat.mod_lt _ (by decide))
  unfold ltr
  rw [show (k + 1) % 12 = (k % 12 + 1) % 12 by omega]
  exact z
theorem head_app (c : Nat) (t : Str) : ((⟨#[c]⟩ : Str) ++ t).cps.toList.head? = some c := by
  show ((#[c] ++ t.cps).toList).head? = some c
  simp
def spNames (K : PySem.W.Frag) : Sp := fun vs H Q _ => ∃ (sd : Addr) (m : Nat), vs = [.ref sd, .int m] ∧ StOk H sd ∧ 2 ≤ m ∧ m ≤ 6 ∧ ∀ (H' : Hp) (l : Addr) (ns : List Str), StOk H' sd → Ev (tbs K) sd H H' → H l = none → H' l = some (.lst (ns.map V.str)) → ns.length = m → (∀ a b, ns[0]? = some a → ns[1]? = some b → a ≠ b) → Q (.ref l) H'
/-- the legs by names, in a list -/
structure LegL (H : Hp) (l : Addr) (as : List Addr) (lg : List (Str × Str)) (ns : List Str) : Prop where
  lst : H l = some (.lst (as.map V.ref))
  len : as.length = lg.length
  leg : ∀ (i : Nat) (k : Addr), as[i]? = some k → ∃ (s e : Str) (x y z : V), lg[i]? = some (s, e) ∧ H k = some (.tup [.str s, .str e, x, y, z])
  ends : ∀ s e, (s, e) ∈ lg → s ∈ ns ∧ e ∈ ns
theorem LegL.ev {ts : List Addr} {sd : Addr} {H H' : Hp} {l : Addr} {as : List Addr} {lg : List (Str × Str)} {ns : List Str} (h : LegL H l as lg ns) (e : Ev ts sd H H') : LegL H' l as lg ns :=
  ⟨e.lst h.lst, h.len, fun i k hk => by obtain ⟨s, t, x, y, z, h1, h2⟩ := h.leg i k hk; exact ⟨s, t, x, y, z, h1, e.tup h2⟩, h.ends⟩
theorem LegL.more {H : Hp} {l t : Addr} {as : List Addr} {lg : List (Str × Str)} {ns : List Str} {s e : Str} {x y z : V} (h : LegL H l as lg ns) (ht : H t = none) (hs : s ∈ ns) (he : e ∈ ns) :
    LegL (upd (upd H t (.tup [.str s, .str e, x, y, z])) l (.lst (as.map V.ref ++ [V.ref t]))) l (as ++ [t]) (lg ++ [(s, e)]) ns := by
  have nl : t ≠ l := fun z => by rw [z, h.lst] at ht; cases ht
  refine ⟨by rw [upd_same, List.map_append]; rfl, by rw [List.length_append, List.length_append, h.len]; rfl, fun i k hk => ?_, fun s' e' hm => ?_⟩
  · by_cases hi : i < as.length
    · rw [List.getElem?_append_left hi] at hk
      obtain ⟨s', e', x', y', z', h1, h2⟩ := h.leg i k hk
      exact ⟨s', e', x', y', z', by rw [List.getElem?_append_left (by rw [← h.len]; exact hi)]; exact h1, by rw [upd_ne (fun z => by rw [z, h.lst] at h2; cases h2), upd_ne (fun z => by rw [z, ht] at h2; cases h2)]; exact h2⟩
    · rw [List.getElem?_append_right (by omega)] at hk
      have e0 : i - as.length = 0 := by
        have := (List.getElem?_eq_some_iff.mp hk).1
        have z : ([t] : List Addr).length = 1 := rfl
        omega
      rw [e0] at hk
      cases hk
      exact ⟨s, e, x, y, z, by rw [List.getElem?_append_right (by rw [← h.len]; omega), ← h.len, e0]; rfl, by rw [upd_ne nl, upd_same]⟩
  · rcases List.mem_append.mp hm with hm | hm
    · exact h.ends s' e' hm
    · cases List.mem_singleton.mp hm
      exact ⟨hs, he⟩
def spLegs (K : PySem.W.Frag) : Sp := fun vs H Q _ => ∃ (sd l : Addr) (ns : List Str), vs = [.ref sd, .ref l] ∧ StOk H sd ∧ H l = some (.lst (ns.map V.str)) ∧ 2 ≤ ns.length ∧ ns.length ≤ 6 ∧ ∀ H' ll as lg, StOk H' sd → Ev (tbs K) sd H H' → H ll = none → LegL H' ll as lg ns → lg.length ≤ 18 → Q (.ref ll) H'
theorem mem_strs {x : V} {ss : List Str} {n : Nat} (h : x ∈ ss.map V.str) (hn : ∀ s ∈ ss, s.length ≤ n) : ∃ t : Str, x = .str t ∧ t.length ≤ n := by
  obtain ⟨t, ht, rfl⟩ := List.mem_map.mp h
  exact ⟨t, rfl, hn t ht⟩
section
variable {P : Program} {w : World} {K : PySem.W.Frag} {mg : Str → Option Value} {base : Heap}
theorem sc_l_names : FnScope ["_law_state", "_law_many", "_law_shift", "_law_names_here", "_law_k", "_law_letter"] ["_law_state", "_law_many"] (defScope s_law_names) := ⟨rfl, rfl, rfl, by decide +kernel, rfl, by decide +kernel, by decide +kernel⟩
theorem ok_names (T : Tx K mg) (O_l_draw : OkF P w K mg base 1 "_law_draw" ["_law_state", "_law_bound"] (spDraw K)) (O_l_pick : OkF P w K mg base 2 "_law_pick" ["_law_state", "_law_things"] (spPick K)) : OkF P w K mg base 3 "_law_names" ["_law_state", "_law_many"] (spNames K) := by
  obtain ⟨fd, F⟩ := T.f_l_names
  refine ⟨_, fd, okD F sc_l_names (fun vs H Q E h => ?_) (fun cdv A outer s H vs Q E hr h => ?_), T.g_l_names, F.kp, F.bindsN fun _ _ _ _ _ _ us hl => match us, hl with | [_, _], _ => rfl⟩
  · obtain ⟨_, _, rfl, _⟩ := h
    rfl
  · obtain ⟨sd, m, rfl, st, m2, m6, q⟩ := h
    refine ⟨_, (pss_cons (ps_set (i := 2) sc_l_names.nd rfl (Or.inl rfl) (pe_fn O_l_draw hr rfl (pa_cons (pv 0) (pa_cons pe_int pa_nil))))
  (pss_cons (ps_set (i := 3) sc_l_names.nd rfl (Or.inl rfl) (pe_lst pa_nil))
  (pss_cons (ps_for PassesOwn.never rfl (pi_range1 rfl T.range (pa_cons (pv 1) pa_nil)) (pg_name (i := 4) sc_l_names.nd rfl (Or.inl rfl)) (pss_cons (ps_set (i := 5) sc_l_names.nd rfl (Or.inl rfl) (pe_ix ix_str pe_str (pe_op op_modN (pe_callTy call_int1 (by rfl) T.int (by decide +kernel) (pa_cons (pe_op op_add (pv 4) (pv 2)) pa_nil)) pe_int) (fun _ _ => rfl)))
  (pss_one (ps_expr (pe_bm PySem.F.plainAttrs_list PySem.F.slot_list_append PySem.F.type_list_append mt_append (pv 3) (pa_cons (pe_op op_add_str (pv 5) (pe_fn O_l_pick hr rfl (pa_cons (pv 0) (pa_cons (pe_lst (pa_cons pe_str (pa_cons pe_str (pa_cons pe_str (pa_cons pe_str (pa_cons pe_str (pa_cons pe_str pa_nil))))))) pa_nil)))) pa_nil))))))
  (pss_one (ps_ret (pv 3)))))), ?_⟩
    refine ⟨_, rfl, sd, 12, rfl, st, by decide, by decide, fun H1 r st1 e1 r0 r1 => ⟨by show 0 ≤ sizeLine; decide, fun l hl => ?_⟩⟩
    obtain ⟨sh, rfl⟩ : ∃ sh : Nat, r = sh := ⟨r.toNat, (Int.toNat_of_nonneg r0).symm⟩
    have hl0 : H l = none := e1.free _ hl
    have s1 := same_upd (o := .lst []) hl
    refine ⟨_, rfl, _, rfl, by omega, by omega, ?_⟩
    refine for_range (n := m) (fun i σ H' => (∃ x4 x5 : Option V, σ = [some (.ref sd), some (.int m), some (.int sh), some (.ref l), x4, x5]) ∧ StOk H' sd ∧ Ev (tbs K) sd H H' ∧ ∃ ns : List Str, H' l = some (.lst (ns.map V.str)) ∧ ns.length = i ∧ ∀ j n, ns[j]? = some n → n.cps.toList.head? = some (ltr (j + sh)))
      ⟨⟨_, _, rfl⟩, st1.same s1, e1.trans (Ev.of s1), [], upd_same, rfl, fun j n hj => by cases hj⟩ (fun i σ H2 hi hP => ?_) (fun σ H2 hP => ?_)
    · obtain ⟨⟨x4, x5, rfl⟩, st2, ev2, ns, hns, hn, hh⟩ := hP
      have ei : ((0 : Int) + (i : Int) + (sh : Int)) = ((i + sh : Nat) : Int) := by omega
      refine ⟨_, rfl, _, rfl, _, _, rfl, rfl, .inl ⟨_, rfl, _, _, rfl, rfl, (by decide : (12 : Int) ≠ 0), Lt, _, ltr (i + sh), rfl, rfl, by show 12 ≤ sizeLine; decide, by rw [ei]; exact lt_at _, ?_⟩⟩
      refine ⟨_, rfl, .inl ⟨rfl, _, SqL.of hns⟩, _, rfl, _, rfl, by show 6 ≤ sizeLine; decide, fun t ht => ?_⟩
      have s2 := same_upd (o := .lst ((["", "", "7", "A", "Z9Z9", "00"] : List Str).map V.str)) ht
      refine ⟨sd, t, (["", "", "7", "A", "Z9Z9", "00"] : List Str).map V.str, rfl, st2.same s2, upd_same, List.cons_ne_nil _ _, by show 6 < 1073741824; decide, fun H3 x st3 e3 hm => ?_⟩
      obtain ⟨suf, rfl, hsuf⟩ := mem_strs (n := 4) hm (by decide)
      have ev3 : Ev (tbs K) sd H H3 := ev2.trans ((Ev.of s2).trans e3)
      refine ⟨_, _, rfl, rfl, ?_, l, _, _, rfl, rfl, e3.lst (s2 _ _ hns), by rw [List.length_map]; exact small1000 (by omega), ⟨_, _, rfl⟩, st.upd ev3 st3 hl0, ev3.upd_new hl0, ns ++ [(⟨#[ltr (i + sh)]⟩ : Str) ++ suf], by rw [upd_same, List.map_append]; rfl, by rw [List.length_append, hn]; rfl, fun j n hj => ?_⟩
      · refine Nat.le_of_lt (small1000 ?_)
        show 1 + suf.length ≤ 1000
        omega
      · by_cases hlt : j < ns.length
        · rw [List.getElem?_append_left hlt] at hj
          exact hh j n hj
        · rw [List.getElem?_append_right (by omega)] at hj
          have e0 : j - ns.length = 0 := by
            have := (List.getElem?_eq_some_iff.mp hj).1
            have z : ([(⟨#[ltr (i + sh)]⟩ : Str) ++ suf] : List Str).length = 1 := rfl
            omega
          rw [e0] at hj
          cases hj
          rw [show j = i by omega]
          exact head_app _ _
    · obtain ⟨⟨x4, x5, rfl⟩, st2, ev2, ns, hns, hn, hh⟩ := hP
      refine ⟨_, rfl, q H2 l ns st2 ev2 hl0 hns hn fun a b ha hb z => ?_⟩
      have h0 := hh 0 a ha
      have h1 := hh 1 b hb
      rw [z, h1] at h0
      refine lt_ne sh ?_
      have := Option.some.inj h0
      rw [Nat.zero_add, Nat.add_comm 1 sh] at this
      exact this.symm
theorem sc_l_legs : FnScope ["_law_state", "_law_names_here", "_law_legs_here", "_law_many", "_law_k", "_law_j", "_law_other", "_law_levels", "_law_leg_here"] ["_law_state", "_law_names_here"] (defScope s_law_legs) := ⟨rfl, rfl, rfl, by decide +kernel, rfl, by decide +kernel, by decide +kernel⟩
theorem ok_legs (T : Tx K mg) (O_l_draw : OkF P w K mg base 1 "_law_draw" ["_law_state", "_law_bound"] (spDraw K)) (O_l_pick : OkF P w K mg base 2 "_law_pick" ["_law_state", "_law_things"] (spPick K)) : OkF P w K mg base 3 "_law_legs" ["_law_state", "_law_names_here"] (spLegs K) := by
  obtain ⟨fd, F⟩ := T.f_l_legs
  refine ⟨_, fd, okD F sc_l_legs (fun vs H Q E h => ?_) (fun cdv A outer s H vs Q E hr h => ?_), T.g_l_legs, F.kp, F.bindsN fun _ _ _ _ _ _ us hl => match us, hl with | [_, _], _ => rfl⟩
  · obtain ⟨_, _, _, rfl, _⟩ := h
    rfl
  · obtain ⟨sd, l, ns, rfl, st, hl, n2, n6, q⟩ := h
    refine ⟨_, (pss_cons (ps_set (i := 2) sc_l_legs.nd rfl (Or.inl rfl) (pe_lst pa_nil))
  (pss_cons (ps_set (i := 3) sc_l_legs.nd rfl (Or.inl rfl) (pe_callB call_len_seq (by rfl) T.len (by decide +kernel) (pa_cons (pv 1) pa_nil)))
  (pss_cons (ps_for PassesOwn.never rfl (pi_range1 rfl T.range (pa_cons (pv 3) pa_nil)) (pg_name (i := 4) sc_l_legs.nd rfl (Or.inr rfl)) (pss_one (ps_for PassesOwn.never rfl (pi_range1 rfl T.range (pa_cons (pe_fn O_l_pick hr rfl (pa_cons (pv 0) (pa_cons (pe_lst (pa_cons pe_int (pa_cons pe_int (pa_cons pe_int (pa_cons pe_int (pa_cons pe_int pa_nil)))))) pa_nil))) pa_nil)) (pg_name (i := 5) sc_l_legs.nd rfl (Or.inl rfl)) (pss_cons (ps_set (i := 6) sc_l_legs.nd rfl (Or.inr rfl) (pe_ix ix_list (pv 1) (pe_op op_modN (pe_callTy call_int1 (by rfl) T.int (by decide +kernel) (pa_cons (pe_op op_add (pe_op op_add (pv 4) pe_int) (pe_fn O_l_draw hr rfl (pa_cons (pv 0) (pa_cons (pe_op op_sub (pv 3) pe_int) pa_nil)))) pa_nil)) (pv 3)) (fun _ _ => rfl)))
  (pss_one (ps_if (pt_not (pt_val (pe_callB (cr_any rfl) (by rfl) T.any (by decide +kernel) (pa_cons (pe_lc (own := [("_law_leg_here", 8)]) (g := gName 8) (tt := tYes) rfl sc_l_legs.nd (pi_list (pv 2)) (blkOk_by (own := [("_law_leg_here", 8)]) (N := ["_law_state", "_law_names_here", "_law_legs_here", "_law_many", "_law_k", "_law_j", "_law_other", "_law_levels", "_law_leg_here"]) (sc := defScope s_law_legs) (by decide +kernel)) (fun _ _ _ _ _ => (pg_name (i := 8) sc_l_legs.nd rfl (Or.inl rfl))) (fun _ _ _ _ _ => pts_nil) (fun _ _ _ _ _ => (pe_and (pe_cmpR op_eq (pe_ix (r := rIxT K) ix_tup (pv 8) pe_int (fun _ _ => rfl)) (pe_ix (r := rIxL K) ix_list (pv 1) (pv 4) (fun _ _ => rfl)) (nomark _)) (pe_one (pe_cmpR op_eq (pe_ix (r := rIxT K) ix_tup (pv 8) pe_int (fun _ _ => rfl)) (pv 6) (nomark _)))))) pa_nil)))) (pss_cons (ps_set (i := 7) sc_l_legs.nd rfl (Or.inl rfl) (pe_fn O_l_pick hr rfl (pa_cons (pv 0) (pa_cons (pe_lst (pa_cons (pe_tup (pa_cons pe_int (pa_cons pe_int pa_nil))) (pa_cons (pe_tup (pa_cons pe_int (pa_cons pe_int pa_nil))) (pa_cons (pe_tup (pa_cons pe_int (pa_cons pe_int pa_nil))) (pa_cons (pe_tup (pa_cons pe_int (pa_cons pe_int pa_nil))) (pa_cons (pe_tup (pa_cons pe_int (pa_cons pe_int pa_nil))) pa_nil)))))) pa_nil))))
  (pss_one (ps_expr (pe_bm PySem.F.plainAttrs_list PySem.F.slot_list_append PySem.F.type_list_append mt_append (pv 2) (pa_cons (pe_tup (pa_cons (pe_ix ix_list (pv 1) (pv 4) (fun _ _ => rfl)) (pa_cons (pv 6) (pa_cons (pe_fn O_l_pick hr rfl (pa_cons (pv 0) (pa_cons (pe_lst (pa_cons pe_str (pa_cons pe_str (pa_cons pe_str pa_nil)))) pa_nil))) (pa_cons (pe_ix ix_tup (pv 7) pe_int (fun _ _ => rfl)) (pa_cons (pe_ix ix_tup (pv 7) pe_int (fun _ _ => rfl)) pa_nil)))))) pa_nil))))) pss_nil))))))
  (pss_one (ps_ret (pv 2)))))), ?_⟩
    refine ⟨by show 0 ≤ sizeLine; decide, fun ll hll => ?_⟩
    have s0 := same_upd (o := .lst []) hll
    have hlen : (ns.map V.str).length = ns.length := List.length_map ..
    refine ⟨_, rfl, _, _, rfl, .inl (SqL.of (s0 _ _ hl)), ?_⟩
    rw [hlen]
    refine ⟨_, rfl, _, rfl, by omega, by omega, ?_⟩
    refine for_range (n := ns.length) (fun i σ H' => (∃ x4 x5 x6 x7 x8 : Option V, σ = [some (.ref sd), some (.ref l), some (.ref ll), some (.int ns.length), x4, x5, x6, x7, x8]) ∧ StOk H' sd ∧ Ev (tbs K) sd H H' ∧ ∃ as lg, LegL H' ll as lg ns ∧ lg.length ≤ 3 * i)
      ⟨⟨_, _, _, _, _, rfl⟩, st.same s0, Ev.of s0, [], [], ⟨upd_same, rfl, fun i k hk => (by cases hk), fun s e hm => (by cases hm)⟩, Nat.zero_le _⟩ (fun i σ H1 hi hP => ?_) (fun σ H1 hP => ?_)
    · obtain ⟨⟨x4, x5, x6, x7, x8, rfl⟩, st1, ev1, as, lg, hL, hz⟩ := hP
      rw [Int.zero_add]
      refine ⟨_, rfl, by show 5 ≤ sizeLine; decide, fun t ht => ?_⟩
      have s2 := same_upd (o := .lst (([1, 2, 3, 3, 0] : List Int).map V.int)) ht
      refine ⟨sd, t, ([1, 2, 3, 3, 0] : List Int).map V.int, rfl, st1.same s2, upd_same, List.cons_ne_nil _ _, by show 5 < 1073741824; decide, fun H3 x st3 e3 hm => ?_⟩
      obtain ⟨n, hn, rfl⟩ := List.mem_map.mp hm
      have hn3 : 0 ≤ n ∧ n ≤ 3 := (by decide : ∀ n ∈ ([1, 2, 3, 3, 0] : List Int), 0 ≤ n ∧ n ≤ 3) n hn
      have ev3 : Ev (tbs K) sd H H3 := ev1.trans ((Ev.of s2).trans e3)
      have hL3 : LegL H3 ll as lg ns := (hL.ev (Ev.of (ts := tbs K) (sd := sd) s2)).ev e3
      refine ⟨n, rfl, by omega, by omega, ?_⟩
      refine for_range (n := n.toNat) (fun j σ H' => (∃ x5 x6 x7 x8 : Option V, σ = [some (.ref sd), some (.ref l), some (.ref ll), some (.int ns.length), some (.int i), x5, x6, x7, x8]) ∧ StOk H' sd ∧ Ev (tbs K) sd H H' ∧ ∃ as lg, LegL H' ll as lg ns ∧ lg.length ≤ 3 * i + j)
        ⟨⟨_, _, _, _, rfl⟩, st3, ev3, as, lg, hL3, hz⟩ (fun j σ H4 hj hP4 => ?_) (fun σ H4 hP4 => ?_)
      · obtain ⟨⟨x5, x6, x7, x8, rfl⟩, st4, ev4, as4, lg4, hL4, hz4⟩ := hP4
        refine ⟨_, rfl, _, rfl, _, _, rfl, rfl, _, rfl, _, rfl, _, _, rfl, rfl, sd, _, rfl, st4, by omega, by omega, fun H5 r st5 e5 r0 r1 => ⟨_, _, rfl, rfl, .inl ⟨_, rfl, _, rfl, _, _, rfl, rfl, (by omega : (ns.length : Int) ≠ 0), ?_⟩⟩⟩
        have hfm := fmod_bd ((i : Int) + 1 + r) (b := (ns.length : Int)) (by omega)
        have ev5 := ev4.trans e5
        have hl5 : H5 l = some (.lst (ns.map V.str)) := ev5.lst hl
        obtain ⟨o, ho, hom⟩ : ∃ o, atI (ns.map V.str) (((i : Int) + 1 + r).fmod (ns.length : Int)) = some (.str o) ∧ o ∈ ns := by
          generalize ((i : Int) + 1 + r).fmod (ns.length : Int) = z at hfm
          have ez : ((z.toNat : Nat) : Int) = z := Int.toNat_of_nonneg hfm.1
          have hz2 : z.toNat < ns.length := by omega
          have h9 := atI_str (List.getElem?_eq_getElem hz2)
          rw [ez] at h9
          exact ⟨_, h9, List.getElem_mem hz2⟩
        obtain ⟨nk, hnk⟩ : ∃ nk, ns[i]? = some nk := ⟨_, List.getElem?_eq_getElem hi⟩
        refine ⟨_, _, _, _, rfl, rfl, SqL.of hl5, ho, ?_⟩
        have hL5 := hL4.ev e5
        refine ⟨_, rfl, _, rfl, ⟨_, SqL.of hL5.lst⟩, fun D hD => lc_list (xs := as4.map V.ref) (fun a H' => Same H5 H' ∧ ∃ bs : List Bool, H' D = some (.lst (bs.map V.bl)) ∧ bs.length = a) ⟨same_upd hD, [], upd_same, rfl⟩
          (fun a H' _ hP => SqL.of (hP.1 _ _ hL5.lst)) (fun a x H6 hx hP => ?_) (fun H6 hP => ?_)⟩
        · obtain ⟨s6, bs, hbs, hbn⟩ := hP
          obtain ⟨k, hk2, rfl⟩ := at_map hx
          obtain ⟨s', e', vx, vy, vz, hlg, hkt⟩ := (hL5.ev (Ev.of (ts := tbs K) (sd := sd) s6)).leg a k hk2
          have ha := (List.getElem?_eq_some_iff.mp hk2).1
          have fin : ∀ b : Bool, ∃ acc, H6 D = some (.lst acc) ∧ acc.length < sizeLine ∧ Same H5 (upd H6 D (.lst (acc ++ [V.bl b]))) ∧ ∃ bs : List Bool, (upd H6 D (.lst (acc ++ [V.bl b]))) D = some (.lst (bs.map V.bl)) ∧ bs.length = a + 1 := fun b =>
            ⟨_, hbs, by rw [List.length_map]; exact small1000 (by have := hL4.len; omega), same_upd_new s6 hD, bs ++ [b], by rw [upd_same, List.map_append]; rfl, by rw [List.length_append, hbn]; rfl⟩
          refine ⟨rfl, _, rfl, _, _, 0, _, rfl, rfl, SqT.of hkt, rfl, _, rfl, _, rfl, _, _, _, _, rfl, rfl, SqL.of (s6 _ _ hl5), atI_str hnk, rfl, _, rfl, ite2 (fun c => ?_) fun c => ?_⟩
          · exact ⟨_, rfl, _, _, 1, _, rfl, rfl, SqT.of hkt, rfl, _, rfl, rfl, fin _⟩
          · exact fin _
        · obtain ⟨s6, bs, hbs, hbn⟩ := hP
          have st6 := st5.same s6
          have ev6 := ev5.trans (Ev.of s6)
          have hL6 := hL5.ev (Ev.of (ts := tbs K) (sd := sd) s6)
          have hl6 := s6 _ _ hl5
          refine ⟨D, bs, rfl, SqL.of hbs, _, rfl, ite2 (fun c => ?_) fun c => ?_⟩
          · refine ⟨_, rfl, ?_⟩
            refine ⟨by show 2 ≤ sizeLine; decide, fun t1 h1 => ?_⟩
            have y1 : Same H6 (upd H6 t1 (.tup [.int 0, .int 600])) := same_upd h1
            have z1 : (upd H6 t1 (.tup [.int 0, .int 600])) t1 = some (.tup [.int 0, .int 600]) := upd_same
            generalize upd H6 t1 (.tup [.int 0, .int 600]) = K1 at *
            refine ⟨by show 2 ≤ sizeLine; decide, fun t2 h2 => ?_⟩
            have y2 : Same K1 (upd K1 t2 (.tup [.int 0, .int 600])) := same_upd h2
            have z2 : (upd K1 t2 (.tup [.int 0, .int 600])) t2 = some (.tup [.int 0, .int 600]) := upd_same
            generalize upd K1 t2 (.tup [.int 0, .int 600]) = K2 at *
            refine ⟨by show 2 ≤ sizeLine; decide, fun t3 h3 => ?_⟩
            have y3 : Same K2 (upd K2 t3 (.tup [.int 100, .int 300])) := same_upd h3
            have z3 : (upd K2 t3 (.tup [.int 100, .int 300])) t3 = some (.tup [.int 100, .int 300]) := upd_same
            generalize upd K2 t3 (.tup [.int 100, .int 300]) = K3 at *
            refine ⟨by show 2 ≤ sizeLine; decide, fun t4 h4 => ?_⟩
            have y4 : Same K3 (upd K3 t4 (.tup [.int 200, .int 400])) := same_upd h4
            have z4 : (upd K3 t4 (.tup [.int 200, .int 400])) t4 = some (.tup [.int 200, .int 400]) := upd_same
            generalize upd K3 t4 (.tup [.int 200, .int 400]) = K4 at *
            refine ⟨by show 2 ≤ sizeLine; decide, fun t5 h5 => ?_⟩
            have y5 : Same K4 (upd K4 t5 (.tup [.int 250, .int 250])) := same_upd h5
            have z5 : (upd K4 t5 (.tup [.int 250, .int 250])) t5 = some (.tup [.int 250, .int 250]) := upd_same
            generalize upd K4 t5 (.tup [.int 250, .int 250]) = K5 at *
            refine ⟨by show 5 ≤ sizeLine; decide, fun t6 h6 => ?_⟩
            have y6 : Same K5 (upd K5 t6 (.lst [.ref t1, .ref t2, .ref t3, .ref t4, .ref t5])) := same_upd h6
            have z6 : (upd K5 t6 (.lst [.ref t1, .ref t2, .ref t3, .ref t4, .ref t5])) t6 = some (.lst [.ref t1, .ref t2, .ref t3, .ref t4, .ref t5]) := upd_same
            have a5 := y6 _ _ z5
            have a4 := y6 _ _ (y5 _ _ z4)
            have a3 := y6 _ _ (y5 _ _ (y4 _ _ z3))
            have a2 := y6 _ _ (y5 _ _ (y4 _ _ (y3 _ _ z2)))
            have a1 := y6 _ _ (y5 _ _ (y4 _ _ (y3 _ _ (y2 _ _ z1))))
            have ys : Same H6 (upd K5 t6 (.lst [.ref t1, .ref t2, .ref t3, .ref t4, .ref t5])) := fun b o e => y6 _ _ (y5 _ _ (y4 _ _ (y3 _ _ (y2 _ _ (y1 _ _ e)))))
            generalize upd K5 t6 (.lst [.ref t1, .ref t2, .ref t3, .ref t4, .ref t5]) = K6 at *
            refine ⟨sd, t6, [.ref t1, .ref t2, .ref t3, .ref t4, .ref t5], rfl, st6.same ys, z6, List.cons_ne_nil _ _, by show 5 < 1073741824; decide, fun H7 x st7 e7 hm7 => ?_⟩
            obtain ⟨tt, p0, p1, rfl, htt⟩ : ∃ (tt : Addr) (p0 p1 : Int), x = .ref tt ∧ H7 tt = some (.tup [.int p0, .int p1]) := by
              simp only [List.mem_cons, List.not_mem_nil, or_false] at hm7
              rcases hm7 with h | h | h | h | h
              · exact ⟨t1, _, _, h, e7.tup a1⟩
              · exact ⟨t2, _, _, h, e7.tup a2⟩
              · exact ⟨t3, _, _, h, e7.tup a3⟩
              · exact ⟨t4, _, _, h, e7.tup a4⟩
              · exact ⟨t5, _, _, h, e7.tup a5⟩
            have ev7 : Ev (tbs K) sd H H7 := ev6.trans ((Ev.of ys).trans e7)
            have hL7 : LegL H7 ll as4 lg4 ns := (hL6.ev (Ev.of (ts := tbs K) (sd := sd) ys)).ev e7
            have hl7 : H7 l = some (.lst (ns.map V.str)) := e7.lst (ys _ _ hl6)
            refine ⟨_, rfl, .inl ⟨rfl, _, SqL.of hL7.lst⟩, _, rfl, _, rfl, _, _, _, _, rfl, rfl, SqL.of hl7, atI_str hnk, _, rfl, _, rfl, by show 3 ≤ sizeLine; decide, fun t8 h8 => ?_⟩
            have y8 := same_upd (o := .lst [.str "N", .str "SOUTH", .str "E1"]) h8
            refine ⟨sd, t8, [.str "N", .str "SOUTH", .str "E1"], rfl, st7.same y8, upd_same, List.cons_ne_nil _ _, by show 3 < 1073741824; decide, fun H9 via st9 e9 _ => ?_⟩
            have hL9 : LegL H9 ll as4 lg4 ns := (hL7.ev (Ev.of (ts := tbs K) (sd := sd) y8)).ev e9
            have ev9 : Ev (tbs K) sd H H9 := ev7.trans ((Ev.of y8).trans e9)
            have htt9 := e9.tup (y8 _ _ htt)
            refine ⟨_, rfl, _, _, 0, _, rfl, rfl, SqT.of htt9, rfl, _, rfl, _, _, 1, _, rfl, rfl, SqT.of htt9, rfl, by show 5 ≤ sizeLine; decide, fun t9 h9 => ?_⟩
            have nl9 : ll ≠ t9 := fun z => by rw [← z, hL9.lst] at h9; cases h9
            have y9 := same_upd (o := .tup [.str nk, .str o, via, .int p0, .int p1]) h9
            have ev10 : Ev (tbs K) sd H (upd H9 t9 (.tup [.str nk, .str o, via, .int p0, .int p1])) := ev9.trans (Ev.of y9)
            refine ⟨ll, _, _, rfl, rfl, y9 _ _ hL9.lst, by rw [List.length_map]; exact small1000 (by have := hL4.len; omega), ⟨_, _, _, _, rfl⟩, st.upd ev10 (st9.same y9) hll, ev10.upd_new hll, _, _, hL9.more h9 (List.mem_of_getElem? hnk) hom, ?_⟩
            rw [List.length_append]
            show lg4.length + 1 ≤ 3 * i + (j + 1)
            omega
          · exact ⟨⟨_, _, _, _, rfl⟩, st6, ev6, as4, lg4, hL6, by omega⟩
      · obtain ⟨⟨x5, x6, x7, x8, rfl⟩, st4, ev4, as4, lg4, hL4, hz4⟩ := hP4
        exact ⟨⟨_, _, _, _, _, rfl⟩, st4, ev4, as4, lg4, hL4, by omega⟩
    · obtain ⟨⟨x4, x5, x6, x7, x8, rfl⟩, st1, ev1, as, lg, hL, hz⟩ := hP
      exact ⟨_, rfl, q H1 ll as lg st1 ev1 hll hL (by omega)⟩
end
end K16
set_option maxHeartbeats 4000000
namespace K16
open PySem PySem.Spec PyProof.Rows L2
open GxR (TabG Tabbed)
open Geo (Pt)
/-- the fixes' dict: its keys, its points -/
structure FxOk (H : Hp) (df : Addr) (fk : List (Key × V)) (fx : Str → Option Pt) (ks : List Str) : Prop where
  dk : H df = some (.dK fk)
  fpt : ∀ n p, fx n = some p → PtOk p ∧ ∃ a, valV fk (.inr n) = some (.ref a) ∧ H a = some (.tup (pt p))
  keys : fk.map (·.1) = ks.map Sum.inr
  all : ∀ n ∈ ks, ∃ p, fx n = some p
theorem FxOk.ev {ts : List Addr} {sd : Addr} {H H' : Hp} {df : Addr} {fk : List (Key × V)} {fx : Str → Option Pt} {ks : List Str} (h : FxOk H df fk fx ks) (n : df ≠ sd) (e : Ev ts sd H H') : FxOk H' df fk fx ks :=
  ⟨e.dK n h.dk, fun n p hp => by obtain ⟨b, a, h1, h2⟩ := h.fpt n p hp; exact ⟨b, a, h1, e.tup h2⟩, h.keys, h.all⟩
/-- one more fix -/
theorem FxOk.put {H : Hp} {df t : Addr} {fk : List (Key × V)} {fx : Str → Option Pt} {ks : List Str} {n : Str} {p : Pt} (h : FxOk H df fk fx ks) (ht : H t = none) (hp : PtOk p) :
    ∃ fx' ks', FxOk (upd (upd H t (.tup (pt p))) df (.dK (putK fk (.inr n) (.ref t)))) df (putK fk (.inr n) (.ref t)) fx' ks' ∧ (∀ m, (∃ q, fx m = some q) → ∃ q, fx' m = some q) ∧ (∃ q, fx' n = some q) ∧ n ∈ ks' ∧ (∀ m ∈ ks, m ∈ ks') ∧ ks'.length ≤ ks.length + 1 := by
  have nt : t ≠ df := fun z => by rw [z, h.dk] at ht; cases ht
  have hfx : ∀ m q, (if m = n then some p else fx m) = some q → PtOk q ∧ ∃ a, valV (putK fk (.inr n) (.ref t)) (.inr m) = some (.ref a) ∧ (upd (upd H t (.tup (pt p))) df (.dK (putK fk (.inr n) (.ref t)))) a = some (.tup (pt q)) := fun m q hq => by
    by_cases e : m = n
    · subst e
      rw [if_pos rfl] at hq
      cases hq
      exact ⟨hp, t, by rw [valV_put, if_pos rfl], by rw [upd_ne nt, upd_same]⟩
    · rw [if_neg e] at hq
      obtain ⟨b, a, h1, h2⟩ := h.fpt m q hq
      exact ⟨b, a, by rw [valV_put, if_neg (fun z => e (Sum.inr.inj z))]; exact h1, by rw [upd_ne (fun z => by rw [z, h.dk] at h2; cases h2), upd_ne (fun z => by rw [z, ht] at h2; cases h2)]; exact h2⟩
  have hmono : ∀ m, (∃ q, fx m = some q) → ∃ q, (fun m => if m = n then some p else fx m) m = some q := fun m ⟨q, hq⟩ => by
    show ∃ q, (if m = n then some p else fx m) = some q
    by_cases e : m = n
    · exact ⟨p, if_pos e⟩
    · exact ⟨q, by rw [if_neg e]; exact hq⟩
  by_cases hm : n ∈ ks
  · refine ⟨fun m => if m = n then some p else fx m, ks, ⟨upd_same, hfx, ?_, fun m hm => hmono m (h.all m hm)⟩, hmono, ⟨p, if_pos rfl⟩, hm, fun m hm => hm, Nat.le_succ _⟩
    have e : (fk.any fun kv => decide (kv.1 = .inr n)) = true := by
      have : (.inr n : Key) ∈ fk.map (·.1) := by rw [h.keys]; exact List.mem_map.mpr ⟨n, hm, rfl⟩
      obtain ⟨kv, h1, h2⟩ := List.mem_map.mp this
      exact List.any_eq_true.mpr ⟨kv, h1, decide_eq_true h2⟩
    unfold putK
    rw [if_pos e, ← h.keys, List.map_map]
    refine List.map_congr_left fun kv _ => ?_
    show (if kv.1 = .inr n then (kv.1, V.ref t) else kv).1 = kv.1
    split <;> rfl
  · refine ⟨fun m => if m = n then some p else fx m, ks ++ [n], ⟨upd_same, hfx, ?_, fun m hm => ?_⟩, hmono, ⟨p, if_pos rfl⟩, List.mem_append_right _ (List.mem_singleton.mpr rfl), fun m hm => List.mem_append_left _ hm, by rw [List.length_append]; exact Nat.le_refl _⟩
    · have e : ¬ (fk.any fun kv => decide (kv.1 = .inr n)) = true := fun z => by
        obtain ⟨kv, h1, h2⟩ := List.any_eq_true.mp z
        have : (.inr n : Key) ∈ fk.map (·.1) := List.mem_map.mpr ⟨kv, h1, of_decide_eq_true h2⟩
        rw [h.keys] at this
        obtain ⟨m, h3, h4⟩ := List.mem_map.mp this
        rw [Sum.inr.inj h4] at h3
        exact hm h3
      unfold putK
      rw [if_neg e, List.map_append, h.keys, List.map_append]
      rfl
    · rcases List.mem_append.mp hm with hm | hm
      · exact hmono m (h.all m hm)
      · rw [List.mem_singleton.mp hm]
        exact ⟨p, if_pos rfl⟩
structure KsOk (c : Ch) (ks : List Str) : Prop where
  keys : c.fk.map (·.1) = ks.map Sum.inr
  all : ∀ n ∈ ks, ∃ p, c.fx n = some p
  two : 2 ≤ ks.length
  sz : ks.length ≤ 6
def spChart (K : PySem.W.Frag) : Sp := fun vs H Q _ => ∃ (sd : Addr) (m : Nat) (z : Int), vs = [.ref sd, .int m, .int z] ∧ StOk H sd ∧ 2 ≤ m ∧ m ≤ 6 ∧ 1 ≤ z ∧ z ≤ 40 ∧
  ∀ H' c ks, StOk H' sd → Ev (tbs K) sd H H' → ChOk H' sd c → KsOk c ks → H c.ll = none → c.lg.length ≤ 18 → Q (.ref c.ca) H'
section
variable {P : Program} {w : World} {K : PySem.W.Frag} {mg : Str → Option Value} {base : Heap}
theorem sc_l_chart : FnScope ["_law_state", "_law_many", "_law_size", "_law_names_here", "_law_fixes", "_law_k", "_law_legs_here", "_law_holds", "_law_leg_here", "_law_runways", "_law_chart_here", "_law_back", "_law_name", "_law_other"] ["_law_state", "_law_many", "_law_size"] (defScope s_law_chart) := ⟨rfl, rfl, rfl, by decide +kernel, rfl, by decide +kernel, by decide +kernel⟩
theorem ok_chart (T : Tx K mg) (O_l_draw : OkF P w K mg base 1 "_law_draw" ["_law_state", "_law_bound"] (spDraw K)) (O_l_names : OkF P w K mg base 3 "_law_names" ["_law_state", "_law_many"] (spNames K)) (O_l_legs : OkF P w K mg base 3 "_law_legs" ["_law_state", "_law_names_here"] (spLegs K)) :
    OkF P w K mg base 4 "_law_chart" ["_law_state", "_law_many", "_law_size"] (spChart K) := by
  obtain ⟨fd, F⟩ := T.f_l_chart
  refine ⟨_, fd, okD F sc_l_chart (fun vs H Q E h => ?_) (fun cdv A outer s H vs Q E hr h => ?_), T.g_l_chart, F.kp, F.bindsN fun _ _ _ _ _ _ us hl => match us, hl with | [_, _, _], _ => rfl⟩
  · obtain ⟨_, _, _, rfl, _⟩ := h
    rfl
  · obtain ⟨sd, m, z, rfl, st, m2, m6, z1, z40, q⟩ := h
    have hu := hu_of hr
    refine ⟨_, (pss_cons (ps_set (i := 3) sc_l_chart.nd rfl (Or.inl rfl) (pe_fn O_l_names hr rfl (pa_cons (pv 0) (pa_cons (pv 1) pa_nil))))
  (pss_cons (ps_set (i := 4) sc_l_chart.nd rfl (Or.inl rfl) (pe_dnewK))
  (pss_cons (ps_for PassesOwn.never rfl (pi_range1 rfl T.range (pa_cons (pv 1) pa_nil)) (pg_name (i := 5) sc_l_chart.nd rfl (Or.inl rfl)) (pss_one (ps_dput hu (pv 4) (pe_ix ix_list (pv 3) (pv 5) (fun _ _ => rfl)) (pe_tup (pa_cons (pe_op op_sub (pe_fn O_l_draw hr rfl (pa_cons (pv 0) (pa_cons (pe_op op_add (pe_op op_mul pe_int (pv 2)) pe_int) pa_nil))) (pv 2)) (pa_cons (pe_op op_add (pe_op op_mul (pv 1) (pe_op op_sub (pe_fn O_l_draw hr rfl (pa_cons (pv 0) (pa_cons (pe_op op_add (pe_op op_mul pe_int (pv 2)) pe_int) pa_nil))) (pv 2))) (pv 5)) pa_nil))) rfl)))
  (pss_cons (ps_set (i := 6) sc_l_chart.nd rfl (Or.inl rfl) (pe_fn O_l_legs hr rfl (pa_cons (pv 0) (pa_cons (pv 3) pa_nil))))
  (pss_cons (ps_set (i := 7) sc_l_chart.nd rfl (Or.inl rfl) (pe_dnewK))
  (pss_cons (ps_for PassesOwn.never rfl (pi_list (pv 6)) (pg_name (i := 8) sc_l_chart.nd rfl (Or.inr rfl)) (pss_cons (ps_setLc (i := 11) (own := [("_law_other", 13)]) (g := gName 13) rfl sc_l_chart.nd rfl rfl (sw_true rfl rfl rfl (by decide +kernel)) (pi_list (pv 6)) (blkOk_by (own := [("_law_other", 13)]) (N := ["_law_state", "_law_many", "_law_size", "_law_names_here", "_law_fixes", "_law_k", "_law_legs_here", "_law_holds", "_law_leg_here", "_law_runways", "_law_chart_here", "_law_back", "_law_name", "_law_other"]) (sc := defScope s_law_chart) (by decide +kernel)) (fun _ _ _ _ _ => (pg_name (i := 13) sc_l_chart.nd rfl (Or.inl rfl))) (fun _ _ _ _ _ => pts_one (PW.pt (pw_and (pt_cmpR op_eq (pe_ix (r := rIxT K) ix_tup (pv 13) pe_int (fun _ _ => rfl)) (pe_ix (r := rIxT K) ix_tup (pv 8) pe_int (fun _ _ => rfl)) (nomark _)) (pw_and1 (pt_cmpR op_eq (pe_ix (r := rIxT K) ix_tup (pv 13) pe_int (fun _ _ => rfl)) (pe_ix (r := rIxT K) ix_tup (pv 8) pe_int (fun _ _ => rfl)) (nomark _)))))) (fun _ _ _ _ _ => (pv 13)))
  (pss_one (ps_if (PW.pt (pw_and (pt_cmpR op_gt (pe_callB call_len_seq (by rfl) T.len (by decide +kernel) (pa_cons (pv 11) pa_nil)) pe_int (nomark _)) (pw_and1 (pt_cmpR op_eq (pe_fn O_l_draw hr rfl (pa_cons (pv 0) (pa_cons pe_int pa_nil))) pe_int (nomark _))))) (pss_one (ps_dput hu (pv 7) (pe_ix ix_tup (pv 8) pe_int (fun _ _ => rfl)) (pe_ix ix_tup (pv 8) pe_int (fun _ _ => rfl)) rfl)) pss_nil))))
  (pss_cons (ps_setLc (i := 9) (own := [("_law_name", 12)]) (g := gName 12) rfl sc_l_chart.nd rfl rfl (sw_true rfl rfl rfl (by decide +kernel)) (pi_list (pv 3)) (blkOk_by (own := [("_law_name", 12)]) (N := ["_law_state", "_law_many", "_law_size", "_law_names_here", "_law_fixes", "_law_k", "_law_legs_here", "_law_holds", "_law_leg_here", "_law_runways", "_law_chart_here", "_law_back", "_law_name", "_law_other"]) (sc := defScope s_law_chart) (by decide +kernel)) (fun _ _ _ _ _ => (pg_name (i := 12) sc_l_chart.nd rfl (Or.inl rfl))) (fun _ _ _ _ _ => pts_one (pt_cmpR op_eq (pe_fn O_l_draw hr rfl (pa_cons (pv 0) (pa_cons pe_int pa_nil))) pe_int (nomark _))) (fun _ _ _ _ _ => (pv 12)))
  (pss_cons (ps_set (i := 10) sc_l_chart.nd rfl (Or.inl rfl) (pe_disp (pps_cons pe_str (pv 4) (pps_cons pe_str (pv 6) (pps_cons pe_str (pe_lst pa_nil) (pps_cons pe_str (pe_slice sl_list (pv 9) po_none (po_some pe_int)) (pps_cons pe_str (pv 7) pps_nil))))) (by rfl) (by rfl) (fun z => by cases z) (by decide)))
  (pss_cons (ps_dput hu (pv 10) pe_str (pe_lst pa_nil) rfl)
  (pss_cons (ps_dput hu (pv 10) pe_str (pe_dnewK) rfl)
  (pss_one (ps_ret (pv 10))))))))))))), ?_⟩
    refine ⟨_, rfl, _, rfl, sd, m, rfl, st, m2, m6, fun H1 ln ns st1 e1 hln0 hln hns hab => ?_⟩
    refine fun df hdf => ?_
    have s2 := same_upd (o := .dK []) hdf
    have hdf0 : H df = none := e1.free _ hdf
    have ndf : df ≠ sd := st1.ne hdf
    refine ⟨_, rfl, _, rfl, by omega, by omega, ?_⟩
    refine for_range (n := m) (fun i σ H' => (∃ x5 x6 x7 x8 x9 x10 x11 x12 x13 : Option V, σ = [some (.ref sd), some (.int m), some (.int z), some (.ref ln), some (.ref df), x5, x6, x7, x8, x9, x10, x11, x12, x13]) ∧ StOk H' sd ∧ Ev (tbs K) sd H H' ∧ H' ln = some (.lst (ns.map V.str)) ∧ ∃ fk fx ks, FxOk H' df fk fx ks ∧ (∀ j n, j < i → ns[j]? = some n → (∃ p, fx n = some p) ∧ n ∈ ks) ∧ ks.length ≤ i)
      ⟨⟨_, _, _, _, _, _, _, _, _, rfl⟩, st1.same s2, e1.trans (Ev.of s2), s2 _ _ hln, [], fun _ => none, [], ⟨upd_same, fun n p hp => (by cases hp), rfl, fun n hn => (by cases hn)⟩, fun j n hj => absurd hj (Nat.not_lt_zero _), Nat.le_refl _⟩ (fun i σ H3 hi hP => ?_) (fun σ H3 hP => ?_)
    · obtain ⟨⟨x5, x6, x7, x8, x9, x10, x11, x12, x13, rfl⟩, st3, ev3, hl3, fk, fx, ks, hF, hall, hks⟩ := hP
      rw [Int.zero_add]
      obtain ⟨nk, hnk⟩ : ∃ nk, ns[i]? = some nk := ⟨_, List.getElem?_eq_getElem (by omega)⟩
      have hb2 : -(2 ^ 64) < (2 : Int) ∧ (2 : Int) < 2 ^ 64 := by decide
      refine ⟨_, rfl, _, rfl, _, _, rfl, rfl, .inl hb2, _, _, rfl, rfl, sd, _, rfl, st3, by omega, by omega, fun H4 r4 st4 e4 a0 a1 => ⟨_, rfl, _, _, rfl, rfl, ?_⟩⟩
      refine ⟨_, rfl, _, rfl, _, rfl, _, _, rfl, rfl, .inl hb2, _, _, rfl, rfl, sd, _, rfl, st4, by omega, by omega, fun H5 r5 st5 e5 b0 b1 => ⟨_, rfl, _, _, rfl, rfl, _, _, rfl, rfl, .inl ⟨by omega, by omega⟩, _, rfl, _, _, rfl, rfl, by show 2 ≤ sizeLine; decide, fun t ht => ?_⟩⟩
      have hmb := mul_bd (a := (m : Int)) (b := r5 - z) (A := 6) (B := 40) ⟨by omega, by omega⟩ ⟨by omega, by omega⟩
      have hp : PtOk ((r4 - z, (m : Int) * (r5 - z) + i) : Pt) := ⟨by show -40 ≤ r4 - z; omega, by show r4 - z ≤ 40; omega, by show -245 ≤ (m : Int) * (r5 - z) + i; omega, by show (m : Int) * (r5 - z) + i ≤ 245; omega⟩
      have e45 := e4.trans e5
      have hF5 := hF.ev ndf e45
      have hl5 := e45.lst hl3
      have y1 := same_upd (o := .tup (pt ((r4 - z, (m : Int) * (r5 - z) + i) : Pt))) ht
      obtain ⟨fx', ks', hF6, w1, w2, w3, w4, w5⟩ := hF5.put (n := nk) ht hp
      have ev6 : Ev (tbs K) sd H (upd H5 t (.tup (pt ((r4 - z, (m : Int) * (r5 - z) + i) : Pt)))) := ev3.trans (e45.trans (Ev.of y1))
      have hkl : fk.length = ks.length := by
        have := congrArg List.length hF.keys
        rw [List.length_map, List.length_map] at this
        exact this
      refine ⟨_, rfl, _, rfl, _, rfl, _, _, _, _, rfl, rfl, SqL.of (y1 _ _ hl5), atI_str hnk, df, _, rfl, DPut.k (k := .inr nk) (y1 _ _ hF5.dk) (small1000 (by omega)), ⟨_, _, _, _, _, _, _, _, _, rfl⟩, st.upd ev6 (st5.same y1) hdf0, ev6.upd_new hdf0, ?_, _, fx', ks', hF6, fun j n hj hjn => ?_, by omega⟩
      · have kk := hF5.dk
        rw [upd_ne (fun zz => by rw [← zz, hl5] at kk; cases kk)]
        exact y1 _ _ hl5
      · by_cases ej : j = i
        · subst ej
          rw [hnk] at hjn
          cases hjn
          exact ⟨w2, w3⟩
        · obtain ⟨p1, p2⟩ := hall j n (by omega) hjn
          exact ⟨w1 n p1, w4 n p2⟩
    · obtain ⟨⟨x5, x6, x7, x8, x9, x10, x11, x12, x13, rfl⟩, st3, ev3, hl3, fk, fx, ks, hF, hall, hks⟩ := hP
      have ks2 : 2 ≤ ks.length := by
        have i0 : ns[0]? = some ns[0] := List.getElem?_eq_getElem (by omega)
        have i1 : ns[1]? = some ns[1] := List.getElem?_eq_getElem (by omega)
        have h0 := (hall 0 _ (by omega) i0).2
        have h1 := (hall 1 _ (by omega) i1).2
        have hne := hab _ _ i0 i1
        match ks, h0, h1 with
        | [], h0, _ => cases h0
        | [a], h0, h1 => exact absurd ((List.mem_singleton.mp h0).trans (List.mem_singleton.mp h1).symm) hne
        | _ :: _ :: r, _, _ => show 2 ≤ r.length + 1 + 1; omega
      refine ⟨_, rfl, _, rfl, sd, ln, ns, rfl, st3, hl3, by omega, by omega, fun H4 ll as lg st4 e4 hll0 hL hz => ?_⟩
      have ev4 := ev3.trans e4
      have hF4 := hF.ev ndf e4
      have hl4 := e4.lst hl3
      refine fun hd hhd => ?_
      have nhd : hd ≠ sd := st4.ne hhd
      have y4 := same_upd (o := .dK []) hhd
      refine ⟨_, rfl, ll, rfl, ⟨_, SqL.of (y4 _ _ hL.lst)⟩, for_list (xs := as.map V.ref) (fun i σ H' => (∃ x5 x8 x9 x10 x11 x12 x13 : Option V, σ = [some (.ref sd), some (.int m), some (.int z), some (.ref ln), some (.ref df), x5, some (.ref ll), some (.ref hd), x8, x9, x10, x11, x12, x13]) ∧ StOk H' sd ∧ Ev (tbs K) sd H4 H' ∧ ∃ hk, H' hd = some (.dK hk) ∧ hk.length ≤ i)
        ⟨⟨_, _, _, _, _, _, _, rfl⟩, st4.same y4, Ev.of y4, [], upd_same, Nat.le_refl _⟩ (fun i σ H' _ hP => SqL.of (hP.2.2.1.lst hL.lst)) (fun i x σ H5 hx hP => ?_) (fun σ H5 hP => ?_)⟩
      · obtain ⟨⟨x5, x8, x9, x10, x11, x12, x13, rfl⟩, st5, ev5, hk, hhk, hkn⟩ := hP
        obtain ⟨k8, hk8, rfl⟩ := at_map hx
        have hL5 := hL.ev ev5
        obtain ⟨s8, e8, vx8, vy8, vz8, hlg8, hkt8⟩ := hL5.leg i k8 hk8
        have hi8 := (List.getElem?_eq_some_iff.mp hlg8).1
        have hal := hL.len
        refine ⟨_, rfl, ll, rfl, ⟨_, SqL.of hL5.lst⟩, fun D hD => lc_list (xs := as.map V.ref) (fun j H' => Same H5 H' ∧ ∃ ys, H' D = some (.lst ys) ∧ ys.length ≤ j) ⟨same_upd hD, [], upd_same, Nat.le_refl _⟩
          (fun j H' _ hP => SqL.of (hP.1 _ _ hL5.lst)) (fun j x H6 hx hP => ?_) (fun H6 hP => ?_)⟩
        · obtain ⟨s6, ys, hys, hyn⟩ := hP
          obtain ⟨k, hk2, rfl⟩ := at_map hx
          obtain ⟨s', e', vx, vy, vz, hlg, hkt⟩ := hL5.leg j k hk2
          have hj := (List.getElem?_eq_some_iff.mp hlg).1
          have hkt6 := s6 _ _ hkt
          have hk86 := s6 _ _ hkt8
          refine ⟨rfl, _, rfl, _, _, 0, _, rfl, rfl, SqT.of hkt6, rfl, _, rfl, _, _, 1, _, rfl, rfl, SqT.of hk86, rfl, rfl, _, rfl, ite2 (fun c1 => ?_) fun c1 => ?_⟩
          · refine ⟨_, rfl, _, _, 1, _, rfl, rfl, SqT.of hkt6, rfl, _, rfl, _, _, 0, _, rfl, rfl, SqT.of hk86, rfl, rfl, _, rfl, ite2 (fun c2 => ?_) fun c2 => ?_⟩
            · exact ⟨_, rfl, ys, hys, small1000 (by omega), same_upd_new s6 hD, _, upd_same, by rw [List.length_append]; exact Nat.succ_le_succ hyn⟩
            · exact ⟨s6, ys, hys, by omega⟩
          · exact ⟨s6, ys, hys, by omega⟩
        · obtain ⟨s6, ys, hys, hyn⟩ := hP
          have st6 := st5.same s6
          have ev6 := ev5.trans (Ev.of s6)
          refine ⟨_, rfl, _, _, rfl, .inl (SqL.of hys), _, _, rfl, rfl, _, rfl, ite2 (fun c1 => ?_) fun c1 => ?_⟩
          · refine ⟨_, rfl, sd, 2, rfl, st6, by decide, by decide, fun H7 r7 st7 e7 _ _ => ⟨rfl, _, rfl, ite2 (fun c2 => ?_) fun c2 => ?_⟩⟩
            · have ev7 := ev6.trans e7
              have hk87 := e7.tup (s6 _ _ hkt8)
              have hhk7 := e7.dK nhd (s6 _ _ hhk)
              refine ⟨_, rfl, _, _, 1, _, rfl, rfl, SqT.of hk87, rfl, _, rfl, _, rfl, _, _, 0, _, rfl, rfl, SqT.of hk87, rfl, hd, _, rfl, DPut.k (k := .inr s8) hhk7 (small1000 (by omega)), ⟨_, _, _, _, _, _, _, rfl⟩, st4.upd ev7 st7 hhd, ev7.upd_new hhd, _, upd_same, Nat.le_trans putK_len (by omega)⟩
            · exact ⟨⟨_, _, _, _, _, _, _, rfl⟩, st7, ev6.trans e7, hk, e7.dK nhd (s6 _ _ hhk), by omega⟩
          · exact ⟨⟨_, _, _, _, _, _, _, rfl⟩, st6, ev6, hk, s6 _ _ hhk, by omega⟩
      · obtain ⟨⟨x5, x8, x9, x10, x11, x12, x13, rfl⟩, st5, ev5, hk, hhk, hkn⟩ := hP
        have hl5 := ev5.lst hl4
        refine ⟨_, rfl, ln, rfl, ⟨_, SqL.of hl5⟩, fun D hD => lc_list (xs := ns.map V.str) (fun j H' => StOk H' sd ∧ Ev (tbs K) sd H5 H' ∧ ∃ ys, H' D = some (.lst ys) ∧ ys.length ≤ j) ⟨st5.same (same_upd hD), Ev.of (same_upd hD), [], upd_same, Nat.le_refl _⟩
          (fun j H' _ hP => SqL.of (hP.2.1.lst hl5)) (fun j x H6 hx hP => ?_) (fun H6 hP => ?_)⟩
        · obtain ⟨st6, ev6, ys, hys, hyn⟩ := hP
          obtain ⟨n, hn, rfl⟩ := at_map hx
          have hj := (List.getElem?_eq_some_iff.mp hn).1
          refine ⟨rfl, _, rfl, sd, 3, rfl, st6, by decide, by decide, fun H7 r7 st7 e7 _ _ => ⟨rfl, _, rfl, ite2 (fun c2 => ?_) fun c2 => ?_⟩⟩
          · exact ⟨_, rfl, ys, e7.lst hys, small1000 (by omega), st5.upd (ev6.trans e7) st7 hD, (ev6.trans e7).upd_new hD, _, upd_same, by rw [List.length_append]; exact Nat.succ_le_succ hyn⟩
          · exact ⟨st7, ev6.trans e7, ys, e7.lst hys, by omega⟩
        · obtain ⟨st6, ev6, ys, hys, hyn⟩ := hP
          refine fun p hp => ?_
          have np : p ≠ sd := st6.ne hp
          have y7 := same_upd (o := .dK []) hp
          refine ⟨_, rfl, _, rfl, by show 0 ≤ sizeLine; decide, fun zl hzl => ?_⟩
          have y8 := same_upd (o := .lst []) hzl
          have hys8 := y8 _ _ (y7 _ _ hys)
          refine ⟨_, rfl, _, rfl, D, ys, rfl, SqL.of hys8, fun rw_ hrw => ?_⟩
          have y9 := same_upd (o := .lst (cutV ys none (some 4))) hrw
          have y79 : Same H6 (upd (upd (upd H6 p (.dK [])) zl (.lst [])) rw_ (.lst (cutV ys none (some 4)))) := fun b o e => y9 b o (y8 b o (y7 b o e))
          have hp9 : (upd (upd (upd H6 p (.dK [])) zl (.lst [])) rw_ (.lst (cutV ys none (some 4)))) p = some (.dK []) := y9 _ _ (y8 _ _ upd_same)
          generalize upd (upd (upd H6 p (.dK [])) zl (.lst [])) rw_ (.lst (cutV ys none (some 4))) = H9 at y79 hp9 ⊢
          refine ⟨_, rfl, hp9, [(.inr "fixes", .ref df), (.inr "legs", .ref ll), (.inr "zones", .ref zl), (.inr "runways", .ref rw_), (.inr "holds", .ref hd)], rfl, by show 5 ≤ 15; decide, ?_⟩
          have ev10 : Ev (tbs K) sd H6 (upd H9 p (.dK [(.inr "fixes", .ref df), (.inr "legs", .ref ll), (.inr "zones", .ref zl), (.inr "runways", .ref rw_), (.inr "holds", .ref hd)])) := (Ev.of y79).upd_new hp
          have st10 := st6.upd (o := .dK [(.inr "fixes", .ref df), (.inr "legs", .ref ll), (.inr "zones", .ref zl), (.inr "runways", .ref rw_), (.inr "holds", .ref hd)]) (Ev.of (ts := tbs K) (sd := sd) y79) (st6.same y79) hp
          have hp10 : (upd H9 p (.dK [(.inr "fixes", .ref df), (.inr "legs", .ref ll), (.inr "zones", .ref zl), (.inr "runways", .ref rw_), (.inr "holds", .ref hd)])) p = some (.dK [(.inr "fixes", .ref df), (.inr "legs", .ref ll), (.inr "zones", .ref zl), (.inr "runways", .ref rw_), (.inr "holds", .ref hd)]) := upd_same
          have hs : mergeK [] [(.inr "fixes", V.ref df), (.inr "legs", .ref ll), (.inr "zones", .ref zl), (.inr "runways", .ref rw_), (.inr "holds", .ref hd)] = [(.inr "fixes", .ref df), (.inr "legs", .ref ll), (.inr "zones", .ref zl), (.inr "runways", .ref rw_), (.inr "holds", .ref hd)] := rfl
          rw [hs]
          generalize upd H9 p (.dK [(.inr "fixes", .ref df), (.inr "legs", .ref ll), (.inr "zones", .ref zl), (.inr "runways", .ref rw_), (.inr "holds", .ref hd)]) = G0 at ev10 st10 hp10 ⊢
          refine ⟨by show 0 ≤ sizeLine; decide, fun hh hhh => ?_⟩
          have y11 := same_upd (o := .lst []) hhh
          have ev11 := ev10.trans (Ev.of y11)
          have st11 := st10.same y11
          have hp11 := y11 _ _ hp10
          generalize upd G0 hh (.lst []) = G1 at ev11 st11 hp11 ⊢
          refine ⟨_, rfl, p, _, rfl, DPut.k (k := .inr "hours") hp11 (by show 5 < sizeLine; decide), ?_⟩
          have e12 : putK ([(.inr "fixes", V.ref df), (.inr "legs", .ref ll), (.inr "zones", .ref zl), (.inr "runways", .ref rw_), (.inr "holds", .ref hd)] : List (Key × V)) (.inr "hours" : Key) (.ref hh) = [(.inr "fixes", .ref df), (.inr "legs", .ref ll), (.inr "zones", .ref zl), (.inr "runways", .ref rw_), (.inr "holds", .ref hd), (.inr "hours", .ref hh)] := rfl
          rw [e12]
          have ev12 := ev11.upd_new (o := .dK [(.inr "fixes", .ref df), (.inr "legs", .ref ll), (.inr "zones", .ref zl), (.inr "runways", .ref rw_), (.inr "holds", .ref hd), (.inr "hours", .ref hh)]) hp
          have st12 := st6.upd (o := .dK [(.inr "fixes", .ref df), (.inr "legs", .ref ll), (.inr "zones", .ref zl), (.inr "runways", .ref rw_), (.inr "holds", .ref hd), (.inr "hours", .ref hh)]) ev11 st11 hp
          have hp12 : (upd G1 p (.dK [(.inr "fixes", .ref df), (.inr "legs", .ref ll), (.inr "zones", .ref zl), (.inr "runways", .ref rw_), (.inr "holds", .ref hd), (.inr "hours", .ref hh)])) p = _ := upd_same
          generalize upd G1 p (.dK [(.inr "fixes", .ref df), (.inr "legs", .ref ll), (.inr "zones", .ref zl), (.inr "runways", .ref rw_), (.inr "holds", .ref hd), (.inr "hours", .ref hh)]) = G2 at ev12 st12 hp12 ⊢
          refine fun cp hcp => ?_
          have y13 := same_upd (o := .dK []) hcp
          have ev13 := ev12.trans (Ev.of y13)
          have st13 := st12.same y13
          have hp13 := y13 _ _ hp12
          generalize upd G2 cp (.dK []) = G3 at ev13 st13 hp13 ⊢
          refine ⟨_, rfl, p, _, rfl, DPut.k (k := .inr "capacities") hp13 (by show 6 < sizeLine; decide), ?_⟩
          have e14 : putK ([(.inr "fixes", V.ref df), (.inr "legs", .ref ll), (.inr "zones", .ref zl), (.inr "runways", .ref rw_), (.inr "holds", .ref hd), (.inr "hours", .ref hh)] : List (Key × V)) (.inr "capacities" : Key) (.ref cp) = chK ⟨p, df, ll, fk, fx, as, lg, .ref zl, .ref rw_, .ref hd, .ref hh, .ref cp⟩ := rfl
          rw [e14]
          have ev14 := ev13.upd_new (o := .dK (chK ⟨p, df, ll, fk, fx, as, lg, .ref zl, .ref rw_, .ref hd, .ref hh, .ref cp⟩)) hp
          have st14 := st6.upd (o := .dK (chK ⟨p, df, ll, fk, fx, as, lg, .ref zl, .ref rw_, .ref hd, .ref hh, .ref cp⟩)) ev13 st13 hp
          have evA : Ev (tbs K) sd H4 (upd G3 p (.dK (chK ⟨p, df, ll, fk, fx, as, lg, .ref zl, .ref rw_, .ref hd, .ref hh, .ref cp⟩))) := ev5.trans (ev6.trans ev14)
          have hFz := hF4.ev ndf evA
          have hLz := hL.ev evA
          exact ⟨_, rfl, q _ ⟨p, df, ll, fk, fx, as, lg, .ref zl, .ref rw_, .ref hd, .ref hh, .ref cp⟩ ks st14 (ev4.trans evA) ⟨upd_same, np, ndf, hFz.dk, hFz.fpt, hLz.lst, hLz.len, by show lg.length ≤ 100; omega, hLz.leg, fun s e hm => by
            obtain ⟨h1, h2⟩ := hLz.ends s e hm
            obtain ⟨j1, hj1, g1⟩ := List.getElem_of_mem h1
            obtain ⟨j2, hj2, g2⟩ := List.getElem_of_mem h2
            exact ⟨(hall j1 s (by omega) (by rw [List.getElem?_eq_getElem hj1, g1])).1, (hall j2 e (by omega) (by rw [List.getElem?_eq_getElem hj2, g2])).1⟩⟩ ⟨hFz.keys, hFz.all, ks2, by omega⟩ (ev3.free _ hll0) hz⟩
end
end K16
set_option maxHeartbeats 4000000
namespace K16
open PySem PySem.Spec PyProof.Rows L2
open GxR (TabG Tabbed)
open Geo (Pt)
/-- one more leg -/
def Ch.more (c : Ch) (t : Addr) (s e : Str) : Ch := { c with as := c.as ++ [t], lg := c.lg ++ [(s, e)] }
theorem ChOk.more {H : Hp} {sd : Addr} {c : Ch} {t : Addr} {s e : Str} {x y z : V} (h : ChOk H sd c) (hz : c.lg.length < 100) (ht : H t = none) (hs : ∃ p, c.fx s = some p) (he : ∃ p, c.fx e = some p) :
    ChOk (upd (upd H t (.tup [.str s, .str e, x, y, z])) c.ll (.lst (c.as.map V.ref ++ [V.ref t]))) sd (c.more t s e) := by
  have nl : t ≠ c.ll := fun z => by rw [z, h.lgs] at ht; cases ht
  have kp : ∀ a o, H a = some o → a ≠ c.ll → (upd (upd H t (.tup [.str s, .str e, x, y, z])) c.ll (.lst (c.as.map V.ref ++ [V.ref t]))) a = some o := fun a o ha n => by
    rw [upd_ne n, upd_ne (fun z => by rw [z, ht] at ha; cases ha)]
    exact ha
  refine ⟨kp _ _ h.ch (fun z => ?_), h.nca, h.ndf, kp _ _ h.fxs (fun z => ?_), fun n p hp => ?_, by show upd _ _ _ c.ll = _; rw [upd_same]; show _ = some (HO.lst ((c.as ++ [t]).map V.ref)); rw [List.map_append]; rfl, ?_, ?_, fun i k hk => ?_, fun s' e' hm => ?_⟩
  · have k := h.ch
    have z : c.ca = c.ll := z
    rw [z, h.lgs] at k
    cases k
  · have k := h.fxs
    have z : c.df = c.ll := z
    rw [z, h.lgs] at k
    cases k
  · obtain ⟨b, a, h1, h2⟩ := h.fx n p hp
    exact ⟨b, a, h1, kp _ _ h2 (fun z => by rw [z, h.lgs] at h2; cases h2)⟩
  · show (c.as ++ [t]).length = (c.lg ++ [(s, e)]).length
    rw [List.length_append, List.length_append, h.len]
    rfl
  · show (c.lg ++ [(s, e)]).length ≤ 100
    rw [List.length_append]
    exact hz
  · have hk : (c.as ++ [t])[i]? = some k := hk
    show ∃ (s' e' : Str) (x' y' z' : V), (c.lg ++ [(s, e)])[i]? = some (s', e') ∧ _
    by_cases hi : i < c.as.length
    · rw [List.getElem?_append_left hi] at hk
      obtain ⟨s', e', x', y', z', h1, h2⟩ := h.leg i k hk
      exact ⟨s', e', x', y', z', by rw [List.getElem?_append_left (by rw [← h.len]; exact hi)]; exact h1, kp _ _ h2 (fun z => by rw [z, h.lgs] at h2; cases h2)⟩
    · rw [List.getElem?_append_right (by omega)] at hk
      have e0 : i - c.as.length = 0 := by
        have := (List.getElem?_eq_some_iff.mp hk).1
        have z : ([t] : List Addr).length = 1 := rfl
        omega
      rw [e0] at hk
      cases hk
      exact ⟨s, e, x, y, z, by rw [List.getElem?_append_right (by rw [← h.len]; omega), ← h.len, e0]; rfl, by rw [upd_ne nl, upd_same]⟩
  · have hm : (s', e') ∈ c.lg ++ [(s, e)] := hm
    rcases List.mem_append.mp hm with hm | hm
    · exact h.ends s' e' hm
    · cases List.mem_singleton.mp hm
      exact ⟨hs, he⟩
def spSmall (K : PySem.W.Frag) : Sp := fun vs H Q _ => ∃ sd : Addr, vs = [.ref sd] ∧ StOk H sd ∧ ∀ H' c, StOk H' sd → Ev (tbs K) sd H H' → ChOk H' sd c → c.lg ≠ [] → Q (.ref c.ca) H'
section
variable {P : Program} {w : World} {K : PySem.W.Frag} {mg : Str → Option Value} {base : Heap}
theorem sc_l_small_chart : FnScope ["_law_state", "_law_chart_here", "_law_names_here"] ["_law_state"] (defScope s_law_small_chart) := ⟨rfl, rfl, rfl, by decide +kernel, rfl, by decide +kernel, by decide +kernel⟩
theorem ok_small_chart (T : Tx K mg) (O_l_draw : OkF P w K mg base 1 "_law_draw" ["_law_state", "_law_bound"] (spDraw K)) (O_l_pick : OkF P w K mg base 2 "_law_pick" ["_law_state", "_law_things"] (spPick K)) (O_l_chart : OkF P w K mg base 4 "_law_chart" ["_law_state", "_law_many", "_law_size"] (spChart K)) :
    OkF P w K mg base 5 "_law_small_chart" ["_law_state"] (spSmall K) := by
  obtain ⟨fd, F⟩ := T.f_l_small_chart
  refine ⟨_, fd, okD F sc_l_small_chart (fun vs H Q E h => ?_) (fun cdv A outer s H vs Q E hr h => ?_), T.g_l_small_chart, F.kp, F.bindsN fun _ _ _ _ _ _ us hl => match us, hl with | [_], _ => rfl⟩
  · obtain ⟨_, rfl, _⟩ := h
    rfl
  · obtain ⟨sd, rfl, st, q⟩ := h
    have hu := hu_of hr
    refine ⟨_, (pss_cons (ps_set (i := 1) sc_l_small_chart.nd rfl (Or.inl rfl) (pe_fn O_l_chart hr rfl (pa_cons (pv 0) (pa_cons (pe_op op_add pe_int (pe_fn O_l_draw hr rfl (pa_cons (pv 0) (pa_cons pe_int pa_nil)))) (pa_cons (pe_fn O_l_pick hr rfl (pa_cons (pv 0) (pa_cons (pe_lst (pa_cons pe_int (pa_cons pe_int (pa_cons pe_int (pa_cons pe_int pa_nil))))) pa_nil))) pa_nil)))))
  (pss_cons (ps_if (pt_cmpR op_eq (pe_callB call_len_seq (by rfl) T.len (by decide +kernel) (pa_cons (pe_dget hu (pv 1) pe_str (fun _ _ => rfl)) pa_nil)) pe_int (nomark _)) (pss_cons (ps_set (i := 2) sc_l_small_chart.nd rfl (Or.inl rfl) (pe_callB (call_sortedD rfl) (by rfl) T.sorted (by decide +kernel) (pa_cons (pe_dget hu (pv 1) pe_str (fun _ _ => rfl)) pa_nil)))
  (pss_one (ps_expr (pe_bm PySem.F.plainAttrs_list PySem.F.slot_list_append PySem.F.type_list_append mt_append (pe_dget hu (pv 1) pe_str (fun _ _ => rfl)) (pa_cons (pe_tup (pa_cons (pe_ix ix_list (pv 2) pe_int (fun _ _ => rfl)) (pa_cons (pe_ix ix_list (pv 2) pe_int (fun _ _ => rfl)) (pa_cons pe_str (pa_cons pe_int (pa_cons pe_int pa_nil)))))) pa_nil))))) pss_nil)
  (pss_one (ps_ret (pv 1))))), ?_⟩
    refine ⟨_, rfl, _, rfl, sd, 5, rfl, st, by decide, by decide, fun H1 r st1 e1 r0 r1 => ?_⟩
    obtain ⟨rn, rfl⟩ : ∃ rn : Nat, r = rn := ⟨r.toNat, (Int.toNat_of_nonneg r0).symm⟩
    refine ⟨_, _, rfl, rfl, _, rfl, by show 4 ≤ sizeLine; decide, fun t ht => ?_⟩
    have y1 := same_upd (o := .lst (([2, 9, 9, 40] : List Int).map V.int)) ht
    refine ⟨sd, t, ([2, 9, 9, 40] : List Int).map V.int, rfl, st1.same y1, upd_same, List.cons_ne_nil _ _, by show 4 < 1073741824; decide, fun H2 x st2 e2 hm => ?_⟩
    obtain ⟨n, hn, rfl⟩ := List.mem_map.mp hm
    have hn3 : 1 ≤ n ∧ n ≤ 40 := (by decide : ∀ n ∈ ([2, 9, 9, 40] : List Int), 1 ≤ n ∧ n ≤ 40) n hn
    refine ⟨sd, 2 + rn, n, rfl, st2, by omega, by omega, hn3.1, hn3.2, fun H3 c ks st3 e3 hC hK hll hz => ?_⟩
    have ev2 : Ev (tbs K) sd H H2 := e1.trans ((Ev.of y1).trans e2)
    have ev3 := ev2.trans e3
    refine ⟨_, rfl, _, _, rfl, hC.gl, _, _, rfl, .inl (SqL.of hC.lgs), rfl, _, rfl, ite2 (fun c1 => ?_) fun c1 => ?_⟩
    · refine ⟨_, rfl, _, _, rfl, hC.gf, c.df, c.fk, ks, rfl, .inl hC.fxs, hK.keys, by have := hK.sz; omega, fun ys p perm _ hp => ?_⟩
      have y4 := same_upd (o := .lst (ys.map V.str)) hp
      have hC4 := hC.same y4
      have hl : ys.length = ks.length := perm.length_eq
      have k2 := hK.two
      obtain ⟨n0, h0⟩ : ∃ n0, ys[0]? = some n0 := ⟨_, List.getElem?_eq_getElem (by omega)⟩
      obtain ⟨n1, h1⟩ : ∃ n1, ys[1]? = some n1 := ⟨_, List.getElem?_eq_getElem (by omega)⟩
      have m0 := hK.all n0 (perm.mem_iff.mp (List.mem_of_getElem? h0))
      have m1 := hK.all n1 (perm.mem_iff.mp (List.mem_of_getElem? h1))
      refine ⟨_, rfl, _, _, rfl, hC4.gl, .inl ⟨rfl, _, SqL.of hC4.lgs⟩, _, rfl, _, _, 0, _, rfl, rfl, SqL.of upd_same, atI_str (i := 0) h0, _, rfl, _, _, 1, _, rfl, rfl, SqL.of upd_same, atI_str (i := 1) h1, by show 5 ≤ sizeLine; decide, fun t5 h5 => ?_⟩
      have y5 := same_upd (o := .tup [.str n0, .str n1, .str "N", .int 0, .int 600]) h5
      have hC6 := hC4.more (x := .str "N") (y := .int 0) (z := .int 600) (by omega) h5 m0 m1
      have ev5 : Ev (tbs K) sd H2 _ := e3.trans ((Ev.of y4).trans (Ev.of y5))
      have hll2 : H c.ll = none := ev2.free _ hll
      refine ⟨c.ll, _, _, rfl, rfl, y5 _ _ hC4.lgs, by rw [List.length_map, hC.len]; exact small1000 (by omega), ?_⟩
      exact ⟨_, rfl, q _ (c.more t5 n0 n1) (st.upd (ev2.trans ev5) ((st3.same y4).same y5) hll2) ((ev2.trans ev5).upd_new hll2) hC6 (by show c.lg ++ _ ≠ []; simp)⟩
    · refine ⟨_, rfl, q H3 c st3 ev3 hC fun z => c1 (decide_eq_true ?_)⟩
      have hl := hC.len
      rw [z] at hl
      rw [List.length_map, hl]
      rfl
end
end K16
set_option maxHeartbeats 4000000
namespace K16
open PySem PySem.Spec PyProof.Rows L2
open GxR (TabG Tabbed)
open Geo (Pt)
/-- the heap without the thing at x -/
def off (H : Hp) (x : Addr) : Hp := fun a => if a = x then none else H a
theorem off_ne {H : Hp} {x a : Addr} (n : a ≠ x) : off H x a = H a := if_neg n
theorem off_at {H : Hp} {x : Addr} : off H x x = none := if_pos rfl
theorem off_same {H H' : Hp} {x : Addr} (h : ∀ a o, H a = some o → a ≠ x → H' a = some o) : Same (off H x) H' := fun a o e => by
  by_cases z : a = x
  · rw [z, off_at] at e; cases e
  · rw [off_ne z] at e; exact h a o e z
theorem ChOk.off {H : Hp} {sd x C dx : Addr} {fs : List (Str × V)} {c : Ch} (h : ChOk H sd c) (hx : H x = some (.ins C dx fs)) : ChOk (off H x) sd c := by
  have k : ∀ a o, H a = some o → (∀ C dx fs, o ≠ .ins C dx fs) → K16.off H x a = some o := fun a o ha n => by
    rw [off_ne (fun z => by rw [z, hx] at ha; exact n _ _ _ (Option.some.inj ha).symm)]
    exact ha
  exact ⟨k _ _ h.ch fun _ _ _ z => (by cases z), h.nca, h.ndf, k _ _ h.fxs fun _ _ _ z => (by cases z), fun n p hp => by obtain ⟨b, a, h1, h2⟩ := h.fx n p hp; exact ⟨b, a, h1, k _ _ h2 fun _ _ _ z => (by cases z)⟩, k _ _ h.lgs fun _ _ _ z => (by cases z), h.len, h.sz,
    fun i a ha => by obtain ⟨s, e, x, y, z, h1, h2⟩ := h.leg i a ha; exact ⟨s, e, x, y, z, h1, k _ _ h2 fun _ _ _ z => (by cases z)⟩, h.ends⟩
theorem cut1 {xs : List V} (h : 1 ≤ xs.length) : cutV xs (some 1) none = xs.drop 1 := by
  unfold cutV
  have e1 : HT.sIx xs.length 0 (some 1) = 1 := by
    rw [show (1 : Int) = ((1 : Nat) : Int) from rfl, HT.sIx_nat]
    omega
  rw [e1, HT.sIx_none]
  exact List.take_of_length_le (by rw [List.length_drop]; exact Nat.le_refl _)
/-- the points' list -/
structure PtL (H : Hp) (a : Addr) (ps : List Addr) (pts : List Pt) : Prop where
  lst : H a = some (.lst (ps.map V.ref))
  at_ : ∀ (i : Nat) (k : Addr), ps[i]? = some k → H k = some (.tup (pt (gP pts i)))
theorem PtL.same {H H' : Hp} {a : Addr} {ps : List Addr} {pts : List Pt} (h : PtL H a ps pts) (e : ∀ b o, H b = some o → (∀ C dx fs, o ≠ .ins C dx fs) → (∀ xs, o = .lst xs → b = a) → H' b = some o) : PtL H' a ps pts :=
  ⟨e _ _ h.lst (fun _ _ _ z => by cases z) (fun _ _ => rfl), fun i k hk => e _ _ (h.at_ i k hk) (fun _ _ _ z => by cases z) (fun _ z => by cases z)⟩
def spInit (K : PySem.W.Frag) : Sp := fun vs H Q _ => ∃ (x dx sd r : Addr) (c : Ch) (rt : List Str) (pts : List Pt), vs = [.ref x, .ref c.ca, .ref r] ∧ H x = some (.ins (He.ga K "Path") dx []) ∧ ChOk H sd c ∧ H r = some (.tup (rt.map V.str)) ∧ RtOk c rt pts ∧ 2 ≤ rt.length ∧ rt.length ≤ 8 ∧
  (∀ i, PtOk (gP pts i)) ∧ ∀ H' u bg, (∀ a o, H a = some o → a ≠ x → H' a = some o) → PathAt K H' x u pts bg → Chain pts bg → H u.ll = none → H u.pp = none → H u.bb = none → Q .non H'
section
variable {P : Program} {w : World} {K : PySem.W.Frag} {mg : Str → Option Value} {base : Heap}
theorem sc_P__init : FnScope ["self", "chart", "route", "start", "end", "name"] ["self", "chart", "route"] (defScope sP_init) := ⟨rfl, rfl, rfl, by decide +kernel, rfl, by decide +kernel, by decide +kernel⟩
theorem ok_init (T : Tx K mg) (O_leg_between : OkF P w K mg base 1 "leg_between" ["chart", "start", "end"] (spBetween K)) (O_leg_length : OkF P w K mg base 2 "leg_length" ["chart", "start", "end"] (spLegLen K)) :
    ∃ (f : Addr) (fd : FuncData), FnOk P w K mg base CX0 3 f fd ["self", "chart", "route"] (spInit K) ∧ Mk K (He.ga K "Path") f ∧ Binds K fd ["self", "chart", "route"] [] := by
  obtain ⟨fd, F⟩ := T.fm_init
  refine ⟨_, fd, okD F sc_P__init (fun vs H Q E h => ?_) (fun cdv A outer s H vs Q E hr h => ?_), T.mkr, F.bindsN fun _ _ _ _ _ _ us hl => match us, hl with | [_, _, _], _ => rfl⟩
  · obtain ⟨_, _, _, _, _, _, _, rfl, _⟩ := h
    rfl
  · obtain ⟨x, dx, sd, r, c, rt, pts, rfl, hx, hC, hr2, R, n2, n8, hpb, q⟩ := h
    have hu := hu_of hr
    refine ⟨_, (pss_cons (ps_fld (pv 0) (pe_callTy call_tupleT (by rfl) T.tuple (by decide +kernel) (pa_cons (pv 2) pa_nil)) rfl)
  (pss_cons (ps_fld (pv 0) (pe_lst pa_nil) rfl)
  (pss_cons (ps_fld (pv 0) (pe_lc (own := [("name", 5)]) (g := gName 5) (tt := tYes) rfl sc_P__init.nd (pi_tup (pv 2)) (blkOk_by (own := [("name", 5)]) (N := ["self", "chart", "route", "start", "end", "name"]) (sc := defScope sP_init) (by decide +kernel)) (fun _ _ _ _ _ => (pg_name (i := 5) sc_P__init.nd rfl (Or.inl rfl))) (fun _ _ _ _ _ => pts_nil) (fun _ _ _ _ _ => (pe_dget hu (pe_dget hu (pv 1) pe_str (fun _ _ => rfl)) (pv 5) (fun _ _ => rfl)))) rfl)
  (pss_cons (ps_fld (pv 0) (pe_lst (pa_cons pe_int pa_nil)) rfl)
  (pss_one (ps_for PassesOwn.never rfl (RZ.pi_zipA (by rfl) T.zip (pa_cons (pv 2) (pa_cons (pe_slice sl_tup (pv 2) (po_some pe_int) po_none) pa_nil))) (pg_tup rfl (pgs_cons (pg_name (i := 3) sc_P__init.nd rfl (Or.inl rfl)) (pgs_cons (pg_name (i := 4) sc_P__init.nd rfl (Or.inl rfl)) pgs_nil))) (pss_cons (ps_expr (pe_bm PySem.F.plainAttrs_list PySem.F.slot_list_append PySem.F.type_list_append mt_append (pe_fld (pv 0) rfl) (pa_cons (pe_fn O_leg_between hr rfl (pa_cons (pv 1) (pa_cons (pv 3) (pa_cons (pv 4) pa_nil)))) pa_nil)))
  (pss_one (ps_expr (pe_bm PySem.F.plainAttrs_list PySem.F.slot_list_append PySem.F.type_list_append mt_append (pe_fld (pv 0) rfl) (pa_cons (pe_op op_add (pe_ix ix_list (pe_fld (pv 0) rfl) (pe_un un_neg pe_int) (fun _ _ => rfl)) (pe_fn O_leg_length hr rfl (pa_cons (pv 1) (pa_cons (pv 3) (pa_cons (pv 4) pa_nil))))) pa_nil))))))))))), ?_⟩
    have B : Same (off H x) H := off_same fun a o h _ => h
    have hCx : ChOk (off H x) sd c := hC.off hx
    have hrx : off H x r = some (.tup (rt.map V.str)) := by rw [off_ne (fun z => by rw [z, hx] at hr2; cases hr2)]; exact hr2
    have q' : ∀ H' u bg, Same (off H x) H' → PathAt K H' x u pts bg → Chain pts bg → H u.ll = none → H u.pp = none → H u.bb = none → Q .non H' := fun H' u bg s => q H' u bg fun a o h n => s a o (by rw [off_ne n]; exact h)
    have hoff : ∀ a, a ≠ x → off H x a = none → H a = none := fun a n z => by rw [off_ne n] at z; exact z
    have hx0 : off H x x = none := off_at
    clear q
    generalize off H x = Hx at B hCx hrx q' hx0 hoff
    have rl := R.len
    have hlen : (rt.map V.str).length = rt.length := List.length_map ..
    -- self._route
    refine ⟨_, rfl, r, _, rfl, SqT.of hr2, _, rfl, x, _, _, _, rfl, hx, T.cl, T.no_route, by decide, ?_⟩
    have s1 : Same Hx (upd H x (.ins (He.ga K "Path") dx (putF "_route" (.ref r) []))) := same_upd_new B hx0
    have x1 : (upd H x (.ins (He.ga K "Path") dx (putF "_route" (.ref r) []))) x = some (.ins (He.ga K "Path") dx [("_route", .ref r)]) := upd_same
    generalize upd H x (.ins (He.ga K "Path") dx (putF "_route" (.ref r) [])) = G1 at s1 x1 ⊢
    -- self._legs
    refine ⟨by show 0 ≤ sizeLine; decide, fun ll hll => ?_⟩
    have nlx : ll ≠ x := fun z => by rw [z, x1] at hll; cases hll
    refine ⟨_, rfl, x, _, _, _, rfl, by rw [upd_ne nlx.symm]; exact x1, T.cl, T.no_legs, (by show 1 < 1000; decide), ?_⟩
    have s2 : Same Hx (upd (upd G1 ll (.lst [])) x (.ins (He.ga K "Path") dx (putF "_legs" (.ref ll) [("_route", .ref r)]))) := same_upd_new (fun b o e => same_upd hll b o (s1 b o e)) hx0
    have x2 : (upd (upd G1 ll (.lst [])) x (.ins (He.ga K "Path") dx (putF "_legs" (.ref ll) [("_route", .ref r)]))) x = some (.ins (He.ga K "Path") dx [("_route", .ref r), ("_legs", .ref ll)]) := upd_same
    have l2 : (upd (upd G1 ll (.lst [])) x (.ins (He.ga K "Path") dx (putF "_legs" (.ref ll) [("_route", .ref r)]))) ll = some (.lst []) := by rw [upd_ne nlx, upd_same]
    generalize upd (upd G1 ll (.lst [])) x (.ins (He.ga K "Path") dx (putF "_legs" (.ref ll) [("_route", .ref r)])) = G2 at s2 x2 l2 ⊢
    -- self._points
    refine ⟨_, rfl, r, rfl, ⟨_, SqT.of (s2 _ _ hrx)⟩, fun D hD => lc_tup (xs := rt.map V.str) (fun i H' => Same Hx H' ∧ H' x = some (.ins (He.ga K "Path") dx [("_route", .ref r), ("_legs", .ref ll)]) ∧ H' ll = some (.lst []) ∧ ∃ ps, PtL H' D ps pts ∧ ps.length = i) ?_
      (fun i H' _ hP => SqT.of (hP.1 _ _ hrx)) (fun i z H3 hz hP => ?_) (fun H3 hP => ?_)⟩
    · have nDx : D ≠ x := fun z => by rw [z, x2] at hD; cases hD
      have nDl : D ≠ ll := fun z => by rw [z, l2] at hD; cases hD
      exact ⟨fun b o e => same_upd hD b o (s2 b o e), by rw [upd_ne nDx.symm]; exact x2, by rw [upd_ne nDl.symm]; exact l2, [], ⟨upd_same, fun i k hk => by cases hk⟩, rfl⟩
    · have nDx : D ≠ x := fun z => by rw [z, x2] at hD; cases hD
      have nDl : D ≠ ll := fun z => by rw [z, l2] at hD; cases hD
      obtain ⟨s3, x3, l3, ps, hps, hpn⟩ := hP
      obtain ⟨n, hn, rfl⟩ := at_map hz
      have hi := (List.getElem?_eq_some_iff.mp hn).1
      obtain ⟨n', hn', hfx⟩ := R.at_ i (by omega)
      rw [hn] at hn'
      cases hn'
      have hC3 := hCx.same s3
      obtain ⟨k1, g1, e1⟩ := hC3.gx hfx
      refine ⟨rfl, _, rfl, _, _, rfl, hC3.gf, _, rfl, _, _, rfl, g1, _, hps.lst, by rw [List.length_map]; exact small1000 (by omega), same_upd_new s3 (s2.free hD), by rw [upd_ne nDx.symm]; exact x3, by rw [upd_ne nDl.symm]; exact l3, ps ++ [k1], ⟨by rw [upd_same, List.map_append]; rfl, fun j k hk => ?_⟩, by rw [List.length_append, hpn]; rfl⟩
      by_cases hj : j < ps.length
      · rw [List.getElem?_append_left hj] at hk
        have h9 := hps.at_ j k hk
        rw [upd_ne (fun z => by rw [z, hps.lst] at h9; cases h9)]
        exact h9
      · rw [List.getElem?_append_right (by omega)] at hk
        have e0 : j - ps.length = 0 := by
          have := (List.getElem?_eq_some_iff.mp hk).1
          have z : ([k1] : List Addr).length = 1 := rfl
          omega
        rw [e0] at hk
        cases hk
        rw [upd_ne (fun z => by rw [z, hps.lst] at e1; cases e1), show j = i by omega]
        exact e1
    · have nDx : D ≠ x := fun z => by rw [z, x2] at hD; cases hD
      have nDx' := nDx
      have nDl : D ≠ ll := fun z => by rw [z, l2] at hD; cases hD
      obtain ⟨s3, x3, l3, ps, hps, hpn⟩ := hP
      refine ⟨_, rfl, x, _, _, _, rfl, x3, T.cl, T.no_points, (by show 2 < 1000; decide), ?_⟩
      have s4 : Same Hx (upd H3 x (.ins (He.ga K "Path") dx (putF "_points" (.ref D) [("_route", .ref r), ("_legs", .ref ll)]))) := same_upd_new s3 hx0
      have x4 : (upd H3 x (.ins (He.ga K "Path") dx (putF "_points" (.ref D) [("_route", .ref r), ("_legs", .ref ll)]))) x = some (.ins (He.ga K "Path") dx [("_route", .ref r), ("_legs", .ref ll), ("_points", .ref D)]) := upd_same
      have l4 : (upd H3 x (.ins (He.ga K "Path") dx (putF "_points" (.ref D) [("_route", .ref r), ("_legs", .ref ll)]))) ll = some (.lst []) := by rw [upd_ne nlx]; exact l3
      have p4 : PtL (upd H3 x (.ins (He.ga K "Path") dx (putF "_points" (.ref D) [("_route", .ref r), ("_legs", .ref ll)]))) D ps pts := hps.same fun b o h n _ => by
        rw [upd_ne (fun z => by rw [z, x3] at h; exact n _ _ _ (Option.some.inj h).symm)]
        exact h
      generalize upd H3 x (.ins (He.ga K "Path") dx (putF "_points" (.ref D) [("_route", .ref r), ("_legs", .ref ll)])) = G4 at s4 x4 l4 p4 ⊢
      refine ⟨by show 1 ≤ sizeLine; decide, fun bb hbb => ?_⟩
      have nbx : bb ≠ x := fun z => by rw [z, x4] at hbb; cases hbb
      have nbl : bb ≠ ll := fun z => by rw [z, l4] at hbb; cases hbb
      have nbD : bb ≠ D := fun z => by rw [z, p4.lst] at hbb; cases hbb
      refine ⟨_, rfl, x, _, _, _, rfl, by rw [upd_ne nbx.symm]; exact x4, T.cl, T.no_begins, (by show 3 < 1000; decide), ?_⟩
      have yb := same_upd (o := .lst [.int 0]) hbb
      have s5 : Same Hx (upd (upd G4 bb (.lst [.int 0])) x (.ins (He.ga K "Path") dx (putF "_begins" (.ref bb) [("_route", .ref r), ("_legs", .ref ll), ("_points", .ref D)]))) := same_upd_new (fun b o e => yb b o (s4 b o e)) hx0
      have x5 : (upd (upd G4 bb (.lst [.int 0])) x (.ins (He.ga K "Path") dx (putF "_begins" (.ref bb) [("_route", .ref r), ("_legs", .ref ll), ("_points", .ref D)]))) x = some (.ins (He.ga K "Path") dx [("_route", .ref r), ("_legs", .ref ll), ("_points", .ref D), ("_begins", .ref bb)]) := upd_same
      have l5 : (upd (upd G4 bb (.lst [.int 0])) x (.ins (He.ga K "Path") dx (putF "_begins" (.ref bb) [("_route", .ref r), ("_legs", .ref ll), ("_points", .ref D)]))) ll = some (.lst []) := by rw [upd_ne nlx]; exact yb _ _ l4
      have p5 : PtL (upd (upd G4 bb (.lst [.int 0])) x (.ins (He.ga K "Path") dx (putF "_begins" (.ref bb) [("_route", .ref r), ("_legs", .ref ll), ("_points", .ref D)]))) D ps pts := p4.same fun b o h n _ => by
        rw [upd_ne (fun z => by rw [z, x4] at h; exact n _ _ _ (Option.some.inj h).symm)]
        exact yb _ _ h
      have b5 : (upd (upd G4 bb (.lst [.int 0])) x (.ins (He.ga K "Path") dx (putF "_begins" (.ref bb) [("_route", .ref r), ("_legs", .ref ll), ("_points", .ref D)]))) bb = some (.lst [.int 0]) := by rw [upd_ne nbx, upd_same]
      generalize upd (upd G4 bb (.lst [.int 0])) x (.ins (He.ga K "Path") dx (putF "_begins" (.ref bb) [("_route", .ref r), ("_legs", .ref ll), ("_points", .ref D)])) = G5 at s5 x5 l5 p5 b5 ⊢
      have r5 := s5 _ _ hrx
      refine ⟨_, rfl, _, rfl, _, rfl, r, _, rfl, SqT.of r5, ?_, fun r' hr' => ?_⟩
      · rw [show (1 : Int) = ((1 : Nat) : Int) from rfl, HT.sIx_nat, hlen]
        omega
      · have y6 := same_upd (o := .tup (cutV (rt.map V.str) (some 1) none)) hr'
        have s6 : Same Hx (upd G5 r' (.tup (cutV (rt.map V.str) (some 1) none))) := fun b o e => y6 b o (s5 b o e)
        have x6 := y6 _ _ x5
        have l6 := y6 _ _ l5
        have p6 : PtL (upd G5 r' (.tup (cutV (rt.map V.str) (some 1) none))) D ps pts := p5.same fun b o h _ _ => y6 _ _ h
        have b6 := y6 _ _ b5
        have t6 : (upd G5 r' (.tup (cutV (rt.map V.str) (some 1) none))) r' = some (.tup (cutV (rt.map V.str) (some 1) none)) := upd_same
        rw [cut1 (by omega)] at s6 x6 l6 p6 b6 t6 ⊢
        generalize upd G5 r' (.tup ((rt.map V.str).drop 1)) = G6 at s6 x6 l6 p6 b6 t6 ⊢
        have d6 : ∀ i, ((rt.map V.str).drop 1)[i]? = (rt[i + 1]?).map V.str := fun i => by rw [List.getElem?_drop, List.getElem?_map, Nat.add_comm 1 i]
        have dl : ((rt.map V.str).drop 1).length = rt.length - 1 := by rw [List.length_drop, hlen]
        refine ⟨r, r', _, _, rfl, .inr ⟨SqT.of (s6 _ _ hrx), SqT.of t6, ?_⟩⟩
        refine ⟨fun i m σ H' => m + i = rt.length - 1 ∧ (∃ x3 x4 x5 : Option V, σ = [some (.ref x), some (.ref c.ca), some (.ref r), x3, x4, x5]) ∧ Same Hx H' ∧ H' x = some (.ins (He.ga K "Path") dx [("_route", .ref r), ("_legs", .ref ll), ("_points", .ref D), ("_begins", .ref bb)]) ∧ H' r' = some (.tup ((rt.map V.str).drop 1)) ∧ PtL H' D ps pts ∧
          ∃ (ls : List V) (bg : List Int), H' ll = some (.lst ls) ∧ ls.length = i ∧ H' bb = some (.lst (bg.map V.int)) ∧ bg.length = i + 1 ∧ gB bg 0 = 0 ∧ ∀ j, j < i → gB bg (j + 1) = gB bg j + rup (d2 (gP pts j) (gP pts (j + 1))),
          ⟨rt.length - 1, rfl, ⟨_, _, _, rfl⟩, s6, x6, t6, p6, [], [0], l6, rfl, b6, rfl, rfl, fun j hj => absurd hj (Nat.not_lt_zero _)⟩, fun i m σ H7 hW => ?_⟩
        obtain ⟨em, ⟨x3, x4', x5', rfl⟩, s7, x7, t7, p7, ls, bg, l7, ln7, b7, bn7, g0, gs⟩ := hW
        have r7 := s7 _ _ hrx
        by_cases hi : i < rt.length - 1
        · obtain ⟨n1, i1, fx1⟩ := R.at_ i (by omega)
          obtain ⟨n2', i2, fx2⟩ := R.at_ (i + 1) (by omega)
          have hz1 : (rt.map V.str)[i]? = some (.str n1) := by rw [List.getElem?_map, i1]; rfl
          have hz2 : ((rt.map V.str).drop 1)[i]? = some (.str n2') := by rw [d6, i2]; rfl
          refine .inr ⟨⟨_, _, _, _, SqT.of r7, SqT.of t7, hz1, hz2⟩, fun σ' H' => m + i = rt.length - 1 ∧ (∃ x3 x4 x5 : Option V, σ' = [some (.ref x), some (.ref c.ca), some (.ref r), x3, x4, x5]) ∧ Same Hx H' ∧ H' x = some (.ins (He.ga K "Path") dx [("_route", .ref r), ("_legs", .ref ll), ("_points", .ref D), ("_begins", .ref bb)]) ∧ H' r' = some (.tup ((rt.map V.str).drop 1)) ∧ PtL H' D ps pts ∧
            ∃ (ls : List V) (bg : List Int), H' ll = some (.lst ls) ∧ ls.length = i + 1 ∧ H' bb = some (.lst (bg.map V.int)) ∧ bg.length = i + 1 + 1 ∧ gB bg 0 = 0 ∧ ∀ j, j < i + 1 → gB bg (j + 1) = gB bg j + rup (d2 (gP pts j) (gP pts (j + 1))),
            fun σ' H' hN => ⟨m - 1, by omega, by omega, hN.2⟩, fun v H8 hy => ?_⟩
          obtain ⟨t, a, b, rfl, ht, rfl, f1, f2⟩ := hy
          obtain rfl : a = .str n1 := Option.some.inj ((f1 _ (SqT.of r7)).symm.trans hz1)
          obtain rfl : b = .str n2' := Option.some.inj ((f2 _ (SqT.of t7)).symm.trans hz2)
          have y8 := same_upd (o := .tup [.str n1, .str n2']) ht
          have s8 : Same Hx (upd H7 t (.tup [.str n1, .str n2'])) := fun b o e => y8 b o (s7 b o e)
          have x8 := y8 _ _ x7
          have t8 := y8 _ _ t7
          have p8 : PtL (upd H7 t (.tup [.str n1, .str n2'])) D ps pts := p7.same fun b o h _ _ => y8 _ _ h
          have l8 := y8 _ _ l7
          have b8 := y8 _ _ b7
          have tt8 : (upd H7 t (.tup [.str n1, .str n2'])) t = some (.tup [.str n1, .str n2']) := upd_same
          generalize upd H7 t (.tup [.str n1, .str n2']) = G8 at s8 x8 t8 p8 l8 b8 tt8 ⊢
          have hC8 := hCx.same s8
          refine ⟨t, _, rfl, SqT.of tt8, rfl, _, _, rfl, _, _, rfl, rfl, ?_⟩
          refine ⟨_, rfl, x, _, _, _, _, rfl, x8, T.cl, T.no_legs, rfl, .inl ⟨rfl, _, SqL.of l8⟩, _, rfl, _, rfl, _, rfl, sd, c, n1, n2', rfl, hC8, fun v => ⟨ll, _, _, rfl, rfl, l8, small1000 (by omega), ?_⟩⟩
          have s9 : Same Hx (upd G8 ll (.lst (ls ++ [v]))) := same_upd_new s8 (s1.free hll)
          have x9 : (upd G8 ll (.lst (ls ++ [v]))) x = _ := (upd_ne nlx.symm).trans x8
          have t9 : (upd G8 ll (.lst (ls ++ [v]))) r' = _ := (upd_ne (fun z => by rw [z, l8] at t8; cases t8)).trans t8
          have nlD : ll ≠ D := nDl.symm
          have p9 : PtL (upd G8 ll (.lst (ls ++ [v]))) D ps pts := p8.same fun b o h _ k => by
            rw [upd_ne (fun z => by rw [z, l8] at h; exact nlD (z ▸ k _ (Option.some.inj h).symm))]
            exact h
          have l9 : (upd G8 ll (.lst (ls ++ [v]))) ll = some (.lst (ls ++ [v])) := upd_same
          have b9 : (upd G8 ll (.lst (ls ++ [v]))) bb = _ := (upd_ne nbl).trans b8
          generalize upd G8 ll (.lst (ls ++ [v])) = G9 at s9 x9 t9 p9 l9 b9 ⊢
          have hC9 := hCx.same s9
          have hlast : atI (bg.map V.int) (-1) = some (.int (gB bg i)) := by
            refine atI_m1 (n := i) ?_ (by rw [List.length_map]; exact bn7)
            rw [List.getElem?_map, gB, List.getD_eq_getElem?_getD, List.getElem?_eq_getElem (by omega)]
            rfl
          refine ⟨_, rfl, x, _, _, _, _, rfl, x9, T.cl, T.no_begins, rfl, .inl ⟨rfl, _, SqL.of b9⟩, _, rfl, x, _, _, _, _, rfl, x9, T.cl, T.no_begins, rfl, _, rfl, _, _, _, _, rfl, rfl, SqL.of b9, hlast, _, rfl, _, rfl, _, rfl, sd, c, n1, n2', _, _, rfl, hC9, fx1, fx2, _, _, rfl, rfl, bb, _, _, rfl, rfl, b9, by rw [List.length_map]; exact small1000 (by omega), ?_⟩
          have hbb0 : Hx bb = none := s4.free hbb
          refine ⟨em, ⟨_, _, _, rfl⟩, same_upd_new s9 hbb0, by rw [upd_ne nbx.symm]; exact x9, by rw [upd_ne (fun z => by rw [z, b9] at t9; cases t9)]; exact t9, p9.same fun b o h _ k => ?_, ls ++ [v], bg ++ [gB bg i + rup (d2 (gP pts i) (gP pts (i + 1)))], by rw [upd_ne nbl.symm]; exact l9, by rw [List.length_append, ln7]; rfl, by rw [upd_same, List.map_append]; rfl, by rw [List.length_append, bn7]; rfl, ?_, fun j hj => ?_⟩
          · rw [upd_ne (fun z => by rw [z, b9] at h; exact nbD (z ▸ k _ (Option.some.inj h).symm))]
            exact h
          · rw [gB_app (by omega)]
            exact g0
          · by_cases ej : j = i
            · subst ej
              rw [gB_lst (i := j + 1) (by omega), gB_app (i := j) (by omega)]
            · rw [gB_app (i := j + 1) (by omega), gB_app (i := j) (by omega)]
              exact gs j (by omega)
        · refine .inl ⟨⟨_, _, SqT.of r7, SqT.of t7, .inr (by omega)⟩, ?_⟩
          have hps7 : ps.length = pts.length := by omega
          exact q' H7 ⟨dx, ll, D, bb, .ref r, ls, ps⟩ bg s7 ⟨x7, l7, by show ls.length + 1 = _; omega, p7.lst, hps7, p7.at_, b7, by omega, by omega, hpb⟩ ⟨g0, fun j hj => gs j (by omega), hpb, by omega, by omega, by omega⟩ (hoff _ nlx (s1.free hll)) (hoff _ nDx' (s2.free hD)) (hoff _ nbx (s4.free hbb))
end
end K16
/-! The plain law: far pieces, moved places. -/
namespace K16
open Geo (Pt crossP dotP pointSq sgn crossesB)
theorem scale_id {u v a b d L X U : Int} {u2 v2 c e d2 L2 X2 U2 : Int} (h0 : X * (U * d) = L * (u * a + v * b)) (h1 : X2 * (U2 * d2) = L2 * (u2 * c + v2 * e)) :
    (L * L2) * (U2 * (u * (a * d2) + v * (b * d2)) - U * (u2 * (c * d) + v2 * (e * d))) = (U * U2 * (d * d2)) * (X * L2 - X2 * L) := by
  have e1 : (L * L2) * (U2 * (u * (a * d2) + v * (b * d2)) - U * (u2 * (c * d) + v2 * (e * d))) = L2 * (U2 * d2) * (L * (u * a + v * b)) - L * (U * d) * (L2 * (u2 * c + v2 * e)) := by grind
  rw [e1, ← h0, ← h1]
  grind
theorem far_places {s t : Seg5} (hs : 0 < s.d) (ht : 0 < t.d) {l : Int} (hc : closerB s t l = false) {X0 Y0 L0 X1 Y1 L1 : Int} (o0 : OnSeg X0 Y0 L0 s) (o1 : OnSeg X1 Y1 L1 t) :
    l * l * ((L0 * L1) * (L0 * L1)) ≤ (X0 * L1 - X1 * L0) * (X0 * L1 - X1 * L0) + (Y0 * L1 - Y1 * L0) * (Y0 * L1 - Y1 * L0) := by
  unfold closerB at hc
  obtain ⟨c1, c2⟩ := Bool.or_eq_false_iff.mp hc
  have c3 : ∀ r ∈ sq4 s t, ¬ r.1 < bound s t l * r.2 := fun r hr z => by
    have := List.any_eq_false.mp c2 r hr
    exact this (decide_eq_true z)
  have sep := Geo.sep_of c1 (c3 _ (List.mem_cons_self ..)) (c3 _ (List.mem_cons_of_mem _ (List.mem_cons_self ..))) (c3 _ (List.mem_cons_of_mem _ (List.mem_cons_of_mem _ (List.mem_cons_self ..)))) (c3 _ (List.mem_cons_of_mem _ (List.mem_cons_of_mem _ (List.mem_cons_of_mem _ (List.mem_cons_self ..)))))
  obtain ⟨u, v, hu, hv, hU, x0, y0⟩ := o0
  obtain ⟨u2, v2, hu2, hv2, hU2, x1, y1⟩ := o1
  have q := sep u v u2 v2 hu hv hU hu2 hv2 hU2
  simp only [p1, p2, bound] at q
  have ex := scale_id x0 x1
  have ey := scale_id y0 y1
  generalize hT1 : (u2 + v2) * (u * (s.ax * t.d) + v * (s.bx * t.d)) - (u + v) * (u2 * (t.ax * s.d) + v2 * (t.bx * s.d)) = T1 at q ex
  generalize hT2 : (u2 + v2) * (u * (s.ay * t.d) + v * (s.bY * t.d)) - (u + v) * (u2 * (t.ay * s.d) + v2 * (t.bY * s.d)) = T2 at q ey
  have hM : 0 < (u + v) * (u2 + v2) * (s.d * t.d) := Int.mul_pos (Int.mul_pos hU hU2) (Int.mul_pos hs ht)
  have hMM := Int.mul_pos hM hM
  refine Geo.le_of_mul_pos hMM ?_
  have k := Int.mul_le_mul_of_nonneg_left q (Geo.sq_nonneg (L0 * L1))
  generalize X0 * L1 - X1 * L0 = DX at *
  generalize Y0 * L1 - Y1 * L0 = DY at *
  generalize L0 * L1 = S at *
  generalize s.d * t.d = E at *
  generalize (u + v) * (u2 + v2) = W at *
  have r1 : (W * E) * (W * E) * (DX * DX + DY * DY) = S * S * (T1 * T1 + T2 * T2) := by
    have z1 : (W * E) * (W * E) * (DX * DX + DY * DY) = (W * E * DX) * (W * E * DX) + (W * E * DY) * (W * E * DY) := by grind
    rw [z1, ← ex, ← ey]
    grind
  have r2 : (W * E) * (W * E) * (l * l * (S * S)) = S * S * (l * l * E * E * (W * W)) := by grind
  rw [r1, r2]
  exact k
theorem dot_bd2 {a b c d p q : Int} (hp : 0 ≤ p) (hq : 0 ≤ q) (h1 : a * a + b * b ≤ p * p) (h2 : c * c + d * d ≤ q * q) : -(p * q) ≤ a * c + b * d ∧ a * c + b * d ≤ p * q := by
  have e : (a * c + b * d) * (a * c + b * d) + (a * d - b * c) * (a * d - b * c) = (a * a + b * b) * (c * c + d * d) := by grind
  have n1 := Geo.sq_nonneg (a * d - b * c)
  have n2 := Geo.sq_nonneg a
  have n3 := Geo.sq_nonneg b
  have m1 : (a * a + b * b) * (c * c + d * d) ≤ (a * a + b * b) * (q * q) := Int.mul_le_mul_of_nonneg_left h2 (by omega)
  have m2 : (a * a + b * b) * (q * q) ≤ (p * p) * (q * q) := Int.mul_le_mul_of_nonneg_right h1 (Geo.sq_nonneg q)
  have e2 : (p * p) * (q * q) = (p * q) * (p * q) := by grind
  have hpq := Int.mul_nonneg hp hq
  have k1 : (a * c + b * d) * (a * c + b * d) ≤ (p * q) * (p * q) := by omega
  have k2 : -(a * c + b * d) * -(a * c + b * d) ≤ (p * q) * (p * q) := by
    have : -(a * c + b * d) * -(a * c + b * d) = (a * c + b * d) * (a * c + b * d) := by grind
    omega
  have z1 := Geo.abs_le_of_sq hpq k1
  have z2 := Geo.abs_le_of_sq hpq k2
  omega
/-- moved places of far pieces are not near -/
theorem not_near {X0 Y0 L0 X1 Y1 L1 a0 b0 a1 b1 la ra : Int} (h0 : 0 < L0) (h1 : 0 < L1) (hl : 0 ≤ la) (hr : 0 ≤ ra) (m0 : a0 * a0 + b0 * b0 ≤ ra * ra) (m1 : a1 * a1 + b1 * b1 ≤ ra * ra)
    (far : (la + 2 * ra) * (la + 2 * ra) * ((L0 * L1) * (L0 * L1)) ≤ (X0 * L1 - X1 * L0) * (X0 * L1 - X1 * L0) + (Y0 * L1 - Y1 * L0) * (Y0 * L1 - Y1 * L0)) :
    ¬ ((X0 + a0 * L0) * L1 - (X1 + a1 * L1) * L0) * ((X0 + a0 * L0) * L1 - (X1 + a1 * L1) * L0) + ((Y0 + b0 * L0) * L1 - (Y1 + b1 * L1) * L0) * ((Y0 + b0 * L0) * L1 - (Y1 + b1 * L1) * L0) < la * la * (L0 * L1) * (L0 * L1) := by
  intro near
  have hS := Int.mul_pos h0 h1
  have ex : X0 * L1 - X1 * L0 = ((X0 + a0 * L0) * L1 - (X1 + a1 * L1) * L0) - (L0 * L1) * (a0 - a1) := by grind
  have ey : Y0 * L1 - Y1 * L0 = ((Y0 + b0 * L0) * L1 - (Y1 + b1 * L1) * L0) - (L0 * L1) * (b0 - b1) := by grind
  rw [ex, ey] at far
  generalize (X0 + a0 * L0) * L1 - (X1 + a1 * L1) * L0 = x at *
  generalize (Y0 + b0 * L0) * L1 - (Y1 + b1 * L1) * L0 = y at *
  generalize L0 * L1 = S at *
  have d0 := dot_bd2 hr hr m0 m1
  have dd : (a0 - a1) * (a0 - a1) + (b0 - b1) * (b0 - b1) ≤ (2 * ra) * (2 * ra) := by
    have e : (a0 - a1) * (a0 - a1) + (b0 - b1) * (b0 - b1) = (a0 * a0 + b0 * b0) + (a1 * a1 + b1 * b1) - 2 * (a0 * a1 + b0 * b1) := by grind
    have e2 : (2 * ra) * (2 * ra) = 4 * (ra * ra) := by grind
    omega
  generalize a0 - a1 = c at *
  generalize b0 - b1 = d at *
  have hlS := Int.mul_nonneg hl (Int.le_of_lt hS)
  have nv : x * x + y * y ≤ (la * S) * (la * S) := by
    have e : (la * S) * (la * S) = la * la * S * S := by grind
    omega
  have dv := dot_bd2 hlS (by omega : 0 ≤ 2 * ra) nv dd
  have e1 : (x - S * c) * (x - S * c) + (y - S * d) * (y - S * d) = (x * x + y * y) - 2 * (S * (x * c + y * d)) + S * S * (c * c + d * d) := by grind
  have k1 : S * (-(la * S * (2 * ra))) ≤ S * (x * c + y * d) := Int.mul_le_mul_of_nonneg_left dv.1 (Int.le_of_lt hS)
  have k2 : S * S * (c * c + d * d) ≤ S * S * ((2 * ra) * (2 * ra)) := Int.mul_le_mul_of_nonneg_left dd (Geo.sq_nonneg S)
  have e2 : (la + 2 * ra) * (la + 2 * ra) * (S * S) = la * la * S * S - 2 * (S * (-(la * S * (2 * ra)))) + S * S * ((2 * ra) * (2 * ra)) := by grind
  omega
theorem heights_apart {ve ba b2 b3 o2 o3 v0 v1 h0 h1 : Int} (ha : aboveP ve ba b2 b3 o2 o3) (x1 : b2 ≤ v0) (x2 : v0 ≤ b3) (y1 : o2 ≤ v1) (y2 : v1 ≤ o3) (z1 : v0 - ba ≤ h0) (z2 : h0 ≤ v0 + ba) (w1 : v1 - ba ≤ h1) (w2 : h1 ≤ v1 + ba) :
    ¬ (if h0 - h1 < 0 then -(h0 - h1) else h0 - h1) < ve := by
  unfold aboveP at ha
  split <;> omega
end K16
set_option maxHeartbeats 4000000
namespace K16
open PySem PySem.Spec PyProof.Rows L2
open GxR (TabG Tabbed)
open Geo (Pt)
/-- a class whose making keeps its promise -/
def OkMk (P : Program) (w : World) (K : PySem.W.Frag) (mg : Str → Option Value) (base : Heap) (j : Nat) (C : Addr) (ps : List Str) (sp : Sp) : Prop :=
  ∃ (f : Addr) (fd : FuncData), FnOk P w K mg base CX0 j f fd ps sp ∧ Mk K C f ∧ Binds K fd ps []
theorem pe_makeP {X : Cx} {j k : Nat} {x : Str} {ps : List Str} {sp : Sp} {p pos : Pos} {e : Expr} {es : List Expr} {t : TA} {C : Addr} (O : OkMk X.prog X.w X.K X.mg X.base j C ps sp) (hm : X.mg x = some (.ref C)) (hr : Room (k + 1) X.A) (hg : Gl X x)
    (ha : PA X (e :: es) t) (hk : j ≤ k := by decide) (hdb : (x == ("__debug__" : Str)) = false := by decide) (he : starEach (e :: es) X.env = (false, eval e X.env) :: starEach es X.env := by rfl) (hpl : (backTo pos (starEach es X.env)).any (·.1) = false := by rfl) :
    PE X (.Call (.Name x p) (e :: es) [] pos) (tMake C sp [] E0 t) := by
  obtain ⟨f, fd, F, M, b⟩ := O
  exact pe_make M F (hr.mono (Nat.succ_le_succ hk)) hg hm b .nil pass0 ha hdb he hpl
theorem Chain.uniq {pts : List Pt} {bg bg' : List Int} (h : Chain pts bg) (h' : Chain pts bg') : bg = bg' := by
  have k : ∀ i, i < pts.length → gB bg i = gB bg' i := by
    intro i
    induction i with
    | zero => intro _; rw [h.b0, h'.b0]
    | succ n ih =>
      intro hn
      rw [h.st n hn, h'.st n hn, ih (by omega)]
  refine List.ext_getElem (by rw [h.nb, h'.nb]) fun i h1 h2 => ?_
  have z := k i (by rw [← h.nb]; exact h1)
  unfold gB at z
  rw [List.getD_eq_getElem?_getD, List.getD_eq_getElem?_getD, List.getElem?_eq_getElem h1, List.getElem?_eq_getElem h2] at z
  exact z
def ptsOf (c : Ch) (rt : List Str) : List Pt := rt.map fun n => (c.fx n).getD (0, 0)
theorem rt_ok {H : Hp} {sd : Addr} {c : Ch} {rt : List Str} (h : ChOk H sd c) (G : RtLg c rt) (n2 : 2 ≤ rt.length) : RtOk c rt (ptsOf c rt) ∧ ∀ i, PtOk (gP (ptsOf c rt) i) := by
  have nm : ∀ i (hi : i < rt.length), ∃ p, c.fx rt[i] = some p := fun i hi => by
    by_cases z : i + 1 < rt.length
    · exact (h.ends _ _ (G i rt[i] rt[i + 1] (List.getElem?_eq_getElem hi) (List.getElem?_eq_getElem z))).1
    · have e : i - 1 + 1 = i := by omega
      exact (h.ends _ _ (G (i - 1) rt[i - 1] rt[i] (List.getElem?_eq_getElem (by omega)) (by rw [e]; exact List.getElem?_eq_getElem hi))).2
  have gp : ∀ i (hi : i < rt.length) p, c.fx rt[i] = some p → gP (ptsOf c rt) i = p := fun i hi p hp => by
    unfold gP ptsOf
    rw [List.getD_eq_getElem?_getD, List.getElem?_map, List.getElem?_eq_getElem hi]
    show (c.fx rt[i]).getD (0, 0) = p
    rw [hp]
    rfl
  refine ⟨⟨(List.length_map ..).symm, fun i hi => ?_⟩, fun i => ?_⟩
  · have hi : i < rt.length := by rw [ptsOf, List.length_map] at hi; exact hi
    obtain ⟨p, hp⟩ := nm i hi
    exact ⟨rt[i], List.getElem?_eq_getElem hi, by rw [gp i hi p hp]; exact hp⟩
  · by_cases hi : i < rt.length
    · obtain ⟨p, hp⟩ := nm i hi
      rw [gp i hi p hp]
      exact (h.fx _ _ hp).1
    · unfold gP ptsOf
      rw [List.getD_eq_getElem?_getD, List.getElem?_eq_none (by rw [List.length_map]; omega)]
      exact ⟨by decide, by decide, by decide, by decide⟩
theorem two_at (f : Nat → V) {i : Nat} (h : i < 2) : atI [f 0, f 1] (i : Int) = some (f i) := by
  match i, h with
  | 0, _ => rfl
  | 1, _ => rfl
/-- a path lives on when another list changes -/
theorem PathAt.updD {K : PySem.W.Frag} {H : Hp} {k D : Addr} {u : Pa} {pts : List Pt} {bg : List Int} {ys zs : List V} (h : PathAt K H k u pts bg) (hD : H D = some (.lst ys)) (n1 : u.ll ≠ D) (n2 : u.pp ≠ D) (n3 : u.bb ≠ D) : PathAt K (upd H D (.lst zs)) k u pts bg :=
  ⟨by rw [upd_ne (fun z => by have := h.ins; rw [z, hD] at this; cases this)]; exact h.ins, by rw [upd_ne n1]; exact h.legs, h.nl, by rw [upd_ne n2]; exact h.poi, h.np, fun i a ha => by
    have := h.at_ i a ha
    rw [upd_ne (fun z => by rw [z, hD] at this; cases this)]
    exact this, by rw [upd_ne n3]; exact h.beg, h.nb, h.n2, h.bd⟩
/-- what follows an if without else -/
theorem if_nx {b : Bool} {t : TS} {D : Ends} {σ : L2.St} {H : Hp} (R : Hp → Prop) (hA : (∀ H', R H' → D.nx σ H') → t D σ H) (hB : R H) (hN : ∀ H', R H' → D.nx σ H') : (if b = true then t D σ H else tNext D σ H) := by
  cases b with
  | true => rw [if_pos rfl]; exact hA hN
  | false => rw [if_neg (by decide)]; exact hN H hB
theorem Chain.tot_le {pts : List Pt} {bg : List Int} (c : Chain pts bg) : tot bg ≤ 10000 := by
  have k : ∀ i, i < pts.length → gB bg i ≤ 497 * i := by
    intro i
    induction i with
    | zero => intro _; rw [c.b0]; omega
    | succ n ih =>
      intro hn
      have := ih (by omega)
      have := (c.len hn).2
      unfold onL at this
      omega
  have n2 := c.n2
  have n8 := c.n8
  have := k (pts.length - 1) (by omega)
  rw [c.tot_eq]
  omega
/-- tuples live on -/
def TP (H H' : Hp) : Prop := ∀ k xs, H k = some (.tup xs) → H' k = some (.tup xs)
theorem TP.ev {ts : List Addr} {sd : Addr} {H H' : Hp} (e : Ev ts sd H H') : TP H H' := fun _ _ h => e.tup h
theorem TP.same {H H' : Hp} (e : Same H H') : TP H H' := fun _ _ h => e _ _ h
theorem TP.lst {H : Hp} {a : Addr} {ys zs : List V} (h : H a = some (.lst ys)) : TP H (upd H a (.lst zs)) := fun k xs hk => by
  rw [upd_ne (fun z => by rw [z, h] at hk; cases hk)]
  exact hk
theorem TP.trans {H H1 H2 : Hp} (a : TP H H1) (b : TP H1 H2) : TP H H2 := fun k xs h => b k xs (a k xs h)
/-- one of the two paths -/
structure Side where
  r : Addr
  rt : List Str
  pts : List Pt
  bg : List Int
  a : Addr
  u : Pa
  b : Addr
structure SideOk (K : PySem.W.Frag) (H : Hp) (c : Ch) (s : Side) : Prop where
  rt_ : H s.r = some (.tup (s.rt.map V.str))
  ro : RtOk c s.rt s.pts
  ch : Chain s.pts s.bg
  path : PathAt K H s.a s.u s.pts s.bg
  bl : H s.b = some (.lst (s.bg.map V.int))
theorem SideOk.ev {K : PySem.W.Frag} {ts : List Addr} {sd : Addr} {H H' : Hp} {c : Ch} {s : Side} (h : SideOk K H c s) (e : Ev ts sd H H') : SideOk K H' c s := ⟨e.tup h.rt_, h.ro, h.ch, h.path.ev e, e.lst h.bl⟩
structure LW (K : PySem.W.Frag) (H : Hp) (sd : Addr) (c : Ch) (p : Addr) (kvs : List (Key × V)) (la ve ra ba : Int) (rl pl bl : Addr) (s : Nat → Side) : Prop where
  st : StOk H sd
  ch : ChOk H sd c
  ru : RuAt H p kvs la ve ra ba
  np : p ≠ sd
  tb : Tb K H
  rls : H rl = some (.lst [.ref (s 0).r, .ref (s 1).r])
  pls : H pl = some (.lst [.ref (s 0).a, .ref (s 1).a])
  bls : H bl = some (.lst [.ref (s 0).b, .ref (s 1).b])
  side : ∀ i, i < 2 → SideOk K H c (s i)
theorem LW.ev {K : PySem.W.Frag} {H H' : Hp} {sd : Addr} {c : Ch} {p : Addr} {kvs : List (Key × V)} {la ve ra ba : Int} {rl pl bl : Addr} {s : Nat → Side} (h : LW K H sd c p kvs la ve ra ba rl pl bl s) (st : StOk H' sd) (e : Ev (tbs K) sd H H') : LW K H' sd c p kvs la ve ra ba rl pl bl s :=
  ⟨st, h.ch.ev e, h.ru.ev h.np e, h.np, h.tb.evs e, e.lst h.rls, e.lst h.pls, e.lst h.bls, fun i hi => (h.side i hi).ev e⟩
/-- a place of a side within a box, moved, and its height -/
structure PlOk (H : Hp) (s : Side) (ra ba b0 b1 b2 b3 : Int) (k : Addr) (h : Int) : Prop where
  ex : ∃ (q : Int) (i : Nat) (mx my v : Int), H k = some (.tup [.int (onX s.pts s.bg i q + mx * onL s.bg i), .int (onY s.pts s.bg i q + my * onL s.bg i), .int (onL s.bg i)]) ∧ i + 1 < s.pts.length ∧ gB s.bg i ≤ q ∧ q < gB s.bg (i + 1) ∧
    b0 ≤ q ∧ 0 ≤ q ∧ q ≤ b1 ∧ q < tot s.bg ∧ mx * mx + my * my ≤ ra * ra ∧ b2 ≤ v ∧ v ≤ b3 ∧ v - ba ≤ h ∧ h ≤ v + ba
theorem PlOk.keep {H H' : Hp} {s : Side} {ra ba b0 b1 b2 b3 : Int} {k : Addr} {h : Int} (x : PlOk H s ra ba b0 b1 b2 b3 k h) (e : ∀ xs, H k = some (.tup xs) → H' k = some (.tup xs)) : PlOk H' s ra ba b0 b1 b2 b3 k h := by
  obtain ⟨q, i, mx, my, v, h1, r⟩ := x.ex
  exact ⟨q, i, mx, my, v, e _ h1, r⟩
abbrev Box4 : Type := Int × Int × Int × Int
abbrev bxT (b : Box4) : List V := bx b.1 b.2.1 b.2.2.1 b.2.2.2
end K16
set_option maxHeartbeats 8000000
namespace K16
open PySem PySem.Spec PyProof.Rows L2
open GxR (TabG Tabbed)
open Geo (Pt)
theorem onL_bd {pts : List Pt} {bg : List Int} (c : Chain pts bg) {i : Nat} (hi : i + 1 < pts.length) {q : Int} (h1 : gB bg i ≤ q) (h2 : q < gB bg (i + 1)) : 0 < onL bg i ∧ onL bg i ≤ 497 := by
  have h := c.len hi
  unfold onL at *
  omega
theorem law_pure {pts0 pts1 : List Pt} {bg0 bg1 : List Int} (c0 : Chain pts0 bg0) (c1 : Chain pts1 bg1) {la ve ra ba b0 b1 b2 b3 o0 o1 o2 o3 : Int} (hl : 0 < la) (hr : 0 ≤ ra)
    (hsep : aboveP ve ba b2 b3 o2 o3 ∨ ∃ ss tt : List Seg5, PieceOk pts0 bg0 b0 b1 ss ∧ PieceOk pts1 bg1 o0 o1 tt ∧ (∀ s ∈ ss, SB s) ∧ (∀ s ∈ tt, SB s) ∧ (ss.any fun s => tt.any fun t => closerB s t (la + 2 * ra)) = false)
    {q0 q1 mx0 my0 mx1 my1 v0 v1 h0 h1 : Int} {i0 i1 : Nat} (k0 : i0 + 1 < pts0.length) (k1 : i1 + 1 < pts1.length) (a1 : gB bg0 i0 ≤ q0) (a2 : q0 < gB bg0 (i0 + 1)) (a3 : b0 ≤ q0) (a4 : 0 ≤ q0) (a5 : q0 ≤ b1)
    (d1 : gB bg1 i1 ≤ q1) (d2 : q1 < gB bg1 (i1 + 1)) (d3 : o0 ≤ q1) (d4 : 0 ≤ q1) (d5 : q1 ≤ o1) (m0 : mx0 * mx0 + my0 * my0 ≤ ra * ra) (m1 : mx1 * mx1 + my1 * my1 ≤ ra * ra)
    (x1 : b2 ≤ v0) (x2 : v0 ≤ b3) (y1 : o2 ≤ v1) (y2 : v1 ≤ o3) (z1 : v0 - ba ≤ h0) (z2 : h0 ≤ v0 + ba) (w1 : v1 - ba ≤ h1) (w2 : h1 ≤ v1 + ba)
    (near : ((onX pts0 bg0 i0 q0 + mx0 * onL bg0 i0) * onL bg1 i1 - (onX pts1 bg1 i1 q1 + mx1 * onL bg1 i1) * onL bg0 i0) * ((onX pts0 bg0 i0 q0 + mx0 * onL bg0 i0) * onL bg1 i1 - (onX pts1 bg1 i1 q1 + mx1 * onL bg1 i1) * onL bg0 i0)
      + ((onY pts0 bg0 i0 q0 + my0 * onL bg0 i0) * onL bg1 i1 - (onY pts1 bg1 i1 q1 + my1 * onL bg1 i1) * onL bg0 i0) * ((onY pts0 bg0 i0 q0 + my0 * onL bg0 i0) * onL bg1 i1 - (onY pts1 bg1 i1 q1 + my1 * onL bg1 i1) * onL bg0 i0)
      < la * la * (onL bg0 i0 * onL bg1 i1) * (onL bg0 i0 * onL bg1 i1)) :
    ¬ (if h0 - h1 < 0 then -(h0 - h1) else h0 - h1) < ve := by
  rcases hsep with ha | ⟨ss, tt, p0, p1, sb0, sb1, hc⟩
  · exact heights_apart ha x1 x2 y1 y2 z1 z2 w1 w2
  · exfalso
    obtain ⟨s, hs, on0⟩ := p0 q0 i0 a3 a4 a5 k0 a1 a2
    obtain ⟨t, ht, on1⟩ := p1 q1 i1 d3 d4 d5 k1 d1 d2
    have hcl : closerB s t (la + 2 * ra) = false := by
      have e := List.any_eq_false.mp hc s hs
      cases z : closerB s t (la + 2 * ra) with
      | false => rfl
      | true => exact absurd (List.any_eq_true.mpr ⟨t, ht, z⟩) e
    have far := far_places (sb0 s hs).d0 (sb1 t ht).d0 hcl on0 on1
    exact not_near (onL_bd c0 k0 a1 a2).1 (onL_bd c1 k1 d1 d2).1 (Int.le_of_lt hl) hr m0 m1 far near
theorem mv_bd {a b r : Int} (hr : 0 ≤ r ∧ r ≤ 4) (h : a * a + b * b ≤ r * r) : -4 ≤ a ∧ a ≤ 4 ∧ -4 ≤ b ∧ b ≤ 4 := by
  have n1 := Geo.sq_nonneg a
  have n2 := Geo.sq_nonneg b
  have hr2 := sq_le (a := r) (m := 4) ⟨by omega, hr.2⟩
  have e1 : -a * -a = a * a := by grind
  have e2 : -b * -b = b * b := by grind
  have k1 := Geo.abs_le_of_sq (x := a) (c := 4) (by decide) (by omega)
  have k2 := Geo.abs_le_of_sq (x := -a) (c := 4) (by decide) (by omega)
  have k3 := Geo.abs_le_of_sq (x := b) (c := 4) (by decide) (by omega)
  have k4 := Geo.abs_le_of_sq (x := -b) (c := 4) (by decide) (by omega)
  omega
theorem diff_bd {X0 X1 L0 L1 a b : Int} (h0 : -524288 ≤ X0 ∧ X0 ≤ 524288) (h1 : -524288 ≤ X1 ∧ X1 ≤ 524288) (l0 : 0 < L0 ∧ L0 ≤ 497) (l1 : 0 < L1 ∧ L1 ≤ 497) (ha : -4 ≤ a ∧ a ≤ 4) (hb : -4 ≤ b ∧ b ≤ 4) :
    -(2 ^ 64) < (X0 + a * L0) * L1 - (X1 + b * L1) * L0 ∧ (X0 + a * L0) * L1 - (X1 + b * L1) * L0 < 2 ^ 64 := by
  have m1 := mul_bd (a := a) (b := L0) (A := 4) (B := 497) ha ⟨by omega, by omega⟩
  have m2 := mul_bd (a := b) (b := L1) (A := 4) (B := 497) hb ⟨by omega, by omega⟩
  have m3 := mul_bd (a := X0 + a * L0) (b := L1) (A := 600000) (B := 497) ⟨by omega, by omega⟩ ⟨by omega, by omega⟩
  have m4 := mul_bd (a := X1 + b * L1) (b := L0) (A := 600000) (B := 497) ⟨by omega, by omega⟩ ⟨by omega, by omega⟩
  omega
def spLaw (K : PySem.W.Frag) : Sp := fun vs H Q _ => ∃ (a : Addr) (ns : List Int), vs = [.ref a] ∧ SqL K H a (ns.map V.int) ∧ ns.length ≤ 1000 ∧ Tb K H ∧ ∀ H', Q (.bl true) H'
section
variable {P : Program} {w : World} {K : PySem.W.Frag} {mg : Str → Option Value} {base : Heap}
theorem sc_law : FnScope ["_law_script", "_law_state", "_law_chart_here", "_law_lengths_here", "_law_rules_here", "_law_routes", "_law_paths", "_law_begins_here", "_law_k", "_law_start_here", "_law_boxes", "_law_places", "_law_heights", "_law_j", "_law_route", "_law_progress", "_law_scale", "_law_x", "_law_y", "_law_near", "_law_leg_here", "_law_place", "_law_move", "_law_level"] ["_law_script"] (defScope s_law) := ⟨rfl, rfl, rfl, by decide +kernel, rfl, by decide +kernel, by decide +kernel⟩
theorem ok_law {fd : FuncData} (T : Tx K mg) (F : Fn K "law" "law" s_law (He.ga K "law") fd) (O_l_start : OkF P w K mg base 1 "_law_start" ["_law_script"] (spStart K)) (O_l_small_chart : OkF P w K mg base 5 "_law_small_chart" ["_law_state"] (spSmall K))
    (O_l_lengths : OkF P w K mg base 2 "_law_lengths" ["_law_chart_here"] (spLengths K)) (O_l_rules : OkF P w K mg base 3 "_law_rules" ["_law_state"] (spRules K)) (O_l_walk : OkF P w K mg base 3 "_law_walk" ["_law_state", "_law_chart_here", "_law_most"] (spWalk K))
    (O_l_draw : OkF P w K mg base 1 "_law_draw" ["_law_state", "_law_bound"] (spDraw K)) (O_init : OkMk P w K mg base 3 (He.ga K "Path") ["self", "chart", "route"] (spInit K)) (O_l_begins : OkF P w K mg base 1 "_law_begins" ["_law_lengths_here", "_law_route"] (spBegins K))
    (O_l_pick : OkF P w K mg base 2 "_law_pick" ["_law_state", "_law_things"] (spPick K)) (O_l_box : OkF P w K mg base 3 "_law_box" ["_law_state", "_law_begins_here", "_law_low"] (spBox K)) (O_l_in_box : OkF P w K mg base 3 "_law_in_box" ["_law_state", "_law_begins_here", "_law_box_here"] (spInBox K))
    (O_l_leg_at : OkF P w K mg base 1 "_law_leg_at" ["_law_begins_here", "_law_progress"] spLLegAt) (O_l_place_on : OkF P w K mg base 1 "_law_place_on" ["_law_chart_here", "_law_route", "_law_begins_here", "_law_k", "_law_progress"] (spLPlace K))
    (O_l_vector : OkF P w K mg base 3 "_law_vector" ["_law_state", "_law_radius"] (spVec K)) (O_separated : OkF P w K mg base 7 "separated" ["rules", "path", "box", "other_path", "other_box"] (spSep K)) : FnOk P w K mg base CX0 8 (He.ga K "law") fd ["_law_script"] (spLaw K) := by
  refine okD F sc_law (fun vs H Q E h => ?_) (fun cdv A outer s H vs Q E hr h => ?_)
  · obtain ⟨_, _, rfl, _⟩ := h
    rfl
  · obtain ⟨a, ns, rfl, hl, hlen, tb, q⟩ := h
    have hu := hu_of hr
    refine ⟨_, (pss_cons (ps_set (i := 1) sc_law.nd rfl (Or.inl rfl) (pe_fn O_l_start hr rfl (pa_cons (pv 0) pa_nil)))
  (pss_cons (ps_set (i := 2) sc_law.nd rfl (Or.inr rfl) (pe_fn O_l_small_chart hr rfl (pa_cons (pv 1) pa_nil)))
  (pss_cons (ps_set (i := 3) sc_law.nd rfl (Or.inr rfl) (pe_fn O_l_lengths hr rfl (pa_cons (pv 2) pa_nil)))
  (pss_cons (ps_set (i := 4) sc_law.nd rfl (Or.inl rfl) (pe_fn O_l_rules hr rfl (pa_cons (pv 1) pa_nil)))
  (pss_cons (ps_set (i := 5) sc_law.nd rfl (Or.inl rfl) (pe_lst (pa_cons (pe_fn O_l_walk hr rfl (pa_cons (pv 1) (pa_cons (pv 2) (pa_cons pe_int pa_nil)))) (pa_cons (pe_fn O_l_walk hr rfl (pa_cons (pv 1) (pa_cons (pv 2) (pa_cons pe_int pa_nil)))) pa_nil))))
  (pss_cons (ps_if (pt_cmpR op_eq (pe_fn O_l_draw hr rfl (pa_cons (pv 1) (pa_cons pe_int pa_nil))) pe_int (nomark _)) (pss_one (ps_asg (pe_ix ix_list (pv 5) pe_int (fun _ _ => rfl)) (pg_sub (pv 5) pe_int set_list))) pss_nil)
  (pss_cons (ps_setLc (i := 6) (own := [("_law_route", 14)]) (g := gName 14) (tt := tYes) rfl sc_law.nd rfl rfl (sw_true rfl rfl rfl (by decide +kernel)) (pi_list (pv 5)) (blkOk_by (own := [("_law_route", 14)]) (N := ["_law_script", "_law_state", "_law_chart_here", "_law_lengths_here", "_law_rules_here", "_law_routes", "_law_paths", "_law_begins_here", "_law_k", "_law_start_here", "_law_boxes", "_law_places", "_law_heights", "_law_j", "_law_route", "_law_progress", "_law_scale", "_law_x", "_law_y", "_law_near", "_law_leg_here", "_law_place", "_law_move", "_law_level"]) (sc := defScope s_law) (by decide +kernel)) (fun _ _ _ _ _ => (pg_name (i := 14) sc_law.nd rfl (Or.inl rfl))) (fun _ _ _ _ _ => pts_nil) (fun _ _ _ _ _ => (pe_makeP O_init T.g_Path hr rfl (pa_cons (pv 2) (pa_cons (pv 14) pa_nil)))))
  (pss_cons (ps_setLc (i := 7) (own := [("_law_route", 14)]) (g := gName 14) (tt := tYes) rfl sc_law.nd rfl rfl (sw_true rfl rfl rfl (by decide +kernel)) (pi_list (pv 5)) (blkOk_by (own := [("_law_route", 14)]) (N := ["_law_script", "_law_state", "_law_chart_here", "_law_lengths_here", "_law_rules_here", "_law_routes", "_law_paths", "_law_begins_here", "_law_k", "_law_start_here", "_law_boxes", "_law_places", "_law_heights", "_law_j", "_law_route", "_law_progress", "_law_scale", "_law_x", "_law_y", "_law_near", "_law_leg_here", "_law_place", "_law_move", "_law_level"]) (sc := defScope s_law) (by decide +kernel)) (fun _ _ _ _ _ => (pg_name (i := 14) sc_law.nd rfl (Or.inl rfl))) (fun _ _ _ _ _ => pts_nil) (fun _ _ _ _ _ => (pe_fn O_l_begins hr rfl (pa_cons (pv 3) (pa_cons (pv 14) pa_nil)))))
  (pss_cons (ps_for PassesOwn.never rfl (pi_range1 rfl T.range (pa_cons pe_int pa_nil)) (pg_name (i := 8) sc_law.nd rfl (Or.inl rfl)) (pss_cons (ps_set (i := 9) sc_law.nd rfl (Or.inl rfl) (pe_fn O_l_pick hr rfl (pa_cons (pv 1) (pa_cons (pe_ix ix_list (pv 7) pe_int (fun _ _ => rfl)) pa_nil))))
  (pss_cons (ps_set (i := 10) sc_law.nd rfl (Or.inl rfl) (pe_lst (pa_cons (pe_fn O_l_box hr rfl (pa_cons (pv 1) (pa_cons (pe_ix ix_list (pv 7) pe_int (fun _ _ => rfl)) (pa_cons (pv 9) pa_nil)))) (pa_cons (pe_fn O_l_box hr rfl (pa_cons (pv 1) (pa_cons (pe_ix ix_list (pv 7) pe_int (fun _ _ => rfl)) (pa_cons (pe_fn O_l_pick hr rfl (pa_cons (pv 1) (pa_cons (pe_op op_cat (pe_ix ix_list (pv 7) pe_int (fun _ _ => rfl)) (pe_lst (pa_cons (pv 9) pa_nil))) pa_nil))) pa_nil)))) pa_nil))))
  (pss_cons (ps_set (i := 11) sc_law.nd rfl (Or.inl rfl) (pe_lst pa_nil))
  (pss_cons (ps_set (i := 12) sc_law.nd rfl (Or.inl rfl) (pe_lst pa_nil))
  (pss_cons (ps_for PassesOwn.never rfl (pi_range1 rfl T.range (pa_cons pe_int pa_nil)) (pg_name (i := 13) sc_law.nd rfl (Or.inl rfl)) (pss_cons (ps_set (i := 15) sc_law.nd rfl (Or.inl rfl) (pe_fn O_l_in_box hr rfl (pa_cons (pv 1) (pa_cons (pe_ix ix_list (pv 7) (pv 13) (fun _ _ => rfl)) (pa_cons (pe_ix ix_list (pv 10) (pv 13) (fun _ _ => rfl)) pa_nil)))))
  (pss_one (ps_if (pt_cmpR op_notN (pv 15) pe_non (nomark _)) (pss_cons (ps_set (i := 20) sc_law.nd rfl (Or.inl rfl) (pe_fn O_l_leg_at hr rfl (pa_cons (pe_ix ix_list (pv 7) (pv 13) (fun _ _ => rfl)) (pa_cons (pv 15) pa_nil))))
  (pss_cons (ps_set (i := 21) sc_law.nd rfl (Or.inl rfl) (pe_fn O_l_place_on hr rfl (pa_cons (pv 2) (pa_cons (pe_ix ix_list (pv 5) (pv 13) (fun _ _ => rfl)) (pa_cons (pe_ix ix_list (pv 7) (pv 13) (fun _ _ => rfl)) (pa_cons (pv 20) (pa_cons (pv 15) pa_nil)))))))
  (pss_cons (ps_set (i := 22) sc_law.nd rfl (Or.inl rfl) (pe_fn O_l_vector hr rfl (pa_cons (pv 1) (pa_cons (pe_dget hu (pv 4) pe_str (fun _ _ => rfl)) pa_nil))))
  (pss_cons (ps_expr (pe_bm PySem.F.plainAttrs_list PySem.F.slot_list_append PySem.F.type_list_append mt_append (pv 11) (pa_cons (pe_tup (pa_cons (pe_op op_add (pe_ix ix_tup (pv 21) pe_int (fun _ _ => rfl)) (pe_op op_mul (pe_ix ix_tup (pv 22) pe_int (fun _ _ => rfl)) (pe_ix ix_tup (pv 21) pe_int (fun _ _ => rfl)))) (pa_cons (pe_op op_add (pe_ix ix_tup (pv 21) pe_int (fun _ _ => rfl)) (pe_op op_mul (pe_ix ix_tup (pv 22) pe_int (fun _ _ => rfl)) (pe_ix ix_tup (pv 21) pe_int (fun _ _ => rfl)))) (pa_cons (pe_ix ix_tup (pv 21) pe_int (fun _ _ => rfl)) pa_nil)))) pa_nil)))
  (pss_cons (ps_set (i := 23) sc_law.nd rfl (Or.inl rfl) (pe_op op_add (pe_ix ix_tup (pe_ix ix_list (pv 10) (pv 13) (fun _ _ => rfl)) pe_int (fun _ _ => rfl)) (pe_fn O_l_draw hr rfl (pa_cons (pv 1) (pa_cons (pe_op op_add (pe_op op_sub (pe_ix ix_tup (pe_ix ix_list (pv 10) (pv 13) (fun _ _ => rfl)) pe_int (fun _ _ => rfl)) (pe_ix ix_tup (pe_ix ix_list (pv 10) (pv 13) (fun _ _ => rfl)) pe_int (fun _ _ => rfl))) pe_int) pa_nil)))))
  (pss_one (ps_expr (pe_bm PySem.F.plainAttrs_list PySem.F.slot_list_append PySem.F.type_list_append mt_append (pv 12) (pa_cons (pe_op op_sub (pe_op op_add (pv 23) (pe_fn O_l_draw hr rfl (pa_cons (pv 1) (pa_cons (pe_op op_add (pe_op op_mul pe_int (pe_dget hu (pv 4) pe_str (fun _ _ => rfl))) pe_int) pa_nil)))) (pe_dget hu (pv 4) pe_str (fun _ _ => rfl))) pa_nil))))))))) pss_nil))))
  (pss_one (ps_if (PW.pt (pw_and (pt_cmpR op_eq (pe_callB call_len_seq (by rfl) T.len (by decide +kernel) (pa_cons (pv 11) pa_nil)) pe_int (nomark _)) (pw_and1 (pt_val (pe_fn O_separated hr rfl (pa_cons (pv 4) (pa_cons (pe_ix ix_list (pv 6) pe_int (fun _ _ => rfl)) (pa_cons (pe_ix ix_list (pv 10) pe_int (fun _ _ => rfl)) (pa_cons (pe_ix ix_list (pv 6) pe_int (fun _ _ => rfl)) (pa_cons (pe_ix ix_list (pv 10) pe_int (fun _ _ => rfl)) pa_nil)))))))))) (pss_cons (ps_set (i := 16) sc_law.nd rfl (Or.inl rfl) (pe_op op_mul (pe_ix ix_tup (pe_ix ix_list (pv 11) pe_int (fun _ _ => rfl)) pe_int (fun _ _ => rfl)) (pe_ix ix_tup (pe_ix ix_list (pv 11) pe_int (fun _ _ => rfl)) pe_int (fun _ _ => rfl))))
  (pss_cons (ps_set (i := 17) sc_law.nd rfl (Or.inl rfl) (pe_op op_sub (pe_op op_mul (pe_ix ix_tup (pe_ix ix_list (pv 11) pe_int (fun _ _ => rfl)) pe_int (fun _ _ => rfl)) (pe_ix ix_tup (pe_ix ix_list (pv 11) pe_int (fun _ _ => rfl)) pe_int (fun _ _ => rfl))) (pe_op op_mul (pe_ix ix_tup (pe_ix ix_list (pv 11) pe_int (fun _ _ => rfl)) pe_int (fun _ _ => rfl)) (pe_ix ix_tup (pe_ix ix_list (pv 11) pe_int (fun _ _ => rfl)) pe_int (fun _ _ => rfl)))))
  (pss_cons (ps_set (i := 18) sc_law.nd rfl (Or.inl rfl) (pe_op op_sub (pe_op op_mul (pe_ix ix_tup (pe_ix ix_list (pv 11) pe_int (fun _ _ => rfl)) pe_int (fun _ _ => rfl)) (pe_ix ix_tup (pe_ix ix_list (pv 11) pe_int (fun _ _ => rfl)) pe_int (fun _ _ => rfl))) (pe_op op_mul (pe_ix ix_tup (pe_ix ix_list (pv 11) pe_int (fun _ _ => rfl)) pe_int (fun _ _ => rfl)) (pe_ix ix_tup (pe_ix ix_list (pv 11) pe_int (fun _ _ => rfl)) pe_int (fun _ _ => rfl)))))
  (pss_cons (ps_set (i := 19) sc_law.nd rfl (Or.inl rfl) (pe_cmpR op_lt (pe_op op_add (pe_op op_mul (pv 17) (pv 17)) (pe_op op_mul (pv 18) (pv 18))) (pe_op op_mul (pe_op op_mul (pe_op op_mul (pe_dget hu (pv 4) pe_str (fun _ _ => rfl)) (pe_dget hu (pv 4) pe_str (fun _ _ => rfl))) (pv 16)) (pv 16)) (nomark _)))
  (pss_one (ps_if (PW.pt (pw_and (pt_val (pv 19)) (pw_and1 (pt_cmpR op_lt (pe_callB call_abs (by rfl) T.abs (by decide +kernel) (pa_cons (pe_op op_sub (pe_ix ix_list (pv 12) pe_int (fun _ _ => rfl)) (pe_ix ix_list (pv 12) pe_int (fun _ _ => rfl))) pa_nil)) (pe_dget hu (pv 4) pe_str (fun _ _ => rfl)) (nomark _))))) (pss_one (ps_ret pe_bl)) pss_nil)))))) pss_nil))))))))
  (pss_one (ps_ret pe_bl))))))))))), ?_⟩
    refine ⟨_, rfl, a, ns, rfl, hl, hlen, fun H1 sd s1 st1 hsd => ?_⟩
    have tb1 : Tb K H1 := tb.ev (EvT.of s1)
    refine ⟨_, rfl, sd, rfl, st1, fun H2 c st2 e2 hC hlg => ?_⟩
    refine ⟨_, rfl, sd, c, rfl, hC, fun H3 ld lkv s3 hLen => ?_⟩
    have st3 := st2.same s3
    have hC3 := hC.same s3
    refine ⟨_, rfl, sd, rfl, st3, fun H4 p kvs la ve ra ba st4 e4 hR np hp0 l1 l2 v1 v2 r1 r2 b1 b2 => ?_⟩
    have hC4 := hC3.ev e4
    have hLen4 := hLen.ev e4
    refine ⟨_, rfl, _, rfl, sd, c, 4, rfl, st4, hC4, hlg, by decide, by decide, fun H5 ra0 rt0 st5 e5 hr0 n02 n08 G0 => ?_⟩
    refine ⟨_, rfl, _, rfl, sd, c, 4, rfl, st5, hC4.ev e5, hlg, by decide, by decide, fun H6 ra1 rt1 st6 e6 hr1 n12 n18 G1 => ⟨by show 2 ≤ sizeLine; decide, fun rl hrl => ?_⟩⟩
    have ev46 : Ev (tbs K) sd H4 H6 := e5.trans e6
    have hrl4 : H4 rl = none := ev46.free _ hrl
    have s7 := same_upd (o := .lst [.ref ra0, .ref ra1]) hrl
    have st7 := st6.same s7
    have ev47 : Ev (tbs K) sd H4 (upd H6 rl (.lst [.ref ra0, .ref ra1])) := ev46.trans (Ev.of s7)
    have hr07 := s7 _ _ (e6.tup hr0)
    have hr17 := s7 _ _ hr1
    have hrl7 : (upd H6 rl (.lst [.ref ra0, .ref ra1])) rl = some (.lst [.ref ra0, .ref ra1]) := upd_same
    generalize upd H6 rl (.lst [.ref ra0, .ref ra1]) = H7 at st7 ev47 hr07 hr17 hrl7 ⊢
    refine ⟨_, rfl, sd, 3, rfl, st7, by decide, by decide, fun H8 r8 st8 e8 _ _ => ⟨rfl, _, rfl, ?_⟩⟩
    have ev48 := ev47.trans e8
    refine if_nx (fun H9 => ∃ (r : Nat → Addr) (rt : Nat → List Str), StOk H9 sd ∧ Ev (tbs K) sd H4 H9 ∧ H9 rl = some (.lst [.ref (r 0), .ref (r 1)]) ∧ ∀ i, i < 2 → H9 (r i) = some (.tup ((rt i).map V.str)) ∧ RtLg c (rt i) ∧ 2 ≤ (rt i).length ∧ (rt i).length ≤ 8)
      (fun hN => ?_) ⟨fun i => if i = 0 then ra0 else ra1, fun i => if i = 0 then rt0 else rt1, st8, ev48, e8.lst hrl7, fun i hi => ?_⟩ fun H9 hR9 => ?_
    · refine ⟨_, rfl, _, _, 0, _, rfl, rfl, SqL.of (e8.lst hrl7), rfl, _, rfl, rl, _, 1, 1, rfl, rfl, e8.lst hrl7, rfl, ?_⟩
      refine hN _ ⟨fun _ => ra0, fun _ => rt0, st4.upd ev48 st8 hrl4, ev48.upd_new hrl4, upd_same, fun i hi => ⟨?_, G0, n02, n08⟩⟩
      have z := e8.tup hr07
      have nr : ra0 ≠ rl := fun y => by rw [y, e8.lst hrl7] at z; cases z
      show (upd H8 rl _) ra0 = _
      rw [upd_ne nr]
      exact z
    · match i, hi with
      | 0, _ => exact ⟨e8.tup hr07, G0, n02, n08⟩
      | 1, _ => exact ⟨e8.tup hr17, G1, n12, n18⟩
    · obtain ⟨r, rt, st9, ev9, hrl9, hrt⟩ := hR9
      have hC9 := hC4.ev ev9
      have hLen9 := hLen4.ev ev9
      -- the paths
      refine ⟨_, rfl, rl, rfl, ⟨_, SqL.of hrl9⟩, fun D hD => lc_list (xs := [.ref (r 0), .ref (r 1)]) (fun i H' => Same H9 H' ∧ ∃ as : List Addr, H' D = some (.lst (as.map V.ref)) ∧ as.length = i ∧ ∀ j k, as[j]? = some k → ∃ u bg, PathAt K H' k u (ptsOf c (rt j)) bg ∧ Chain (ptsOf c (rt j)) bg ∧ u.ll ≠ D ∧ u.pp ≠ D ∧ u.bb ≠ D)
        ⟨same_upd hD, [], upd_same, rfl, fun j k hk => (by cases hk)⟩ (fun i H' _ hP => SqL.of (hP.1 _ _ hrl9)) (fun i x H10 hx hP => ?_) (fun H10 hP => ?_)⟩
      · obtain ⟨s10, as, has, hn, hall⟩ := hP
        obtain ⟨hi, rfl⟩ : i < 2 ∧ x = .ref (r i) := by
          match i, hx with
          | 0, hx => exact ⟨by decide, (Option.some.inj hx).symm⟩
          | 1, hx => exact ⟨by decide, (Option.some.inj hx).symm⟩
          | n + 2, hx => cases hx
        obtain ⟨g1, g2, g3, g4⟩ := hrt i hi
        obtain ⟨hro, hpb⟩ := rt_ok hC9 g2 g3
        refine ⟨rfl, _, rfl, _, rfl, fun xa dx hxa hdx hne => ?_⟩
        have hxa2 : (upd H10 dx (.own xa)) xa = none := by rw [upd_ne hne.symm]; exact hxa
        have s11 : Same H10 (upd (upd H10 dx (.own xa)) xa (.ins (He.ga K "Path") dx [])) := fun b o e => same_upd hxa2 b o (same_upd hdx b o e)
        have s911 : Same H9 (upd (upd H10 dx (.own xa)) xa (.ins (He.ga K "Path") dx [])) := fun b o e => s11 b o (s10 b o e)
        refine ⟨xa, dx, sd, r i, c, rt i, ptsOf c (rt i), rfl, upd_same, hC9.same s911, s911 _ _ g1, hro, g3, g4, hpb, fun H12 u bg hk hP hCh f1 f2 f3 => ⟨rfl, ?_⟩⟩
        have s12 : Same H10 H12 := fun b o e => hk b o (s11 b o e) (fun z => by rw [z, hxa] at e; cases e)
        have hD12 := s12 _ _ has
        have hDG := s11 _ _ has
        have m1 : u.ll ≠ D := fun z => by rw [z, hDG] at f1; cases f1
        have m2 : u.pp ≠ D := fun z => by rw [z, hDG] at f2; cases f2
        have m3 : u.bb ≠ D := fun z => by rw [z, hDG] at f3; cases f3
        refine ⟨_, hD12, by rw [List.length_map]; exact small1000 (by omega), same_upd_new (fun b o e => s12 b o (s10 b o e)) hD, as ++ [xa], by rw [upd_same, List.map_append]; rfl, by rw [List.length_append, hn]; rfl, fun j k hk2 => ?_⟩
        by_cases hj : j < as.length
        · rw [List.getElem?_append_left hj] at hk2
          obtain ⟨u', bg', q1, q2, q3, q4, q5⟩ := hall j k hk2
          exact ⟨u', bg', (q1.same s12).updD hD12 q3 q4 q5, q2, q3, q4, q5⟩
        · rw [List.getElem?_append_right (by omega)] at hk2
          have e0 : j - as.length = 0 := by
            have := (List.getElem?_eq_some_iff.mp hk2).1
            have z : ([xa] : List Addr).length = 1 := rfl
            omega
          rw [e0] at hk2
          cases hk2
          rw [show j = i by omega]
          exact ⟨u, bg, hP.updD hD12 m1 m2 m3, hCh, m1, m2, m3⟩
      · obtain ⟨s10, as, has, hn, hall⟩ := hP
        have hrl10 := s10 _ _ hrl9
        have hC10 := hC9.same s10
        -- the begins
        refine ⟨_, rfl, rl, rfl, ⟨_, SqL.of hrl10⟩, fun D2 hD2 => lc_list (xs := [.ref (r 0), .ref (r 1)]) (fun i H' => Same H10 H' ∧ ∃ bs : List Addr, H' D2 = some (.lst (bs.map V.ref)) ∧ bs.length = i ∧ ∀ j k, bs[j]? = some k → ∃ bg, H' k = some (.lst (bg.map V.int)) ∧ Chain (ptsOf c (rt j)) bg)
          ⟨same_upd hD2, [], upd_same, rfl, fun j k hk => (by cases hk)⟩ (fun i H' _ hP => SqL.of (hP.1 _ _ hrl10)) (fun i x H11 hx hP => ?_) (fun H11 hP => ?_)⟩
        · obtain ⟨s11, bs, hbs, hbn, hall2⟩ := hP
          obtain ⟨hi, rfl⟩ : i < 2 ∧ x = .ref (r i) := by
            match i, hx with
            | 0, hx => exact ⟨by decide, (Option.some.inj hx).symm⟩
            | 1, hx => exact ⟨by decide, (Option.some.inj hx).symm⟩
            | n + 2, hx => cases hx
          obtain ⟨g1, g2, g3, g4⟩ := hrt i hi
          obtain ⟨hro, hpb⟩ := rt_ok hC9 g2 g3
          have s911 : Same H9 H11 := fun b o e => s11 b o (s10 b o e)
          refine ⟨rfl, _, rfl, _, rfl, ld, r i, c, lkv, rt i, ptsOf c (rt i), rfl, hLen9.ev (Ev.of (ts := tbs K) (sd := sd) s911), s911 _ _ g1, hro, g2, g3, g4, hpb, fun H12 b bg s12 hb hCh => ?_⟩
          have hD12 := s12 _ _ hbs
          have nb : ∀ (k : Addr) (bg : List Int), H12 k = some (.lst (bg.map V.int)) → Chain (ptsOf c (rt i)) bg ∨ 2 ≤ bg.length → k ≠ D2 := fun k bg hk hc z => by
            rw [z, hD12] at hk
            have e := HO.lst.inj (Option.some.inj hk)
            have hl : 2 ≤ bg.length := hc.elim (fun h => by have := h.nb; have := h.n2; omega) id
            match bs, bg, e, hl with
            | [], [], _, hl => exact absurd hl (by decide)
            | [], _ :: _, e, _ => cases e
            | _ :: _, [], e, _ => cases e
            | _ :: _, _ :: _, e, _ => cases e
          refine ⟨_, hD12, by rw [List.length_map]; exact small1000 (by omega), same_upd_new (fun b o e => s12 b o (s11 b o e)) hD2, bs ++ [b], by rw [upd_same, List.map_append]; rfl, by rw [List.length_append, hbn]; rfl, fun j k hk2 => ?_⟩
          by_cases hj : j < bs.length
          · rw [List.getElem?_append_left hj] at hk2
            obtain ⟨bg', q1, q2⟩ := hall2 j k hk2
            have q3 := s12 _ _ q1
            exact ⟨bg', by rw [upd_ne (nb k bg' q3 (.inr (by have := q2.nb; have := q2.n2; omega)))]; exact q3, q2⟩
          · rw [List.getElem?_append_right (by omega)] at hk2
            have e0 : j - bs.length = 0 := by
              have := (List.getElem?_eq_some_iff.mp hk2).1
              have z : ([b] : List Addr).length = 1 := rfl
              omega
            rw [e0] at hk2
            cases hk2
            rw [show j = i by omega]
            exact ⟨bg, by rw [upd_ne (nb b bg hb (.inl hCh))]; exact hb, hCh⟩
        · obtain ⟨s11, bs, hbs, hbn, hall2⟩ := hP
          have s911 : Same H9 H11 := fun b o e => s11 b o (s10 b o e)
          have ev911 : Ev (tbs K) sd H4 H11 := ev9.trans (Ev.of s911)
          obtain ⟨S, W⟩ : ∃ S : Nat → Side, LW K H11 sd c p kvs la ve ra ba rl D D2 S := by
            match as, hn, bs, hbn with
            | [a0, a1], _, [b0, b1], _ =>
              obtain ⟨u0, bg0, P0, C0, _⟩ := hall 0 a0 rfl
              obtain ⟨u1, bg1, P1, C1, _⟩ := hall 1 a1 rfl
              obtain ⟨bg0', hb0, C0'⟩ := hall2 0 b0 rfl
              obtain ⟨bg1', hb1, C1'⟩ := hall2 1 b1 rfl
              obtain rfl := C0'.uniq C0
              obtain rfl := C1'.uniq C1
              have t0 := hrt 0 (by decide)
              have t1 := hrt 1 (by decide)
              refine ⟨fun i => if i = 0 then ⟨r 0, rt 0, ptsOf c (rt 0), bg0', a0, u0, b0⟩ else ⟨r 1, rt 1, ptsOf c (rt 1), bg1', a1, u1, b1⟩, ⟨(st9.same s10).same s11, (hC9.same s10).same s11, hR.ev np ev911, np, (((tb1.evs e2).ev (EvT.of s3)).evs e4).evs ev911, s11 _ _ hrl10, s11 _ _ has, hbs, fun i hi => ?_⟩⟩
              match i, hi with
              | 0, _ => exact ⟨s911 _ _ t0.1, (rt_ok hC9 t0.2.1 t0.2.2.1).1, C0, P0.same s11, hb0⟩
              | 1, _ => exact ⟨s911 _ _ t1.1, (rt_ok hC9 t1.2.1 t1.2.2.1).1, C1, P1.same s11, hb1⟩
          obtain ⟨ran, rfl⟩ : ∃ n : Nat, ra = n := ⟨ra.toNat, (Int.toNat_of_nonneg r1).symm⟩
          clear hall hall2 hrt hC9 hLen9 hbs has hrl9 hrl10 st9 ev9 ev911 s911 s10 s11 hr07 hr17 ev47 ev48 hrl7 st7 st8 e8 hLen4 hC4 hR
          refine ⟨6, rfl, by decide, by decide, for_range (n := 6) (fun i σ H' => (∃ x8 x9 x10 x11 x12 x13 x14 x15 x16 x17 x18 x19 x20 x21 x22 x23 : Option V, σ = [some (.ref a), some (.ref sd), some (.ref c.ca), some (.ref ld), some (.ref p), some (.ref rl), some (.ref D), some (.ref D2), x8, x9, x10, x11, x12, x13, x14, x15, x16, x17, x18, x19, x20, x21, x22, x23]) ∧ LW K H' sd c p kvs la ve ran ba rl D D2 S) ⟨⟨_, _, _, _, _, _, _, _, _, _, _, _, _, _, _, _, rfl⟩, W⟩ (fun i σ H12 hi hP => ?_) (fun σ H12 hP => q H12)⟩
          clear W
          obtain ⟨⟨x8, x9, x10, x11, x12, x13, x14, x15, x16, x17, x18, x19, x20, x21, x22, x23, rfl⟩, W⟩ := hP
          have k0 := W.side 0 (by decide)
          have k1 := W.side 1 (by decide)
          have nb0 := k0.ch.nb
          have nb1 := k1.ch.nb
          have nn0 := k0.ch.n2
          have nn1 := k1.ch.n2
          have nm0 := k0.ch.n8
          have nm1 := k1.ch.n8
          -- where the boxes begin
          refine ⟨_, rfl, _, rfl, _, _, 0, _, rfl, rfl, SqL.of W.bls, rfl, sd, (S 0).b, _, rfl, W.st, k0.bl, ?_, by rw [List.length_map]; omega, fun H13 z13 st13 e13 hz => ?_⟩
          · intro z
            have := congrArg List.length z
            rw [List.length_map] at this
            have z0 : ([] : List V).length = 0 := rfl
            omega
          obtain ⟨zz, _, rfl⟩ := List.mem_map.mp hz
          have W13 := W.ev st13 e13
          refine ⟨_, rfl, _, rfl, _, _, 0, _, rfl, rfl, SqL.of W13.bls, rfl, _, rfl, sd, _, zz, rfl, st13, fun H14 xa0 b00 b01 b02 b03 st14 e14 hxa0 c00 c01 c02 => ?_⟩
          have W14 := W13.ev st14 e14
          refine ⟨_, rfl, _, rfl, _, _, 1, _, rfl, rfl, SqL.of W14.bls, rfl, _, rfl, _, rfl, _, _, 1, _, rfl, rfl, SqL.of W14.bls, rfl, _, rfl, by show 1 ≤ sizeLine; decide, fun t1 ht1 => ?_⟩
          have y1 := same_upd (o := .lst [.int zz]) ht1
          have hb14 := (W14.side 1 (by decide)).bl
          have nbt : (S 1).b ≠ t1 := fun z => by rw [z, ht1] at hb14; cases hb14
          refine ⟨(S 1).b, t1, _, _, rfl, rfl, y1 _ _ hb14, upd_same, ?_, fun t2 ht2 => ?_⟩
          · rw [List.length_map]
            exact Nat.le_of_lt (small1000 (by show (S 1).bg.length + 1 ≤ 1000; omega))
          have y2 := same_upd (o := .lst ((S 1).bg.map V.int ++ [.int zz])) ht2
          refine ⟨sd, t2, _, rfl, (st14.same y1).same y2, upd_same, by simp, by rw [List.length_append, List.length_map]; show (S 1).bg.length + 1 < 1073741824; omega, fun H15 z15 st15 e15 hz2 => ?_⟩
          obtain ⟨z2, rfl⟩ : ∃ z2 : Int, z15 = .int z2 := by
            rcases List.mem_append.mp hz2 with h | h
            · obtain ⟨m, _, rfl⟩ := List.mem_map.mp h
              exact ⟨m, rfl⟩
            · exact ⟨zz, List.mem_singleton.mp h⟩
          have e1415 : Ev (tbs K) sd H14 H15 := (Ev.of y1).trans ((Ev.of y2).trans e15)
          refine ⟨sd, _, z2, rfl, st15, fun H16 xa1 b10 b11 b12 b13 st16 e16 hxa1 c10 c11 c12 => ⟨by show 2 ≤ sizeLine; decide, fun bxs hbxs => ?_⟩⟩
          have y3 := same_upd (o := .lst [.ref xa0, .ref xa1]) hbxs
          have e1417 : Ev (tbs K) sd H14 (upd H16 bxs (.lst [.ref xa0, .ref xa1])) := e1415.trans (e16.trans (Ev.of y3))
          have st17 := st16.same y3
          have W17 := W14.ev st17 e1417
          have hbx17 : (upd H16 bxs (.lst [.ref xa0, .ref xa1])) bxs = some (.lst [.ref xa0, .ref xa1]) := upd_same
          have hxa017 := e1417.tup hxa0
          have hxa117 := y3 _ _ hxa1
          clear hb14 nbt y1 y2 y3 e1415 e1417 st14 st15 st16 W13 W14 W k0 k1
          generalize upd H16 bxs (.lst [.ref xa0, .ref xa1]) = B at W17 hbx17 hxa017 hxa117 st17 ⊢
          obtain ⟨xa, bv, hbx, hxa, hbv⟩ : ∃ (xa : Nat → Addr) (bv : Nat → Box4), B bxs = some (.lst [.ref (xa 0), .ref (xa 1)]) ∧ (∀ i, i < 2 → B (xa i) = some (.tup (bxT (bv i)))) ∧ ∀ i, i < 2 → (bv i).1 ≤ (bv i).2.1 ∧ (bv i).2.2.1 ≤ (bv i).2.2.2 ∧ (bv i).2.2.2 ≤ (bv i).2.2.1 + 7 := by
            refine ⟨fun i => if i = 0 then xa0 else xa1, fun i => if i = 0 then (b00, b01, b02, b03) else (b10, b11, b12, b13), hbx17, fun i hi => ?_, fun i hi => ?_⟩
            · match i, hi with
              | 0, _ => exact hxa017
              | 1, _ => exact hxa117
            · match i, hi with
              | 0, _ => exact ⟨c00, c01, c02⟩
              | 1, _ => exact ⟨c10, c11, c12⟩
          refine ⟨by show 0 ≤ sizeLine; decide, fun pls hpls => ?_⟩
          have y4 := same_upd (o := .lst []) hpls
          refine ⟨by show 0 ≤ sizeLine; decide, fun hts hhts => ?_⟩
          have y5 := same_upd (o := .lst []) hhts
          have hhts0 : B hts = none := y4.free hhts
          have nph : pls ≠ hts := fun z => by rw [← z, upd_same] at hhts; cases hhts
          have sB : Same B (upd (upd B pls (.lst [])) hts (.lst [])) := fun b o e => y5 b o (y4 b o e)
          have hp0 : (upd (upd B pls (.lst [])) hts (.lst [])) pls = some (.lst []) := y5 _ _ upd_same
          have hh0 : (upd (upd B pls (.lst [])) hts (.lst [])) hts = some (.lst []) := upd_same
          refine ⟨2, rfl, by decide, by decide, for_range (n := 2) (fun j σ H' => (∃ x8 x9 x13 x14 x15 x16 x17 x18 x19 x20 x21 x22 x23 : Option V, σ = [some (.ref a), some (.ref sd), some (.ref c.ca), some (.ref ld), some (.ref p), some (.ref rl), some (.ref D), some (.ref D2), x8, x9, some (.ref bxs), some (.ref pls), some (.ref hts), x13, x14, x15, x16, x17, x18, x19, x20, x21, x22, x23]) ∧ StOk H' sd ∧ Ev (tbs K) sd B H' ∧ ∃ (ps : List Addr) (hs : List Int), H' pls = some (.lst (ps.map V.ref)) ∧ H' hts = some (.lst (hs.map V.int)) ∧ ps.length ≤ j ∧ hs.length = ps.length ∧
            (ps.length = j → ∀ i k h, ps[i]? = some k → hs[i]? = some h → PlOk H' (S i) ran ba (bv i).1 (bv i).2.1 (bv i).2.2.1 (bv i).2.2.2 k h))
            ⟨⟨_, _, _, _, _, _, _, _, _, _, _, _, _, rfl⟩, st17.same sB, Ev.of sB, [], [], hp0, hh0, Nat.le_refl _, rfl, fun _ i k h hk => (by cases hk)⟩ (fun j σ H18 hj hP2 => ?_) (fun σ H18 hP2 => ?_)⟩
          · obtain ⟨⟨x8, x9, x13, x14, x15, x16, x17, x18, x19, x20, x21, x22, x23, rfl⟩, st18, ev18, ps, hs, hps, hhs, hle, hlen2, hpl⟩ := hP2
            rw [Int.zero_add]
            have W18 := W17.ev st18 ev18
            have kj := W18.side j hj
            have cj := kj.ch
            have cn := cj.nb
            have cn2 := cj.n2
            have cn8 := cj.n8
            have hbx18 := ev18.lst hbx
            have hxa18 := ev18.tup (hxa j hj)
            obtain ⟨v1', v2', v3'⟩ := hbv j hj
            refine ⟨_, rfl, _, rfl, _, rfl, _, _, _, _, rfl, rfl, SqL.of W18.bls, two_at (fun i => .ref ((S i).b)) hj, _, rfl, _, rfl, _, _, _, _, rfl, rfl, SqL.of hbx18, two_at (fun i => .ref (xa i)) hj, sd, (S j).b, xa j, (S j).bg, _, _, _, _, rfl, st18, kj.bl, by omega, cj.tot_le, hxa18, ?_, fun H19 pr st19 e19 g1 g2 g3 g4 => ?_⟩
            · refine ⟨_, rfl, rfl, _, rfl, iteF ?_⟩
              exact ⟨⟨_, _, _, _, _, _, _, _, _, _, _, _, _, rfl⟩, st18, ev18, ps, hs, hps, hhs, by omega, hlen2, fun z => by omega⟩
            · refine ⟨_, rfl, rfl, _, rfl, iteT ?_⟩
              have ev19 := ev18.trans e19
              have W19 := W17.ev st19 ev19
              have kj19 := W19.side j hj
              refine ⟨_, rfl, _, rfl, _, _, _, _, rfl, rfl, SqL.of W19.bls, two_at (fun i => .ref ((S i).b)) hj, _, rfl, (S j).b, (S j).bg, pr, rfl, kj19.bl, by omega, by omega, cj.b0, g2, g4, fun i0 i1 i2 i3 => ?_⟩
              refine ⟨_, rfl, _, rfl, _, rfl, _, _, _, _, rfl, rfl, SqL.of W19.rls, two_at (fun i => .ref ((S i).r)) hj, _, rfl, _, rfl, _, _, _, _, rfl, rfl, SqL.of W19.bls, two_at (fun i => .ref ((S i).b)) hj, _, rfl, _, rfl, sd, (S j).r, (S j).b, c, (S j).rt, (S j).pts, (S j).bg, i0, pr, rfl, W19.ch, kj19.rt_, kj19.bl, kj19.ro, cn, by omega, fun H20 xq s20 hxq => ?_⟩
              have st20 := st19.same s20
              have ev20 := ev19.trans (Ev.of s20)
              have W20 := W17.ev st20 ev20
              refine ⟨_, rfl, _, rfl, p, _, rfl, dget_of W20.ru.dk W20.ru.ra, sd, ran, rfl, st20, by omega, fun H21 xm mx my st21 e21 hxm hmm => ?_⟩
              have ev21 := ev20.trans e21
              have hxq21 := e21.tup hxq
              have hps21 : H21 pls = some (.lst (ps.map V.ref)) := e21.lst (s20 _ _ (e19.lst hps))
              have hhs21 : H21 hts = some (.lst (hs.map V.int)) := e21.lst (s20 _ _ (e19.lst hhs))
              have hL := onL_bd cj (i := i0) (by omega) i2 i3
              have bL : -(2 ^ 64) < onL (S j).bg i0 ∧ onL (S j).bg i0 < 2 ^ 64 := ⟨by omega, by omega⟩
              refine ⟨_, rfl, .inl ⟨rfl, _, SqL.of hps21⟩, _, rfl, _, _, 0, _, rfl, rfl, SqT.of hxq21, rfl, _, rfl, _, _, 0, _, rfl, rfl, SqT.of hxm, rfl, _, rfl, _, _, 2, _, rfl, rfl, SqT.of hxq21, rfl, _, _, rfl, rfl, .inr bL, _, _, rfl, rfl, ?_⟩
              refine ⟨_, rfl, _, _, 1, _, rfl, rfl, SqT.of hxq21, rfl, _, rfl, _, _, 1, _, rfl, rfl, SqT.of hxm, rfl, _, rfl, _, _, 2, _, rfl, rfl, SqT.of hxq21, rfl, _, _, rfl, rfl, .inr bL, _, _, rfl, rfl, ?_⟩
              refine ⟨_, rfl, _, _, 2, _, rfl, rfl, SqT.of hxq21, rfl, by show 3 ≤ sizeLine; decide, fun tt htt => ?_⟩
              have s22 := same_upd (o := .tup [.int (onX (S j).pts (S j).bg i0 pr + mx * onL (S j).bg i0), .int (onY (S j).pts (S j).bg i0 pr + my * onL (S j).bg i0), .int (onL (S j).bg i0)]) htt
              refine ⟨pls, _, _, rfl, rfl, s22 _ _ hps21, by rw [List.length_map]; exact small1000 (by omega), ?_⟩
              have ev22 := ev21.trans (Ev.of (ts := tbs K) (sd := sd) s22)
              have st23 := st17.upd (o := .lst (ps.map V.ref ++ [V.ref tt])) ev22 (st21.same s22) hpls
              have ev23 := ev22.upd_new (o := .lst (ps.map V.ref ++ [V.ref tt])) hpls
              have hps22 := s22 _ _ hps21
              have tp23 : TP H18 (upd (upd H21 tt (.tup [.int (onX (S j).pts (S j).bg i0 pr + mx * onL (S j).bg i0), .int (onY (S j).pts (S j).bg i0 pr + my * onL (S j).bg i0), .int (onL (S j).bg i0)])) pls (.lst (ps.map V.ref ++ [V.ref tt]))) :=
                (((TP.ev e19).trans (TP.same s20)).trans (TP.ev e21)).trans ((TP.same s22).trans (TP.lst hps22))
              have ht23 : (upd (upd H21 tt (.tup [.int (onX (S j).pts (S j).bg i0 pr + mx * onL (S j).bg i0), .int (onY (S j).pts (S j).bg i0 pr + my * onL (S j).bg i0), .int (onL (S j).bg i0)])) pls (.lst (ps.map V.ref ++ [V.ref tt]))) tt = some (.tup [.int (onX (S j).pts (S j).bg i0 pr + mx * onL (S j).bg i0), .int (onY (S j).pts (S j).bg i0 pr + my * onL (S j).bg i0), .int (onL (S j).bg i0)]) :=
                TP.lst hps22 _ _ upd_same
              have hps23 : (upd (upd H21 tt (.tup [.int (onX (S j).pts (S j).bg i0 pr + mx * onL (S j).bg i0), .int (onY (S j).pts (S j).bg i0 pr + my * onL (S j).bg i0), .int (onL (S j).bg i0)])) pls (.lst (ps.map V.ref ++ [V.ref tt]))) pls = some (.lst ((ps ++ [tt]).map V.ref)) := by
                rw [upd_same, List.map_append]
                rfl
              have hhs23 : (upd (upd H21 tt (.tup [.int (onX (S j).pts (S j).bg i0 pr + mx * onL (S j).bg i0), .int (onY (S j).pts (S j).bg i0 pr + my * onL (S j).bg i0), .int (onL (S j).bg i0)])) pls (.lst (ps.map V.ref ++ [V.ref tt]))) hts = some (.lst (hs.map V.int)) := by
                rw [upd_ne nph.symm]
                exact s22 _ _ hhs21
              generalize upd (upd H21 tt (.tup [.int (onX (S j).pts (S j).bg i0 pr + mx * onL (S j).bg i0), .int (onY (S j).pts (S j).bg i0 pr + my * onL (S j).bg i0), .int (onL (S j).bg i0)])) pls (.lst (ps.map V.ref ++ [V.ref tt])) = H23 at st23 ev23 tp23 ht23 hps23 hhs23 ⊢
              have W23 := W17.ev st23 ev23
              have hbx23 := ev23.lst hbx
              have hxa23 := ev23.tup (hxa j hj)
              refine ⟨_, rfl, _, rfl, _, _, _, _, rfl, rfl, SqL.of hbx23, two_at (fun i => .ref (xa i)) hj, _, _, 2, _, rfl, rfl, SqT.of hxa23, rfl, _, rfl, _, rfl, _, rfl, _, _, _, _, rfl, rfl, SqL.of hbx23, two_at (fun i => .ref (xa i)) hj, _, _, 3, _, rfl, rfl, SqT.of hxa23, rfl, _, rfl, _, rfl, _, _, _, _, rfl, rfl, SqL.of hbx23, two_at (fun i => .ref (xa i)) hj, _, _, 2, _, rfl, rfl, SqT.of hxa23, rfl, _, _, rfl, rfl, _, _, rfl, rfl, sd, _, rfl, st23, by omega, by omega, fun H24 w0 st24 e24 w1 w2 => ⟨_, _, rfl, rfl, ?_⟩⟩
              have ev24 := ev23.trans e24
              have W24 := W17.ev st24 ev24
              have b2' : -(2 ^ 64) < (2 : Int) ∧ (2 : Int) < 2 ^ 64 := by decide
              refine ⟨_, rfl, .inl ⟨rfl, _, SqL.of (e24.lst hhs23)⟩, _, rfl, _, rfl, _, rfl, p, _, rfl, dget_of W24.ru.dk W24.ru.ba, _, _, rfl, rfl, .inl b2', _, _, rfl, rfl, sd, _, rfl, st24, by omega, by omega, fun H25 w3 st25 e25 w4 w5 => ⟨_, _, rfl, rfl, ?_⟩⟩
              have ev25 := ev24.trans e25
              have W25 := W17.ev st25 ev25
              have hhs25 := e25.lst (e24.lst hhs23)
              refine ⟨_, rfl, p, _, rfl, dget_of W25.ru.dk W25.ru.ba, _, _, rfl, rfl, hts, _, _, rfl, rfl, hhs25, by rw [List.length_map]; exact small1000 (by omega), ⟨_, _, _, _, _, _, _, _, _, _, _, _, _, rfl⟩, ?_⟩
              have tp26 : TP H23 (upd H25 hts (.lst (hs.map V.int ++ [.int ((bv j).2.2.1 + w0 + w3 - ba)]))) := ((TP.ev e24).trans (TP.ev e25)).trans (TP.lst hhs25)
              refine ⟨st17.upd ev25 st25 hhts0, ev25.upd_new hhts0, ps ++ [tt], hs ++ [(bv j).2.2.1 + w0 + w3 - ba], ?_, by rw [upd_same, List.map_append]; rfl, by rw [List.length_append]; exact Nat.succ_le_succ hle, by rw [List.length_append, List.length_append, hlen2]; rfl, fun hz i k h hk hh => ?_⟩
              · rw [upd_ne nph]
                exact e25.lst (e24.lst hps23)
              · rw [List.length_append] at hz
                have hz : ps.length = j := Nat.succ.inj hz
                by_cases hi3 : i < ps.length
                · rw [List.getElem?_append_left hi3] at hk
                  rw [List.getElem?_append_left (by omega)] at hh
                  exact (hpl hz i k h hk hh).keep fun xs hx => tp26 _ _ (tp23 _ _ hx)
                · rw [List.getElem?_append_right (by omega)] at hk
                  have e0 : i - ps.length = 0 := by
                    have := (List.getElem?_eq_some_iff.mp hk).1
                    have z : ([tt] : List Addr).length = 1 := rfl
                    omega
                  rw [e0] at hk
                  rw [List.getElem?_append_right (by omega), show i - hs.length = 0 by omega] at hh
                  cases hk
                  cases hh
                  obtain rfl : i = j := by omega
                  exact ⟨pr, i0, mx, my, (bv i).2.2.1 + w0, tp26 _ _ ht23, by omega, i2, i3, g1, g2, g3, g4, hmm, by omega, by omega, by omega, by omega⟩
          · obtain ⟨⟨x8, x9, x13, x14, x15, x16, x17, x18, x19, x20, x21, x22, x23, rfl⟩, st18, ev18, ps, hs, hps, hhs, hle, hlen2, hpl⟩ := hP2
            have W18 := W17.ev st18 ev18
            have done : ∀ H', StOk H' sd → Ev (tbs K) sd H18 H' → LW K H' sd c p kvs la ve ran ba rl D D2 S := fun H' x y => W18.ev x y
            refine ⟨_, rfl, _, _, rfl, .inl (SqL.of hps), rfl, _, rfl, ite2 (fun c1 => ?_) fun c1 => ?_⟩
            · have c1 : ((ps.map V.ref).length : Int) = 2 := V.int.inj (of_decide_eq_true c1)
              rw [List.length_map] at c1
              have hz : ps.length = 2 := by omega
              obtain ⟨n0, n1, rfl⟩ : ∃ n0 n1, ps = [n0, n1] := by
                match ps, hz with
                | [n0, n1], _ => exact ⟨n0, n1, rfl⟩
              obtain ⟨h0, h1, rfl⟩ : ∃ h0 h1, hs = [h0, h1] := by
                match hs, hlen2 with
                | [n0, n1], _ => exact ⟨n0, n1, rfl⟩
              obtain ⟨q0, i0, mx0, my0, v0, t0, p01, p02, p03, p04, p05, p06, p07, p08, p09, p0a, p0b, p0c⟩ := (hpl rfl 0 n0 h0 rfl rfl).ex
              obtain ⟨q1, i1, mx1, my1, v1', t1, p11, p12, p13, p14, p15, p16, p17, p18, p19, p1a, p1b, p1c⟩ := (hpl rfl 1 n1 h1 rfl rfl).ex
              have k0 := W18.side 0 (by decide)
              have k1 := W18.side 1 (by decide)
              have hbx18 := ev18.lst hbx
              obtain ⟨d01, d02, _⟩ := hbv 0 (by decide)
              obtain ⟨d11, d12, _⟩ := hbv 1 (by decide)
              refine ⟨_, rfl, _, rfl, _, _, 0, _, rfl, rfl, SqL.of W18.pls, rfl, _, rfl, _, _, 0, _, rfl, rfl, SqL.of hbx18, rfl, _, rfl, _, _, 1, _, rfl, rfl, SqL.of W18.pls, rfl, _, rfl, _, _, 1, _, rfl, rfl, SqL.of hbx18, rfl, ?_⟩
              refine ⟨p, (S 0).a, xa 0, (S 1).a, xa 1, kvs, la, ve, ran, ba, _, _, _, _, _, _, _, _, (S 0).u, (S 1).u, (S 0).pts, (S 1).pts, (S 0).bg, (S 1).bg, rfl, W18.ru, by omega, by omega, by omega, by omega, ev18.tup (hxa 0 (by decide)), ev18.tup (hxa 1 (by decide)), k0.path, k0.ch, k1.path, k1.ch,
                by omega, by omega, by omega, by omega, by omega, by omega, by omega, by omega, W18.tb, fun H26 bb e26 hsep => ⟨_, rfl, ite2 (fun c2 => ?_) fun c2 => ?_⟩⟩
              · have st26 : StOk H26 sd := by
                  obtain ⟨cc, cells, x, y, z, o1, o2, o3⟩ := st18
                  exact ⟨cc, cells, x, y, z, e26.dK o1, e26.lst o2, o3⟩
                have W26 := done H26 st26 (e26.ev sd)
                have hps26 := e26.lst hps
                have hhs26 := e26.lst hhs
                have t0 := e26.tup t0
                have t1 := e26.tup t1
                have hL0 := onL_bd k0.ch p01 p02 p03
                have hL1 := onL_bd k1.ch p11 p12 p13
                have o0 := k0.ch.on_bd p01 p02 (Int.le_of_lt p03)
                have o1 := k1.ch.on_bd p11 p12 (Int.le_of_lt p13)
                have law := law_pure k0.ch k1.ch (la := la) (ve := ve) (ra := ran) (ba := ba) (by omega) (by omega) (hsep c2) p01 p11 p02 p03 p04 p05 p06 p12 p13 p14 p15 p16 p08 p18 p09 p0a p19 p1a p0b p0c p1b p1c
                have bm0 : -4 ≤ mx0 ∧ mx0 ≤ 4 ∧ -4 ≤ my0 ∧ my0 ≤ 4 := mv_bd (by omega) p08
                have bm1 : -4 ≤ mx1 ∧ mx1 ≤ 4 ∧ -4 ≤ my1 ∧ my1 ≤ 4 := mv_bd (by omega) p18
                simp only [CB] at o0 o1
                generalize onX (S 0).pts (S 0).bg i0 q0 = X0 at *
                generalize onY (S 0).pts (S 0).bg i0 q0 = Y0 at *
                generalize onL (S 0).bg i0 = L0 at *
                generalize onX (S 1).pts (S 1).bg i1 q1 = X1 at *
                generalize onY (S 1).pts (S 1).bg i1 q1 = Y1 at *
                generalize onL (S 1).bg i1 = L1 at *
                have bL0 : -(2 ^ 64) < L0 ∧ L0 < 2 ^ 64 := ⟨by omega, by omega⟩
                have bL1 : -(2 ^ 64) < L1 ∧ L1 < 2 ^ 64 := ⟨by omega, by omega⟩
                have bS : -(2 ^ 64) < L0 * L1 ∧ L0 * L1 < 2 ^ 64 := by
                  have := mul_bd (a := L0) (b := L1) (A := 497) (B := 497) ⟨by omega, by omega⟩ ⟨by omega, by omega⟩
                  omega
                have bX := diff_bd (a := mx0) (b := mx1) o0.1 o1.1 hL0 hL1 ⟨bm0.1, bm0.2.1⟩ ⟨bm1.1, bm1.2.1⟩
                have bY := diff_bd (a := my0) (b := my1) o0.2 o1.2 hL0 hL1 ⟨bm0.2.2.1, bm0.2.2.2⟩ ⟨bm1.2.2.1, bm1.2.2.2⟩
                have bla : -(2 ^ 64) < la ∧ la < 2 ^ 64 := ⟨by omega, by omega⟩
                refine ⟨_, rfl, _, _, 0, _, rfl, rfl, SqL.of hps26, rfl, _, _, 2, _, rfl, rfl, SqT.of t0, rfl, _, rfl, _, _, 1, _, rfl, rfl, SqL.of hps26, rfl, _, _, 2, _, rfl, rfl, SqT.of t1, rfl, _, _, rfl, rfl, .inl bL0, ?_⟩
                refine ⟨_, rfl, _, _, 0, _, rfl, rfl, SqL.of hps26, rfl, _, _, 0, _, rfl, rfl, SqT.of t0, rfl, _, rfl, _, _, 1, _, rfl, rfl, SqL.of hps26, rfl, _, _, 2, _, rfl, rfl, SqT.of t1, rfl, _, _, rfl, rfl, .inr bL1, _, rfl, _, _, 1, _, rfl, rfl, SqL.of hps26, rfl, _, _, 0, _, rfl, rfl, SqT.of t1, rfl, _, rfl, _, _, 0, _, rfl, rfl, SqL.of hps26, rfl, _, _, 2, _, rfl, rfl, SqT.of t0, rfl, _, _, rfl, rfl, .inr bL0, _, _, rfl, rfl, ?_⟩
                refine ⟨_, rfl, _, _, 0, _, rfl, rfl, SqL.of hps26, rfl, _, _, 1, _, rfl, rfl, SqT.of t0, rfl, _, rfl, _, _, 1, _, rfl, rfl, SqL.of hps26, rfl, _, _, 2, _, rfl, rfl, SqT.of t1, rfl, _, _, rfl, rfl, .inr bL1, _, rfl, _, _, 1, _, rfl, rfl, SqL.of hps26, rfl, _, _, 1, _, rfl, rfl, SqT.of t1, rfl, _, rfl, _, _, 0, _, rfl, rfl, SqL.of hps26, rfl, _, _, 2, _, rfl, rfl, SqT.of t0, rfl, _, _, rfl, rfl, .inr bL0, _, _, rfl, rfl, ?_⟩
                refine ⟨_, rfl, _, rfl, _, _, rfl, rfl, .inl bX, _, rfl, _, rfl, _, _, rfl, rfl, .inl bY, _, _, rfl, rfl, _, rfl, p, _, rfl, dget_of W26.ru.dk W26.ru.la, _, rfl, p, _, rfl, dget_of W26.ru.dk W26.ru.la, _, _, rfl, rfl, .inl bla, _, rfl, _, _, rfl, rfl, .inr bS, _, rfl, _, _, rfl, rfl, .inr bS, _, _, rfl, rfl, ?_⟩
                refine ⟨_, rfl, _, rfl, ite2 (fun c3 => ?_) fun c3 => ?_⟩
                · have c3 := of_decide_eq_true c3
                  refine ⟨_, rfl, _, _, 0, _, rfl, rfl, SqL.of hhs26, rfl, _, rfl, _, _, 1, _, rfl, rfl, SqL.of hhs26, rfl, _, _, rfl, rfl, _, rfl, _, rfl, p, _, rfl, dget_of W26.ru.dk W26.ru.ve, _, _, rfl, rfl, _, rfl, ite2 (fun c4 => ?_) fun c4 => ?_⟩
                  · exact absurd (of_decide_eq_true c4) (law c3)
                  · exact ⟨⟨_, _, _, _, _, _, _, _, _, _, _, _, _, _, _, _, rfl⟩, W26⟩
                · exact ⟨⟨_, _, _, _, _, _, _, _, _, _, _, _, _, _, _, _, rfl⟩, W26⟩
              · have st26 : StOk H26 sd := by
                  obtain ⟨cc, cells, x, y, z, o1, o2, o3⟩ := st18
                  exact ⟨cc, cells, x, y, z, e26.dK o1, e26.lst o2, o3⟩
                exact ⟨⟨_, _, _, _, _, _, _, _, _, _, _, _, _, _, _, _, rfl⟩, done H26 st26 (e26.ev sd)⟩
            · exact ⟨⟨_, _, _, _, _, _, _, _, _, _, _, _, _, _, _, _, rfl⟩, W18⟩
end
end K16
set_option maxHeartbeats 4000000
namespace K16
open PySem PySem.Spec PyProof.Rows L2
theorem tx_of {K : PySem.W.Frag} {h : Heap} {mg : Str → Option Value} (X : K.In h) (G : h.Ns mainGlobals mg) (c : He.SaysD fa fn K) (e : ex K = true) : Tx K mg where
  said := c
  glo := fun i x hi => He.glo_ok X G (c.fact i hi)
  fre := fun i x hi => He.free_ok X G (c.fact i hi)
  isq := by
    unfold ex at e
    have z : PySem.W.nsIn K mainGlobals "isqrt" = some (some (.builtin "math.isqrt")) := by
      cases q : PySem.W.nsIn K mainGlobals "isqrt" with
      | none => rw [q] at e; cases e
      | some o =>
        rw [q] at e
        cases o with
        | none => cases e
        | some v =>
          cases v with
          | builtin id =>
            have e2 : id = "math.isqrt" := of_decide_eq_true e
            rw [e2]
          | _ => cases e
    exact PySem.W.mg_of X G z
theorem law_ok {P : Program} {w : World} {K : PySem.W.Frag} {mg : Str → Option Value} {base : Heap} {fd : FuncData} (T : Tx K mg) (F : Fn K "law" "law" s_law (He.ga K "law") fd) (B1 : AnyG.TabB base mg (cC K) (tC K)) (B2 : AnyG.TabB base mg (cL K) (tL K)) :
    FnOk P w K mg base CX0 8 (He.ga K "law") fd ["_law_script"] (spLaw K) := by
  have draw := ok_draw (P := P) (w := w) (base := base) T
  have pick := ok_pick T draw
  have cross := ok_cross (P := P) (w := w) (base := base) T
  have dot := ok_dot (P := P) (w := w) (base := base) T
  have sign := ok_sign (P := P) (w := w) (base := base) T
  have common := ok_common (P := P) (w := w) (base := base) T
  have crosses := ok_crosses T sign cross
  have ps := ok_point_square T dot cross
  have sq := ok_squares T ps
  have closer := ok_closer T B1 common crosses sq
  have lines := ok_lines_closer T B2 closer
  have total := ok_total (P := P) (w := w) (base := base) T
  have legat := ok_leg_at (P := P) (w := w) (base := base) T
  have vector := ok_vector (P := P) (w := w) (base := base) T
  have onleg := ok_on_leg T vector
  have place := ok_place T onleg legat
  have piece := ok_piece T total onleg place
  have above := ok_are_above (P := P) (w := w) (base := base) T
  have sep := ok_separated T above piece lines
  have names := ok_names T draw pick
  have legs := ok_legs T draw pick
  have chart := ok_chart T draw names legs
  exact ok_law T F (ok_start T) (ok_small_chart T draw pick chart) (ok_lengths T (ok_l_root_up T)) (ok_rules T draw pick) (ok_walk T draw pick) draw (ok_init T (ok_leg_between T) (ok_leg_length T (ok_root_up T))) (ok_begins T) pick (ok_box T draw pick) (ok_in_box T draw pick) (ok_l_leg_at T) (ok_l_place_on T) (ok_l_vector T pick) sep
end K16
open PySem PySem.W PySem.Calls PyProof.Rows
theorem PySem.Challenge.cw_skyapart_k16_whole_separated_boxes_keep_holds : PySem.Challenge.rw_skyapart_k16_whole_separated_boxes_keep.Holds := by
  w_on; o_law
  refine HandSHeadRun.head_imp (r := OpenLaw.row PySem.Challenge.rw_skyapart_k16_whole_separated_boxes_keep) (q := view K16.R.prog [0, 51]) (H := K16.hk) (ob := K16.ob) (M := 6000) (loose := K16.loose) (d := HandSHeadRun.topDef K16.R.prog 51) (kwd := []) K16.ob_eq K16.run
    (by kernel_rfl) (by kernel_rfl) (by kernel_rfl) (by rfl) (by first | assumption | decide +kernel) (by decide +kernel) ⟨rfl, rfl, rfl, rfl, rfl, by decide +kernel⟩ ?hw ?hc
  case hw => w_witness2
  case hc =>
    refine LamX.walk_ofTsE (l := PySem.Challenge.rw_skyapart_k16_whole_separated_boxes_keep) (n := 63) (k := 8) (x := "_law_script") (CX := fun _ => L2.CX0) rfl (by decide) (by kernel_rfl) ⟨rfl, by decide, by decide⟩ ?F (fun _ _ _ _ _ z => z)
    intro w mg fa h Y G hmg0
    obtain ⟨K, KX, c⟩ := Y
    have hmg : mg ("law" : PySem.Str) = some (.ref fa) := by
      have e : (HandSHeadRun.topDef K16.R.prog 51).name = ("law" : PySem.Str) := by kernel_rfl
      rw [← e]
      exact hmg0
    have T := K16.tx_of KX G c.t.d c.more
    have e := hmg.symm.trans T.g_law
    cases e
    obtain ⟨fd, F⟩ := T.f_law
    have b := L2.FunD.bindsA (ps := ["_law_script"]) F fun _ _ _ _ _ _ us hl => match us, hl with | [_], _ => rfl
    refine ⟨K, KX, fd, K16.tf.map (He.cT K), K16.spLaw K, fun p hp => ?_, fun p hp => ?_, fun p hp => ?_, fun s v => b s [v] rfl, fun H a ns hl _ hE hS => ⟨a, ns, rfl, hS, Nat.le_trans hl (by decide), fun p hp => ?_, fun _ => rfl⟩, fun base _ _ hB => ?_⟩
    · obtain ⟨q, hq, rfl⟩ := List.mem_map.mp hp
      exact c.empty q hq
    · obtain ⟨q, hq, rfl⟩ := List.mem_map.mp hp
      exact c.out q hq
    · obtain ⟨q, hq, rfl⟩ := List.mem_map.mp hp
      exact PySem.W.codeHd_of_K KX (c.hd q hq)
    · have hm : ∃ q ∈ K16.tf, p = (He.cT K q).2 := by
        simp only [K16.tbs, List.mem_cons, List.not_mem_nil, or_false] at hp
        rcases hp with h | h
        · exact ⟨_, List.mem_cons_self .., h⟩
        · exact ⟨_, List.mem_cons_of_mem _ (List.mem_cons_self ..), h⟩
      obtain ⟨q, hq, rfl⟩ := hm
      exact ⟨#[], hE _ (List.mem_map.mpr ⟨q, hq, rfl⟩), by exact True.intro⟩
    · exact K16.law_ok T F (hB _ (List.mem_map.mpr ⟨_, List.mem_cons_self .., rfl⟩)) (hB _ (List.mem_map.mpr ⟨_, List.mem_cons_of_mem _ (List.mem_cons_self ..), rfl⟩))

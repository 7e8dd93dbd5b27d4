import PyProof.Rows.All
import Wide.All
import OpenK.AllK
import Wide.FinOn
import HandS.ForMost
import HandS.Evl
import HandS.Wide
import HandS.Gcd
import HandS.Style
import HandS.DictComp
import HandS.IsInst
import HandS.Star
import HandS.Zip
import KE.DatumOrd
import PyProof.Rows.RowBridgeK
import PySem.Challenge.RW_turnprimes_k45_whole_sizes_and_norms
section
set_option autoImplicit false
set_option maxHeartbeats 4000000
set_option linter.all false
namespace Tp
/-- three integers; three rows of three -/
structure V3 where
  x : Int
  y : Int
  z : Int
  deriving DecidableEq
structure M3 where
  a : V3
  b : V3
  c : V3
  deriving DecidableEq
namespace V3
def add (u v : V3) : V3 := ⟨u.x + v.x, u.y + v.y, u.z + v.z⟩
def smul (k : Int) (v : V3) : V3 := ⟨k * v.x, k * v.y, k * v.z⟩
def dot (u v : V3) : Int := u.x * v.x + u.y * v.y + u.z * v.z
def cross (u v : V3) : V3 := ⟨u.y * v.z - u.z * v.y, u.z * v.x - u.x * v.z, u.x * v.y - u.y * v.x⟩
def less (r o : V3) (m : Int) : V3 := ⟨r.x - m * o.x, r.y - m * o.y, r.z - m * o.z⟩
def zero : V3 := ⟨0, 0, 0⟩
def get (v : V3) : Nat → Int
  | 0 => v.x
  | 1 => v.y
  | _ => v.z
theorem ext' {u v : V3} (h1 : u.x = v.x) (h2 : u.y = v.y) (h3 : u.z = v.z) : u = v := by
  cases u
  cases v
  simp only at h1 h2 h3
  rw [h1, h2, h3]
theorem add_zero (u : V3) : u.add zero = u := ext' (Int.add_zero _) (Int.add_zero _) (Int.add_zero _)
theorem zero_add (u : V3) : zero.add u = u := ext' (Int.zero_add _) (Int.zero_add _) (Int.zero_add _)
theorem add_assoc (u v w : V3) : (u.add v).add w = u.add (v.add w) := ext' (Int.add_assoc _ _ _) (Int.add_assoc _ _ _) (Int.add_assoc _ _ _)
theorem smul_add (k : Int) (u v : V3) : smul k (u.add v) = (smul k u).add (smul k v) := ext' (Int.mul_add _ _ _) (Int.mul_add _ _ _) (Int.mul_add _ _ _)
theorem smul_smul (k m : Int) (u : V3) : smul k (smul m u) = smul (k * m) u := ext' (Int.mul_assoc _ _ _).symm (Int.mul_assoc _ _ _).symm (Int.mul_assoc _ _ _).symm
theorem smul_zero (k : Int) : smul k zero = zero := ext' (Int.mul_zero _) (Int.mul_zero _) (Int.mul_zero _)
theorem one_smul (u : V3) : smul 1 u = u := ext' (Int.one_mul _) (Int.one_mul _) (Int.one_mul _)
theorem less_eq (r o : V3) (m : Int) : r.less o m = r.add (smul (-m) o) := ext' (by simp only [less, add, smul]; grind) (by simp only [less, add, smul]; grind) (by simp only [less, add, smul]; grind)
end V3
def det3 (u v w : V3) : Int := u.x * (v.y * w.z - v.z * w.y) - u.y * (v.x * w.z - v.z * w.x) + u.z * (v.x * w.y - v.y * w.x)
def M3.det (m : M3) : Int := det3 m.a m.b m.c
def M3.rows (m : M3) : List V3 := [m.a, m.b, m.c]

/-! ### spans -/
inductive Span (L : List V3) : V3 → Prop
  | zero : Span L V3.zero
  | add (v r : V3) (k : Int) : r ∈ L → Span L v → Span L (v.add (V3.smul k r))
theorem Span.addv {L : List V3} {u v : V3} (hu : Span L u) (hv : Span L v) : Span L (u.add v) := by
  induction hv with
  | zero =>
    rw [V3.add_zero]
    exact hu
  | add v r k hr h ih =>
    rw [← V3.add_assoc]
    exact .add _ r k hr ih
theorem Span.smulv {L : List V3} {v : V3} (k : Int) (hv : Span L v) : Span L (V3.smul k v) := by
  induction hv with
  | zero =>
    rw [V3.smul_zero]
    exact .zero
  | add v r m hr h ih =>
    rw [V3.smul_add, V3.smul_smul]
    exact .add _ r _ hr ih
theorem Span.mem {L : List V3} {r : V3} (h : r ∈ L) : Span L r := by
  have q := Span.add V3.zero r 1 h Span.zero
  rw [V3.one_smul, V3.zero_add] at q
  exact q
theorem Span.le {L L' : List V3} (h : ∀ r ∈ L, Span L' r) {v : V3} (hv : Span L v) : Span L' v := by
  induction hv with
  | zero => exact .zero
  | add v r k hr _ ih => exact ih.addv ((h r hr).smulv k)
theorem Span.lessv {L : List V3} {u v : V3} (k : Int) (hu : Span L u) (hv : Span L v) : Span L (u.less v k) := by
  rw [V3.less_eq]
  exact hu.addv (hv.smulv _)
/-- two lists make the same points -/
def SpanEq (L L' : List V3) : Prop := ∀ v, Span L v ↔ Span L' v
theorem SpanEq.of {L L' : List V3} (h1 : ∀ r ∈ L, Span L' r) (h2 : ∀ r ∈ L', Span L r) : SpanEq L L' := fun _ => ⟨Span.le h1, Span.le h2⟩
theorem SpanEq.trans {L L' L'' : List V3} (a : SpanEq L L') (b : SpanEq L' L'') : SpanEq L L'' := fun v => (a v).trans (b v)
theorem SpanEq.symm {L L' : List V3} (a : SpanEq L L') : SpanEq L' L := fun v => (a v).symm
theorem SpanEq.refl (L : List V3) : SpanEq L L := fun _ => Iff.rfl

/-! ### three rows -/
theorem span_rows {m : M3} {v : V3} (h : Span m.rows v) : ∃ i j k : Int, v.x = i * m.a.x + j * m.b.x + k * m.c.x ∧ v.y = i * m.a.y + j * m.b.y + k * m.c.y ∧ v.z = i * m.a.z + j * m.b.z + k * m.c.z := by
  induction h with
  | zero => exact ⟨0, 0, 0, by simp [V3.zero], by simp [V3.zero], by simp [V3.zero]⟩
  | add v r k hr h ih =>
    obtain ⟨p, q, t, e1, e2, e3⟩ := ih
    simp only [M3.rows, List.mem_cons, List.not_mem_nil, or_false] at hr
    simp only [V3.add, V3.smul]
    rcases hr with rfl | rfl | rfl
    · exact ⟨p + k, q, t, by rw [e1]; grind, by rw [e2]; grind, by rw [e3]; grind⟩
    · exact ⟨p, q + k, t, by rw [e1]; grind, by rw [e2]; grind, by rw [e3]; grind⟩
    · exact ⟨p, q, t + k, by rw [e1]; grind, by rw [e2]; grind, by rw [e3]; grind⟩
/-- the determinant of the rows divides that of any three points of theirs -/
theorem det_dvd {m : M3} {u v w : V3} (hu : Span m.rows u) (hv : Span m.rows v) (hw : Span m.rows w) : m.det ∣ det3 u v w := by
  obtain ⟨i1, j1, k1, e1, e2, e3⟩ := span_rows hu
  obtain ⟨i2, j2, k2, e4, e5, e6⟩ := span_rows hv
  obtain ⟨i3, j3, k3, e7, e8, e9⟩ := span_rows hw
  refine ⟨i1 * (j2 * k3 - k2 * j3) - j1 * (i2 * k3 - k2 * i3) + k1 * (i2 * j3 - j2 * i3), ?_⟩
  simp only [M3.det, det3, e1, e2, e3, e4, e5, e6, e7, e8, e9]
  grind

/-! ### a turn: rows with s -/
structure Rot (s : Int) (m : M3) : Prop where
  pos : 0 < s
  aa : m.a.dot m.a = s * s
  bb : m.b.dot m.b = s * s
  cc : m.c.dot m.c = s * s
  ab : m.a.dot m.b = 0
  ac : m.a.dot m.c = 0
  bc : m.b.dot m.c = 0
  det : m.det = s * s * s
theorem cancel {s x y : Int} (hs : 0 < s) (h : s * x = s * y) : x = y := Int.eq_of_mul_eq_mul_left (by omega) h
section
variable {s : Int} {m : M3}
/-- the products of two rows, across, are the third row s times -/
theorem Rot.cross (h : Rot s m) : m.b.cross m.c = V3.smul s m.a ∧ m.c.cross m.a = V3.smul s m.b ∧ m.a.cross m.b = V3.smul s m.c := by
  obtain ⟨hs, aa, bb, cc, ab, ac, bc, d⟩ := h
  have h2 : 0 < s * s := Int.mul_pos hs hs
  have key : ∀ (k l u v : Int), s * s * k = s * s * s * l → k = s * l := fun k l u v q => cancel h2 (by rw [q]; grind)
  obtain ⟨⟨a1, a2, a3⟩, ⟨b1, b2, b3⟩, ⟨c1, c2, c3⟩⟩ := m
  simp only [V3.dot, M3.det, det3, V3.cross, V3.smul] at *
  have s2 := h2
  refine ⟨V3.ext' ?_ ?_ ?_, V3.ext' ?_ ?_ ?_, V3.ext' ?_ ?_ ?_⟩ <;> simp only <;> refine key _ _ 0 0 ?_
  · have e : (b2 * c3 - b3 * c2) * (a1 * a1 + a2 * a2 + a3 * a3) + (c2 * a3 - c3 * a2) * (a1 * b1 + a2 * b2 + a3 * b3) + (a2 * b3 - a3 * b2) * (a1 * c1 + a2 * c2 + a3 * c3) = (a1 * (b2 * c3 - b3 * c2) - a2 * (b1 * c3 - b3 * c1) + a3 * (b1 * c2 - b2 * c1)) * a1 := by grind
    rw [aa, ab, ac, d, Int.mul_zero, Int.mul_zero, Int.add_zero, Int.add_zero, Int.mul_comm] at e
    exact e
  · have e : (b3 * c1 - b1 * c3) * (a1 * a1 + a2 * a2 + a3 * a3) + (c3 * a1 - c1 * a3) * (a1 * b1 + a2 * b2 + a3 * b3) + (a3 * b1 - a1 * b3) * (a1 * c1 + a2 * c2 + a3 * c3) = (a1 * (b2 * c3 - b3 * c2) - a2 * (b1 * c3 - b3 * c1) + a3 * (b1 * c2 - b2 * c1)) * a2 := by grind
    rw [aa, ab, ac, d, Int.mul_zero, Int.mul_zero, Int.add_zero, Int.add_zero, Int.mul_comm] at e
    exact e
  · have e : (b1 * c2 - b2 * c1) * (a1 * a1 + a2 * a2 + a3 * a3) + (c1 * a2 - c2 * a1) * (a1 * b1 + a2 * b2 + a3 * b3) + (a1 * b2 - a2 * b1) * (a1 * c1 + a2 * c2 + a3 * c3) = (a1 * (b2 * c3 - b3 * c2) - a2 * (b1 * c3 - b3 * c1) + a3 * (b1 * c2 - b2 * c1)) * a3 := by grind
    rw [aa, ab, ac, d, Int.mul_zero, Int.mul_zero, Int.add_zero, Int.add_zero, Int.mul_comm] at e
    exact e
  · have e : (b2 * c3 - b3 * c2) * (a1 * b1 + a2 * b2 + a3 * b3) + (c2 * a3 - c3 * a2) * (b1 * b1 + b2 * b2 + b3 * b3) + (a2 * b3 - a3 * b2) * (b1 * c1 + b2 * c2 + b3 * c3) = (a1 * (b2 * c3 - b3 * c2) - a2 * (b1 * c3 - b3 * c1) + a3 * (b1 * c2 - b2 * c1)) * b1 := by grind
    rw [bb, ab, bc, d, Int.mul_zero, Int.mul_zero, Int.add_zero, Int.zero_add, Int.mul_comm] at e
    exact e
  · have e : (b3 * c1 - b1 * c3) * (a1 * b1 + a2 * b2 + a3 * b3) + (c3 * a1 - c1 * a3) * (b1 * b1 + b2 * b2 + b3 * b3) + (a3 * b1 - a1 * b3) * (b1 * c1 + b2 * c2 + b3 * c3) = (a1 * (b2 * c3 - b3 * c2) - a2 * (b1 * c3 - b3 * c1) + a3 * (b1 * c2 - b2 * c1)) * b2 := by grind
    rw [bb, ab, bc, d, Int.mul_zero, Int.mul_zero, Int.add_zero, Int.zero_add, Int.mul_comm] at e
    exact e
  · have e : (b1 * c2 - b2 * c1) * (a1 * b1 + a2 * b2 + a3 * b3) + (c1 * a2 - c2 * a1) * (b1 * b1 + b2 * b2 + b3 * b3) + (a1 * b2 - a2 * b1) * (b1 * c1 + b2 * c2 + b3 * c3) = (a1 * (b2 * c3 - b3 * c2) - a2 * (b1 * c3 - b3 * c1) + a3 * (b1 * c2 - b2 * c1)) * b3 := by grind
    rw [bb, ab, bc, d, Int.mul_zero, Int.mul_zero, Int.add_zero, Int.zero_add, Int.mul_comm] at e
    exact e
  · have e : (b2 * c3 - b3 * c2) * (a1 * c1 + a2 * c2 + a3 * c3) + (c2 * a3 - c3 * a2) * (b1 * c1 + b2 * c2 + b3 * c3) + (a2 * b3 - a3 * b2) * (c1 * c1 + c2 * c2 + c3 * c3) = (a1 * (b2 * c3 - b3 * c2) - a2 * (b1 * c3 - b3 * c1) + a3 * (b1 * c2 - b2 * c1)) * c1 := by grind
    rw [cc, ac, bc, d, Int.mul_zero, Int.mul_zero, Int.zero_add, Int.zero_add, Int.mul_comm] at e
    exact e
  · have e : (b3 * c1 - b1 * c3) * (a1 * c1 + a2 * c2 + a3 * c3) + (c3 * a1 - c1 * a3) * (b1 * c1 + b2 * c2 + b3 * c3) + (a3 * b1 - a1 * b3) * (c1 * c1 + c2 * c2 + c3 * c3) = (a1 * (b2 * c3 - b3 * c2) - a2 * (b1 * c3 - b3 * c1) + a3 * (b1 * c2 - b2 * c1)) * c2 := by grind
    rw [cc, ac, bc, d, Int.mul_zero, Int.mul_zero, Int.zero_add, Int.zero_add, Int.mul_comm] at e
    exact e
  · have e : (b1 * c2 - b2 * c1) * (a1 * c1 + a2 * c2 + a3 * c3) + (c1 * a2 - c2 * a1) * (b1 * c1 + b2 * c2 + b3 * c3) + (a1 * b2 - a2 * b1) * (c1 * c1 + c2 * c2 + c3 * c3) = (a1 * (b2 * c3 - b3 * c2) - a2 * (b1 * c3 - b3 * c1) + a3 * (b1 * c2 - b2 * c1)) * c3 := by grind
    rw [cc, ac, bc, d, Int.mul_zero, Int.mul_zero, Int.zero_add, Int.zero_add, Int.mul_comm] at e
    exact e
def M3.tr (m : M3) : M3 := ⟨⟨m.a.x, m.b.x, m.c.x⟩, ⟨m.a.y, m.b.y, m.c.y⟩, ⟨m.a.z, m.b.z, m.c.z⟩⟩
/-- the turn back -/
theorem Rot.back (h : Rot s m) : Rot s m.tr := by
  have pull : ∀ s a b c a' b' c' : Int, a * (s * a') + b * (s * b') + c * (s * c') = s * (a * a' + b * b' + c * c') := by intros; grind
  have i1 : ∀ a1 a2 a3 b1 b2 b3 c1 c2 c3 : Int, a1 * (b2 * c3 - b3 * c2) + b1 * (c2 * a3 - c3 * a2) + c1 * (a2 * b3 - a3 * b2) = a1 * (b2 * c3 - b3 * c2) - a2 * (b1 * c3 - b3 * c1) + a3 * (b1 * c2 - b2 * c1) := by intros; grind
  have i2 : ∀ a1 a2 a3 b1 b2 b3 c1 c2 c3 : Int, a2 * (b3 * c1 - b1 * c3) + b2 * (c3 * a1 - c1 * a3) + c2 * (a3 * b1 - a1 * b3) = a1 * (b2 * c3 - b3 * c2) - a2 * (b1 * c3 - b3 * c1) + a3 * (b1 * c2 - b2 * c1) := by intros; grind
  have i3 : ∀ a1 a2 a3 b1 b2 b3 c1 c2 c3 : Int, a3 * (b1 * c2 - b2 * c1) + b3 * (c1 * a2 - c2 * a1) + c3 * (a1 * b2 - a2 * b1) = a1 * (b2 * c3 - b3 * c2) - a2 * (b1 * c3 - b3 * c1) + a3 * (b1 * c2 - b2 * c1) := by intros; grind
  have i4 : ∀ s a1 a2 a3 b1 b2 b3 c1 c2 c3 : Int, a1 * (b3 * c1 - b1 * c3) + b1 * (c3 * a1 - c1 * a3) + c1 * (a3 * b1 - a1 * b3) = s * 0 := by intros; grind
  have i5 : ∀ s a1 a2 a3 b1 b2 b3 c1 c2 c3 : Int, a1 * (b1 * c2 - b2 * c1) + b1 * (c1 * a2 - c2 * a1) + c1 * (a1 * b2 - a2 * b1) = s * 0 := by intros; grind
  have i6 : ∀ s a1 a2 a3 b1 b2 b3 c1 c2 c3 : Int, a2 * (b1 * c2 - b2 * c1) + b2 * (c1 * a2 - c2 * a1) + c2 * (a1 * b2 - a2 * b1) = s * 0 := by intros; grind
  have i7 : ∀ a1 a2 a3 b1 b2 b3 c1 c2 c3 : Int, a1 * (b2 * c3 - c2 * b3) - b1 * (a2 * c3 - c2 * a3) + c1 * (a2 * b3 - b2 * a3) = a1 * (b2 * c3 - b3 * c2) - a2 * (b1 * c3 - b3 * c1) + a3 * (b1 * c2 - b2 * c1) := by intros; grind
  obtain ⟨x1, x2, x3⟩ := h.cross
  obtain ⟨hs, aa, bb, cc, ab, ac, bc, d⟩ := h
  obtain ⟨⟨a1, a2, a3⟩, ⟨b1, b2, b3⟩, ⟨c1, c2, c3⟩⟩ := m
  simp only [V3.dot, M3.det, det3, V3.cross, V3.smul, M3.tr, V3.mk.injEq] at aa bb cc ab ac bc d x1 x2 x3 ⊢
  obtain ⟨p1, p2, p3⟩ := x1
  obtain ⟨q1, q2, q3⟩ := x2
  obtain ⟨r1, r2, r3⟩ := x3
  refine ⟨hs, ?_, ?_, ?_, ?_, ?_, ?_, ?_⟩ <;> simp only [V3.dot, M3.det, det3, M3.tr]
  · refine cancel hs ?_
    rw [← pull, ← p1, ← q1, ← r1, ← Int.mul_assoc, ← d]
    exact i1 a1 a2 a3 b1 b2 b3 c1 c2 c3
  · refine cancel hs ?_
    rw [← pull, ← p2, ← q2, ← r2, ← Int.mul_assoc, ← d]
    exact i2 a1 a2 a3 b1 b2 b3 c1 c2 c3
  · refine cancel hs ?_
    rw [← pull, ← p3, ← q3, ← r3, ← Int.mul_assoc, ← d]
    exact i3 a1 a2 a3 b1 b2 b3 c1 c2 c3
  · refine cancel hs ?_
    rw [← pull, ← p2, ← q2, ← r2]
    exact i4 s a1 a2 a3 b1 b2 b3 c1 c2 c3
  · refine cancel hs ?_
    rw [← pull, ← p3, ← q3, ← r3]
    exact i5 s a1 a2 a3 b1 b2 b3 c1 c2 c3
  · refine cancel hs ?_
    rw [← pull, ← p3, ← q3, ← r3]
    exact i6 s a1 a2 a3 b1 b2 b3 c1 c2 c3
  · rw [← d]
    exact i7 a1 a2 a3 b1 b2 b3 c1 c2 c3
/-- the rows y.x, y.y, y.z times -/
def M3.comb (m : M3) (y : V3) : V3 := ⟨y.x * m.a.x + y.y * m.b.x + y.z * m.c.x, y.x * m.a.y + y.y * m.b.y + y.z * m.c.y, y.x * m.a.z + y.y * m.b.z + y.z * m.c.z⟩
theorem Rot.combCross (h : Rot s m) (y y' : V3) : (m.comb y).cross (m.comb y') = V3.smul s (m.comb (y.cross y')) := by
  have I : ∀ u1 u2 u3 v1 v2 v3 a2 a3 b2 b3 c2 c3 : Int, (u1 * a2 + u2 * b2 + u3 * c2) * (v1 * a3 + v2 * b3 + v3 * c3) - (u1 * a3 + u2 * b3 + u3 * c3) * (v1 * a2 + v2 * b2 + v3 * c2) =
    (u2 * v3 - u3 * v2) * (b2 * c3 - b3 * c2) + (u3 * v1 - u1 * v3) * (c2 * a3 - c3 * a2) + (u1 * v2 - u2 * v1) * (a2 * b3 - a3 * b2) := by intros; grind
  have J : ∀ s k1 k2 k3 p q r : Int, k1 * (s * p) + k2 * (s * q) + k3 * (s * r) = s * (k1 * p + k2 * q + k3 * r) := by intros; grind
  obtain ⟨x1, x2, x3⟩ := h.cross
  simp only [V3.cross, V3.smul, V3.mk.injEq] at x1 x2 x3
  obtain ⟨p1, p2, p3⟩ := x1
  obtain ⟨q1, q2, q3⟩ := x2
  obtain ⟨r1, r2, r3⟩ := x3
  refine V3.ext' ?_ ?_ ?_ <;> simp only [V3.cross, V3.smul, M3.comb]
  · rw [I, p1, q1, r1, J]
  · rw [I, p2, q2, r2, J]
  · rw [I, p3, q3, r3, J]
def gens (s : Int) (m : M3) : List V3 := [⟨s, 0, 0⟩, ⟨0, s, 0⟩, ⟨0, 0, s⟩, m.a, m.b, m.c]
theorem span_gens {v : V3} (h : Span (gens s m) v) : ∃ x y : V3, v = (V3.smul s x).add (m.comb y) := by
  induction h with
  | zero => exact ⟨V3.zero, V3.zero, by simp [V3.add, V3.smul, V3.zero, M3.comb]⟩
  | add v r k hr h ih =>
    obtain ⟨x, y, rfl⟩ := ih
    simp only [gens, List.mem_cons, List.not_mem_nil, or_false] at hr
    rcases hr with rfl | rfl | rfl | rfl | rfl | rfl
    · exact ⟨⟨x.x + k, x.y, x.z⟩, y, V3.ext' (by simp only [V3.add, V3.smul, M3.comb]; grind) (by simp only [V3.add, V3.smul, M3.comb]; grind) (by simp only [V3.add, V3.smul, M3.comb]; grind)⟩
    · exact ⟨⟨x.x, x.y + k, x.z⟩, y, V3.ext' (by simp only [V3.add, V3.smul, M3.comb]; grind) (by simp only [V3.add, V3.smul, M3.comb]; grind) (by simp only [V3.add, V3.smul, M3.comb]; grind)⟩
    · exact ⟨⟨x.x, x.y, x.z + k⟩, y, V3.ext' (by simp only [V3.add, V3.smul, M3.comb]; grind) (by simp only [V3.add, V3.smul, M3.comb]; grind) (by simp only [V3.add, V3.smul, M3.comb]; grind)⟩
    · exact ⟨x, ⟨y.x + k, y.y, y.z⟩, V3.ext' (by simp only [V3.add, V3.smul, M3.comb]; grind) (by simp only [V3.add, V3.smul, M3.comb]; grind) (by simp only [V3.add, V3.smul, M3.comb]; grind)⟩
    · exact ⟨x, ⟨y.x, y.y + k, y.z⟩, V3.ext' (by simp only [V3.add, V3.smul, M3.comb]; grind) (by simp only [V3.add, V3.smul, M3.comb]; grind) (by simp only [V3.add, V3.smul, M3.comb]; grind)⟩
    · exact ⟨x, ⟨y.x, y.y, y.z + k⟩, V3.ext' (by simp only [V3.add, V3.smul, M3.comb]; grind) (by simp only [V3.add, V3.smul, M3.comb]; grind) (by simp only [V3.add, V3.smul, M3.comb]; grind)⟩
theorem det_sum (s : Int) (x1 x2 x3 p1 p2 p3 : V3) : det3 ((V3.smul s x1).add p1) ((V3.smul s x2).add p2) ((V3.smul s x3).add p3) =
    s * s * (s * det3 x1 x2 x3 + det3 x1 x2 p3 + det3 x1 p2 x3 + det3 p1 x2 x3) + s * (x1.dot (p2.cross p3) + x2.dot (p3.cross p1) + x3.dot (p1.cross p2)) + p1.dot (p2.cross p3) := by
  obtain ⟨a1, a2, a3⟩ := x1
  obtain ⟨b1, b2, b3⟩ := x2
  obtain ⟨c1, c2, c3⟩ := x3
  obtain ⟨d1, d2, d3⟩ := p1
  obtain ⟨e1, e2, e3⟩ := p2
  obtain ⟨f1, f2, f3⟩ := p3
  simp only [det3, V3.smul, V3.add, V3.dot, V3.cross]
  grind
theorem Rot.dotComb (h : Rot s m) (y y' : V3) : (m.comb y).dot (m.comb y') = s * s * y.dot y' := by
  have I : ∀ a1 a2 a3 b1 b2 b3 c1 c2 c3 u1 u2 u3 v1 v2 v3 : Int, (u1 * a1 + u2 * b1 + u3 * c1) * (v1 * a1 + v2 * b1 + v3 * c1) + (u1 * a2 + u2 * b2 + u3 * c2) * (v1 * a2 + v2 * b2 + v3 * c2) + (u1 * a3 + u2 * b3 + u3 * c3) * (v1 * a3 + v2 * b3 + v3 * c3) =
    u1 * v1 * (a1 * a1 + a2 * a2 + a3 * a3) + u2 * v2 * (b1 * b1 + b2 * b2 + b3 * b3) + u3 * v3 * (c1 * c1 + c2 * c2 + c3 * c3) + (u1 * v2 + u2 * v1) * (a1 * b1 + a2 * b2 + a3 * b3) + (u1 * v3 + u3 * v1) * (a1 * c1 + a2 * c2 + a3 * c3) + (u2 * v3 + u3 * v2) * (b1 * c1 + b2 * c2 + b3 * c3) := by intros; grind
  have J : ∀ s u1 u2 u3 v1 v2 v3 : Int, u1 * v1 * (s * s) + u2 * v2 * (s * s) + u3 * v3 * (s * s) + (u1 * v2 + u2 * v1) * 0 + (u1 * v3 + u3 * v1) * 0 + (u2 * v3 + u3 * v2) * 0 = s * s * (u1 * v1 + u2 * v2 + u3 * v3) := by intros; grind
  obtain ⟨hs, aa, bb, cc, ab, ac, bc, d⟩ := h
  simp only [V3.dot] at aa bb cc ab ac bc
  simp only [V3.dot, M3.comb]
  rw [I, aa, bb, cc, ab, ac, bc, J]
theorem dot_smul (u v : V3) (k : Int) : u.dot (V3.smul k v) = k * u.dot v := by
  simp only [V3.dot, V3.smul]
  grind
/-- s * s divides the determinant of any three points that s and the rows make -/
theorem Rot.dvd (h : Rot s m) {u v w : V3} (hu : Span (gens s m) u) (hv : Span (gens s m) v) (hw : Span (gens s m) w) : s * s ∣ det3 u v w := by
  obtain ⟨x1, y1, rfl⟩ := span_gens hu
  obtain ⟨x2, y2, rfl⟩ := span_gens hv
  obtain ⟨x3, y3, rfl⟩ := span_gens hw
  rw [det_sum, h.combCross, h.combCross, h.combCross, dot_smul, dot_smul, dot_smul, dot_smul, h.dotComb]
  refine ⟨s * det3 x1 x2 x3 + det3 x1 x2 (m.comb y3) + det3 x1 (m.comb y2) x3 + det3 (m.comb y1) x2 x3 + (x1.dot (m.comb (y2.cross y3)) + x2.dot (m.comb (y3.cross y1)) + x3.dot (m.comb (y1.cross y2))) + s * y1.dot (y2.cross y3), ?_⟩
  grind
end
end Tp
end

section
set_option autoImplicit false
set_option maxHeartbeats 4000000
set_option linter.all false
namespace Tp
/-- the greatest divisor of some integers, folded -/
def gcdL (ns : List Int) : Int := ns.foldl (fun g n => ((Nat.gcd g.natAbs n.natAbs : Nat) : Int)) 0
theorem gcd_fold : ∀ (ns : List Int) (g : Int), 0 ≤ g → 0 ≤ ns.foldl (fun g n => ((Nat.gcd g.natAbs n.natAbs : Nat) : Int)) g ∧
    ns.foldl (fun g n => ((Nat.gcd g.natAbs n.natAbs : Nat) : Int)) g ∣ g ∧ (∀ n ∈ ns, ns.foldl (fun g n => ((Nat.gcd g.natAbs n.natAbs : Nat) : Int)) g ∣ n) ∧
    ∀ k d : Int, d ∣ k * g → (∀ n ∈ ns, d ∣ k * n) → d ∣ k * ns.foldl (fun g n => ((Nat.gcd g.natAbs n.natAbs : Nat) : Int)) g
  | [], g, h0 => ⟨h0, Int.dvd_refl g, (fun _ h => by cases h), fun k d h _ => h⟩
  | n :: ns, g, h0 => by
    obtain ⟨r1, r2, r3, r4⟩ := gcd_fold ns ((Nat.gcd g.natAbs n.natAbs : Nat) : Int) (Int.natCast_nonneg _)
    have d1 : ((Nat.gcd g.natAbs n.natAbs : Nat) : Int) ∣ g := Int.natAbs_dvd_natAbs.mp (by simpa using Nat.gcd_dvd_left g.natAbs n.natAbs)
    have d2 : ((Nat.gcd g.natAbs n.natAbs : Nat) : Int) ∣ n := Int.natAbs_dvd_natAbs.mp (by simpa using Nat.gcd_dvd_right g.natAbs n.natAbs)
    refine ⟨r1, Int.dvd_trans r2 d1, fun m hm => ?_, fun k d hg hn => ?_⟩
    · rcases List.mem_cons.mp hm with rfl | hm
      · exact Int.dvd_trans r2 d2
      · exact r3 m hm
    · refine r4 k d ?_ fun m hm => hn m (List.mem_cons_of_mem _ hm)
      have e1 := hn n List.mem_cons_self
      have a1 : d.natAbs ∣ k.natAbs * g.natAbs := by rw [← Int.natAbs_mul]; exact Int.natAbs_dvd_natAbs.mpr hg
      have a2 : d.natAbs ∣ k.natAbs * n.natAbs := by rw [← Int.natAbs_mul]; exact Int.natAbs_dvd_natAbs.mpr e1
      have a3 : d.natAbs ∣ k.natAbs * Nat.gcd g.natAbs n.natAbs := by
        rw [← Nat.gcd_mul_left]
        exact Nat.dvd_gcd a1 a2
      refine Int.natAbs_dvd_natAbs.mp ?_
      rw [Int.natAbs_mul]
      simpa using a3
theorem gcdL_nonneg (ns : List Int) : 0 ≤ gcdL ns := (gcd_fold ns 0 (Int.le_refl 0)).1
theorem gcdL_dvd {ns : List Int} {n : Int} (h : n ∈ ns) : gcdL ns ∣ n := (gcd_fold ns 0 (Int.le_refl 0)).2.2.1 n h
theorem gcdL_greatest {ns : List Int} {k d : Int} (h : ∀ n ∈ ns, d ∣ k * n) : d ∣ k * gcdL ns := (gcd_fold ns 0 (Int.le_refl 0)).2.2.2 k d (by rw [Int.mul_zero]; exact Int.dvd_zero d) h
def M3.list (m : M3) : List Int := [m.a.x, m.a.y, m.a.z, m.b.x, m.b.y, m.b.z, m.c.x, m.c.y, m.c.z]

/-! ### the told base -/
structure Hnf (m : M3) : Prop where
  bx : m.b.x = 0
  cx : m.c.x = 0
  cy : m.c.y = 0
  pa : 0 < m.a.x
  pb : 0 < m.b.y
  pc : 0 < m.c.z
  ay : 0 ≤ m.a.y ∧ m.a.y < m.b.y
  az : 0 ≤ m.a.z ∧ m.a.z < m.c.z
  bz : 0 ≤ m.b.z ∧ m.b.z < m.c.z
theorem Hnf.det {m : M3} (h : Hnf m) : m.det = m.a.x * m.b.y * m.c.z := by
  simp only [M3.det, det3, h.bx, h.cx, h.cy]
  grind
theorem Hnf.detPos {m : M3} (h : Hnf m) : 0 < m.det := by
  rw [h.det]
  exact Int.mul_pos (Int.mul_pos h.pa h.pb) h.pc
theorem pos_eq {a b : Int} (ha : 0 < a) (hb : 0 < b) (h1 : a ∣ b) (h2 : b ∣ a) : a = b := Int.le_antisymm (Int.le_of_dvd hb h1) (Int.le_of_dvd ha h2)
section
variable {s : Int} {m B : M3}
/-- the steps of the base of s and the rows: s * s in all -/
theorem base_index (h : Rot s m) (hg : gcdL (s :: m.list) = 1) (hb : Hnf B) (he : SpanEq B.rows (gens s m)) : B.det = s * s := by
  have mem : ∀ r ∈ gens s m, Span B.rows r := fun r hr => (he r).mpr (Span.mem hr)
  have ins : ∀ r ∈ B.rows, Span (gens s m) r := fun r hr => (he r).mp (Span.mem hr)
  have d1 : s * s ∣ B.det := h.dvd (ins B.a (by simp [M3.rows])) (ins B.b (by simp [M3.rows])) (ins B.c (by simp [M3.rows]))
  have e1 := mem ⟨s, 0, 0⟩ (by simp [gens])
  have e2 := mem ⟨0, s, 0⟩ (by simp [gens])
  have e3 := mem ⟨0, 0, s⟩ (by simp [gens])
  have ra := mem m.a (by simp [gens])
  have rb := mem m.b (by simp [gens])
  have rc := mem m.c (by simp [gens])
  have d2 : B.det ∣ s * s * gcdL (s :: m.list) := by
    have fx : ∀ r : V3, det3 ⟨0, s, 0⟩ ⟨0, 0, s⟩ r = s * s * r.x := fun r => by simp only [det3]; grind
    have fy : ∀ r : V3, det3 ⟨0, 0, s⟩ ⟨s, 0, 0⟩ r = s * s * r.y := fun r => by simp only [det3]; grind
    have fz : ∀ r : V3, det3 ⟨s, 0, 0⟩ ⟨0, s, 0⟩ r = s * s * r.z := fun r => by simp only [det3]; grind
    have gx : ∀ r : V3, Span B.rows r → B.det ∣ s * s * r.x := fun r hr => by rw [← fx]; exact det_dvd e2 e3 hr
    have gy : ∀ r : V3, Span B.rows r → B.det ∣ s * s * r.y := fun r hr => by rw [← fy]; exact det_dvd e3 e1 hr
    have gz : ∀ r : V3, Span B.rows r → B.det ∣ s * s * r.z := fun r hr => by rw [← fz]; exact det_dvd e1 e2 hr
    refine gcdL_greatest fun n hn => ?_
    simp only [M3.list, List.mem_cons, List.not_mem_nil, or_false] at hn
    rcases hn with rfl | rfl | rfl | rfl | rfl | rfl | rfl | rfl | rfl | rfl
    · exact gz _ e3
    · exact gx _ ra
    · exact gy _ ra
    · exact gz _ ra
    · exact gx _ rb
    · exact gy _ rb
    · exact gz _ rb
    · exact gx _ rc
    · exact gy _ rc
    · exact gz _ rc
  rw [hg, Int.mul_one] at d2
  exact pos_eq hb.detPos (Int.mul_pos h.pos h.pos) d2 d1

/-! ### the rows that lead each row of the base to s times whole numbers -/
structure Dual (s : Int) (B M : M3) : Prop where
  ay : M.a.y = 0
  az : M.a.z = 0
  bz : M.b.z = 0
  ax : M.a.x * B.a.x = s
  by_ : M.b.y * B.b.y = s
  cz : M.c.z * B.c.z = s
  ab : M.a.x * B.a.y + M.b.x * B.b.y = 0
  ac : M.a.x * B.a.z + M.b.x * B.b.z + M.c.x * B.c.z = 0
  bc : M.b.y * B.b.z + M.c.y * B.c.z = 0
/-- there are such rows, if the base makes s times each point -/
theorem dual_ex (hb : Hnf B) (e1 : Span B.rows ⟨s, 0, 0⟩) (e2 : Span B.rows ⟨0, s, 0⟩) (e3 : Span B.rows ⟨0, 0, s⟩) : ∃ M, Dual s B M := by
  obtain ⟨i1, j1, k1, p1, p2, p3⟩ := span_rows e1
  obtain ⟨i2, j2, k2, q1, q2, q3⟩ := span_rows e2
  obtain ⟨i3, j3, k3, r1, r2, r3⟩ := span_rows e3
  have zero : ∀ (i a : Int), 0 < a → 0 = i * a → i = 0 := fun i a ha h => (Int.mul_eq_zero.mp h.symm).resolve_right (by omega)
  simp only [hb.bx, hb.cx, hb.cy, Int.mul_zero, Int.add_zero] at p1 p2 q1 q2 r1 r2
  have z2 := zero _ _ hb.pa q1
  have z3 := zero _ _ hb.pa r1
  subst z2
  subst z3
  simp only [Int.zero_mul, Int.zero_add] at q2 q3 r2 r3
  have z4 := zero _ _ hb.pb r2
  subst z4
  simp only [Int.zero_mul, Int.zero_add] at r3
  exact ⟨⟨⟨i1, 0, 0⟩, ⟨j1, j2, 0⟩, ⟨k1, k2, k3⟩⟩, rfl, rfl, rfl, p1.symm, q2.symm, r3.symm, p2.symm, p3.symm, q3.symm⟩


theorem Dual.dots (hs : 0 < s) {M : M3} (hb : Hnf B) (d : Dual s B M) : B.a.dot M.a = s ∧ B.a.dot M.b = 0 ∧ B.a.dot M.c = 0 ∧ B.b.dot M.a = 0 ∧ B.b.dot M.b = s ∧ B.b.dot M.c = 0 ∧ B.c.dot M.a = 0 ∧ B.c.dot M.b = 0 ∧ B.c.dot M.c = s := by
  obtain ⟨⟨a, b, c⟩, ⟨b1, d2, e⟩, ⟨c1, c2, f⟩⟩ := B
  obtain ⟨⟨i1, i2, i3⟩, ⟨j1, j2, j3⟩, ⟨k1, k2, k3⟩⟩ := M
  obtain ⟨hbx, hcx, hcy, pa, pb, pc, _, _, _⟩ := hb
  obtain ⟨day, daz, dbz, dax, dby, dcz, dab, dac, dbc⟩ := d
  simp only at hbx hcx hcy pa pb pc day daz dbz dax dby dcz dab dac dbc
  subst hbx hcx hcy day daz dbz
  have ni : i1 ≠ 0 := fun z => by rw [z, Int.zero_mul] at dax; omega
  have nj : j2 ≠ 0 := fun z => by rw [z, Int.zero_mul] at dby; omega
  have y1 : d2 * k2 + e * k3 = 0 := by
    have q : j2 * (d2 * k2 + e * k3) = 0 := by
      have q1 : j2 * (d2 * k2 + e * k3) = (j2 * d2) * k2 + (j2 * e + k2 * f) * k3 - k2 * (k3 * f) := by grind
      rw [q1, dby, dbc, dcz, Int.zero_mul, Int.add_zero, Int.mul_comm]
      exact Int.sub_self _
    exact (Int.mul_eq_zero.mp q).resolve_left nj
  have y2 : a * j1 + b * j2 = 0 := by
    have q : i1 * (a * j1 + b * j2) = 0 := by
      have q1 : i1 * (a * j1 + b * j2) = (i1 * a) * j1 + (i1 * b + j1 * d2) * j2 - j1 * (j2 * d2) := by grind
      rw [q1, dax, dab, dby, Int.zero_mul, Int.add_zero, Int.mul_comm]
      exact Int.sub_self _
    exact (Int.mul_eq_zero.mp q).resolve_left ni
  have y3 : a * k1 + b * k2 + c * k3 = 0 := by
    have q : i1 * (a * k1 + b * k2 + c * k3) = 0 := by
      have q1 : i1 * (a * k1 + b * k2 + c * k3) = (i1 * a) * k1 + (i1 * b + j1 * d2) * k2 + (i1 * c + j1 * e + k1 * f) * k3 - j1 * (d2 * k2 + e * k3) - k1 * (k3 * f) := by grind
      rw [q1, dax, dab, dac, y1, dcz, Int.zero_mul, Int.zero_mul, Int.mul_zero, Int.add_zero, Int.add_zero, Int.sub_zero, Int.mul_comm]
      exact Int.sub_self _
    exact (Int.mul_eq_zero.mp q).resolve_left ni
  simp only [V3.dot]
  refine ⟨?_, ?_, ?_, ?_, ?_, ?_, ?_, ?_, ?_⟩
  · rw [Int.mul_zero, Int.mul_zero, Int.add_zero, Int.add_zero, Int.mul_comm, dax]
  · rw [Int.mul_zero, Int.add_zero, y2]
  · exact y3
  · rw [Int.mul_zero, Int.mul_zero, Int.zero_mul, Int.add_zero, Int.add_zero]
  · rw [Int.zero_mul, Int.mul_zero, Int.add_zero, Int.zero_add, Int.mul_comm, dby]
  · rw [Int.zero_mul, Int.zero_add, y1]
  · rw [Int.mul_zero, Int.mul_zero, Int.zero_mul, Int.add_zero, Int.add_zero]
  · rw [Int.zero_mul, Int.zero_mul, Int.mul_zero, Int.add_zero, Int.add_zero]
  · rw [Int.zero_mul, Int.zero_mul, Int.zero_add, Int.zero_add, Int.mul_comm, dcz]
theorem Dual.dvd {M : M3} (hs : 0 < s) (hb : Hnf B) (d : Dual s B M) {v w : V3} (hv : Span B.rows v) (hw : Span M.rows w) : s ∣ v.dot w := by
  obtain ⟨i, j, k, e1, e2, e3⟩ := span_rows hv
  obtain ⟨p, q, t, f1, f2, f3⟩ := span_rows hw
  obtain ⟨y1, y2, y3, y4, y5, y6, y7, y8, y9⟩ := d.dots hs hb
  have I : ∀ a1 a2 a3 b1 b2 b3 c1 c2 c3 u1 u2 u3 v1 v2 v3 w1 w2 w3 i j k p q t : Int, (i * a1 + j * b1 + k * c1) * (p * u1 + q * v1 + t * w1) + (i * a2 + j * b2 + k * c2) * (p * u2 + q * v2 + t * w2) + (i * a3 + j * b3 + k * c3) * (p * u3 + q * v3 + t * w3) =
    i * p * (a1 * u1 + a2 * u2 + a3 * u3) + i * q * (a1 * v1 + a2 * v2 + a3 * v3) + i * t * (a1 * w1 + a2 * w2 + a3 * w3) + j * p * (b1 * u1 + b2 * u2 + b3 * u3) + j * q * (b1 * v1 + b2 * v2 + b3 * v3) + j * t * (b1 * w1 + b2 * w2 + b3 * w3) + k * p * (c1 * u1 + c2 * u2 + c3 * u3) + k * q * (c1 * v1 + c2 * v2 + c3 * v3) + k * t * (c1 * w1 + c2 * w2 + c3 * w3) := by intros; grind
  have J : ∀ s i j k p q t : Int, i * p * s + i * q * 0 + i * t * 0 + j * p * 0 + j * q * s + j * t * 0 + k * p * 0 + k * q * 0 + k * t * s = s * (i * p + j * q + k * t) := by intros; grind
  refine ⟨i * p + j * q + k * t, ?_⟩
  simp only [V3.dot] at y1 y2 y3 y4 y5 y6 y7 y8 y9
  simp only [V3.dot, e1, e2, e3, f1, f2, f3]
  rw [I, y1, y2, y3, y4, y5, y6, y7, y8, y9, J]
/-- these rows make s times each point, too -/
theorem Dual.full {M : M3} (hb : Hnf B) (d : Dual s B M) : Span M.rows ⟨s, 0, 0⟩ ∧ Span M.rows ⟨0, s, 0⟩ ∧ Span M.rows ⟨0, 0, s⟩ := by
  have ma : Span M.rows M.a := Span.mem (by simp [M3.rows])
  have mb : Span M.rows M.b := Span.mem (by simp [M3.rows])
  have mc : Span M.rows M.c := Span.mem (by simp [M3.rows])
  obtain ⟨day, daz, dbz, dax, dby, dcz, dab, dac, dbc⟩ := d
  refine ⟨?_, ?_, ?_⟩
  · have q : V3.smul B.a.x M.a = ⟨s, 0, 0⟩ := V3.ext' (by simp only [V3.smul]; rw [Int.mul_comm, dax]) (by simp only [V3.smul]; rw [day, Int.mul_zero]) (by simp only [V3.smul]; rw [daz, Int.mul_zero])
    rw [← q]
    exact ma.smulv _
  · have q : (V3.smul B.a.y M.a).add (V3.smul B.b.y M.b) = ⟨0, s, 0⟩ := V3.ext' (by simp only [V3.smul, V3.add]; rw [Int.mul_comm, Int.mul_comm B.b.y, dab]) (by simp only [V3.smul, V3.add]; rw [day, Int.mul_zero, Int.zero_add, Int.mul_comm, dby]) (by simp only [V3.smul, V3.add]; rw [daz, dbz, Int.mul_zero, Int.mul_zero]; rfl)
    rw [← q]
    exact (ma.smulv _).addv (mb.smulv _)
  · have q : ((V3.smul B.a.z M.a).add (V3.smul B.b.z M.b)).add (V3.smul B.c.z M.c) = ⟨0, 0, s⟩ := V3.ext' (by simp only [V3.smul, V3.add]; rw [Int.mul_comm, Int.mul_comm B.b.z, Int.mul_comm B.c.z, dac]) (by simp only [V3.smul, V3.add]; rw [day, Int.mul_zero, Int.zero_add, Int.mul_comm, Int.mul_comm B.c.z, dbc]) (by simp only [V3.smul, V3.add]; rw [daz, dbz, Int.mul_zero, Int.mul_zero, Int.zero_add, Int.zero_add, Int.mul_comm, dcz])
    rw [← q]
    exact ((ma.smulv _).addv (mb.smulv _)).addv (mc.smulv _)
theorem Dual.det {M : M3} (hs : 0 < s) (hb : Hnf B) (d : Dual s B M) (h : B.det = s * s) : M.det = s := by
  have e : M.det = M.a.x * M.b.y * M.c.z := by
    simp only [M3.det, det3, d.ay, d.az, d.bz]
    grind
  have q : s * s * M.det = s * s * s := by
    have r : B.det * M.det = (M.a.x * B.a.x) * (M.b.y * B.b.y) * (M.c.z * B.c.z) := by
      rw [hb.det, e]
      grind
    rw [d.ax, d.by_, d.cz, h] at r
    exact r
  exact cancel (Int.mul_pos hs hs) q
/-- what the told base of these rows is -/
theorem dual_base {M B2 : M3} (hs : 0 < s) (hb : Hnf B) (d : Dual s B M) (h : B.det = s * s) (h2 : Hnf B2) (e : SpanEq B2.rows M.rows) : B2.det = s ∧ ∀ r ∈ B2.rows, ∀ v, Span B.rows v → s ∣ v.dot r := by
  have hM := d.det hs hb h
  refine ⟨pos_eq h2.detPos hs ?_ ?_, fun r hr v hv => d.dvd hs hb hv ((e r).mp (Span.mem hr))⟩
  · rw [← hM]
    exact det_dvd ((e _).mpr (Span.mem (by simp [M3.rows]))) ((e _).mpr (Span.mem (by simp [M3.rows]))) ((e _).mpr (Span.mem (by simp [M3.rows])))
  · have q : M.det ∣ B2.det := det_dvd ((e _).mp (Span.mem (by simp [M3.rows]))) ((e _).mp (Span.mem (by simp [M3.rows]))) ((e _).mp (Span.mem (by simp [M3.rows])))
    rw [hM] at q
    exact q
theorem abs_le_of_mul {k b i f : Int} (hf : 0 < f) (h : k * f = -(i * b)) (hi : 0 ≤ i) (hb : 0 ≤ b ∧ b < f) : -i ≤ k ∧ k ≤ i := by
  have h1 : i * b ≤ i * f := Int.mul_le_mul_of_nonneg_left (by omega) hi
  have h0 : 0 ≤ i * b := Int.mul_nonneg hi hb.1
  constructor
  · refine Int.le_of_mul_le_mul_right (a := f) ?_ hf
    rw [h, Int.neg_mul]
    omega
  · refine Int.le_of_mul_le_mul_right (a := f) ?_ hf
    rw [h]
    omega
theorem le_of_mul {i a : Int} (hs : 0 < s) (ha : 0 < a) (h : i * a = s) : 0 < i ∧ i ≤ s := by
  have hi : 0 < i := by
    refine Int.lt_of_mul_lt_mul_right (a := a) ?_ (Int.le_of_lt ha)
    rw [Int.zero_mul, h]
    exact hs
  refine ⟨hi, ?_⟩
  rw [← h]
  have q : i * 1 ≤ i * a := Int.mul_le_mul_of_nonneg_left (by omega) (by omega)
  rw [Int.mul_one] at q
  exact q
theorem Dual.small {M : M3} (hs : 0 < s) (hb : Hnf B) (d : Dual s B M) : ∀ r ∈ M.rows, ∀ j, -(2 * s) ≤ r.get j ∧ r.get j ≤ 2 * s := by
  obtain ⟨i0, i1⟩ := le_of_mul hs hb.pa d.ax
  obtain ⟨j0, j1⟩ := le_of_mul hs hb.pb d.by_
  obtain ⟨k0, k1⟩ := le_of_mul hs hb.pc d.cz
  have x1 := abs_le_of_mul (k := M.b.x) (i := M.a.x) hb.pb (by have := d.ab; omega) (by omega) hb.ay
  have x2 := abs_le_of_mul (k := M.c.y) (i := M.b.y) hb.pc (by have := d.bc; omega) (by omega) hb.bz
  have x3 : -(2 * M.a.x) ≤ M.c.x ∧ M.c.x ≤ 2 * M.a.x := by
    have e := d.ac
    have h1 : 0 ≤ M.a.x * B.a.z := Int.mul_nonneg (by omega) hb.az.1
    have h2 : M.a.x * B.a.z ≤ M.a.x * B.c.z := Int.mul_le_mul_of_nonneg_left (by have := hb.az; omega) (by omega)
    have h3 : M.b.x * B.b.z ≤ M.a.x * B.b.z := Int.mul_le_mul_of_nonneg_right (by omega) hb.bz.1
    have h4 : (-M.a.x) * B.b.z ≤ M.b.x * B.b.z := Int.mul_le_mul_of_nonneg_right (by omega) hb.bz.1
    have h5 : M.a.x * B.b.z ≤ M.a.x * B.c.z := Int.mul_le_mul_of_nonneg_left (by have := hb.bz; omega) (by omega)
    rw [Int.neg_mul] at h4
    constructor
    · refine Int.le_of_mul_le_mul_right (a := B.c.z) ?_ hb.pc
      rw [Int.neg_mul, Int.mul_assoc]
      omega
    · refine Int.le_of_mul_le_mul_right (a := B.c.z) ?_ hb.pc
      rw [Int.mul_assoc]
      omega
  intro r hr j
  simp only [M3.rows, List.mem_cons, List.not_mem_nil, or_false] at hr
  have e1 := d.ay
  have e2 := d.az
  have e3 := d.bz
  rcases hr with rfl | rfl | rfl
  · match j with
    | 0 => simp only [V3.get]; omega
    | 1 => simp only [V3.get]; omega
    | n + 2 => simp only [V3.get]; omega
  · match j with
    | 0 => simp only [V3.get]; omega
    | 1 => simp only [V3.get]; omega
    | n + 2 => simp only [V3.get]; omega
  · match j with
    | 0 => simp only [V3.get]; omega
    | 1 => simp only [V3.get]; omega
    | n + 2 => simp only [V3.get]; omega
/-- the quotients that the program takes -/
theorem Dual.quot {M : M3} (d : Dual s B M) : s * (B.b.y * B.c.z) = M.a.x * (B.a.x * B.b.y * B.c.z) ∧ s * (-B.a.y * B.c.z) = M.b.x * (B.a.x * B.b.y * B.c.z) ∧ s * (B.a.y * B.b.z - B.a.z * B.b.y) = M.c.x * (B.a.x * B.b.y * B.c.z) ∧
    s * (B.a.x * B.c.z) = M.b.y * (B.a.x * B.b.y * B.c.z) ∧ s * (-B.a.x * B.b.z) = M.c.y * (B.a.x * B.b.y * B.c.z) ∧ s * (B.a.x * B.b.y) = M.c.z * (B.a.x * B.b.y * B.c.z) := by
  obtain ⟨⟨a, b, c⟩, ⟨b1, d2, e⟩, ⟨c1, c2, f⟩⟩ := B
  obtain ⟨⟨i1, i2, i3⟩, ⟨j1, j2, j3⟩, ⟨k1, k2, k3⟩⟩ := M
  obtain ⟨day, daz, dbz, dax, dby, dcz, dab, dac, dbc⟩ := d
  simp only at day daz dbz dax dby dcz dab dac dbc ⊢
  have g1 : j1 * d2 = -(i1 * b) := by omega
  have g2 : k1 * f = -(i1 * c) - j1 * e := by omega
  have g3 : k2 * f = -(j2 * e) := by omega
  refine ⟨?_, ?_, ?_, ?_, ?_, ?_⟩
  · rw [← dax]
    grind
  · have q : j1 * (a * d2 * f) = (j1 * d2) * (a * f) := by grind
    rw [q, g1, ← dax]
    grind
  · have q : k1 * (a * d2 * f) = (k1 * f) * (a * d2) := by grind
    have q2 : (-(i1 * c) - j1 * e) * (a * d2) = -(i1 * a) * (c * d2) - (j1 * d2) * (a * e) := by grind
    rw [q, g2, q2, g1, dax, ← dax]
    grind
  · rw [← dby]
    grind
  · have q : k2 * (a * d2 * f) = (k2 * f) * (a * d2) := by grind
    rw [q, g3, ← dby]
    grind
  · rw [← dcz]
    grind
end
end Tp
end

section
set_option autoImplicit false
set_option maxHeartbeats 4000000
set_option linter.all false
namespace Tp
/-- four integers -/
structure Q4 where
  a : Int
  b : Int
  c : Int
  d : Int
  deriving DecidableEq
namespace Q4
def list (q : Q4) : List Int := [q.a, q.b, q.c, q.d]
def sq (q : Q4) : Int := q.a * q.a + q.b * q.b + q.c * q.c + q.d * q.d
/-- the rows as the program writes them -/
def rot (q : Q4) : M3 :=
  ⟨⟨q.a * q.a + q.b * q.b - q.c * q.c - q.d * q.d, 2 * (q.b * q.c - q.a * q.d), 2 * (q.b * q.d + q.a * q.c)⟩,
   ⟨2 * (q.b * q.c + q.a * q.d), q.a * q.a - q.b * q.b + q.c * q.c - q.d * q.d, 2 * (q.c * q.d - q.a * q.b)⟩,
   ⟨2 * (q.b * q.d - q.a * q.c), 2 * (q.c * q.d + q.a * q.b), q.a * q.a - q.b * q.b - q.c * q.c + q.d * q.d⟩⟩
def smul (k : Int) (q : Q4) : Q4 := ⟨k * q.a, k * q.b, k * q.c, k * q.d⟩
end Q4
theorem rot_dots (q : Q4) : q.rot.a.dot q.rot.a = q.sq * q.sq ∧ q.rot.b.dot q.rot.b = q.sq * q.sq ∧ q.rot.c.dot q.rot.c = q.sq * q.sq ∧ q.rot.a.dot q.rot.b = 0 ∧ q.rot.a.dot q.rot.c = 0 ∧ q.rot.b.dot q.rot.c = 0 ∧ q.rot.det = q.sq * q.sq * q.sq := by
  obtain ⟨a, b, c, d⟩ := q
  simp only [Q4.rot, Q4.sq, V3.dot, M3.det, det3]
  refine ⟨?_, ?_, ?_, ?_, ?_, ?_, ?_⟩ <;> grind
theorem rot_smul (k : Int) (q : Q4) : (Q4.smul k q).sq = k * k * q.sq ∧ (Q4.smul k q).rot.list = q.rot.list.map (fun x => k * k * x) := by
  obtain ⟨a, b, c, d⟩ := q
  simp only [Q4.rot, Q4.sq, Q4.smul, M3.list, List.map]
  refine ⟨by grind, ?_⟩
  congr 1
  · grind
  congr 1
  · grind
  congr 1
  · grind
  congr 1
  · grind
  congr 1
  · grind
  congr 1
  · grind
  congr 1
  · grind
  congr 1
  · grind
  congr 1
  grind
/-- the greatest divisor of multiples -/
theorem gcdL_smul {k : Int} (hk : 0 ≤ k) (ns : List Int) : gcdL (ns.map fun x => k * x) = k * gcdL ns := by
  have h1 : k * gcdL ns ∣ gcdL (ns.map fun x => k * x) := by
    have q := gcdL_greatest (ns := ns.map fun x => k * x) (k := 1) (d := k * gcdL ns) fun n hn => by
      obtain ⟨x, hx, rfl⟩ := List.mem_map.mp hn
      rw [Int.one_mul]
      exact Int.mul_dvd_mul_left k (gcdL_dvd hx)
    rw [Int.one_mul] at q
    exact q
  have h2 : gcdL (ns.map fun x => k * x) ∣ k * gcdL ns := gcdL_greatest fun n hn => gcdL_dvd (List.mem_map.mpr ⟨n, hn, rfl⟩)
  have p1 := gcdL_nonneg (ns.map fun x => k * x)
  have p2 : 0 ≤ k * gcdL ns := Int.mul_nonneg hk (gcdL_nonneg ns)
  exact Int.dvd_antisymm p1 p2 h2 h1
theorem gcdL_map_div {g : Int} (hg : 0 < g) {ns : List Int} (h : ∀ n ∈ ns, g ∣ n) : (ns.map fun n => n.fdiv g).map (fun x => g * x) = ns := by
  rw [List.map_map]
  refine (List.map_congr_left fun n hn => ?_).trans (List.map_id _)
  obtain ⟨k, rfl⟩ := h n hn
  simp only [Function.comp, id]
  rw [Int.mul_fdiv_cancel_left _ (by omega)]
/-- divided by the greatest divisor: coprime -/
theorem gcdL_lowest {ns : List Int} (hg : 0 < gcdL ns) : gcdL (ns.map fun n => n.fdiv (gcdL ns)) = 1 := by
  have e := gcdL_map_div hg fun n hn => gcdL_dvd hn
  have q := gcdL_smul (Int.le_of_lt hg) (ns.map fun n => n.fdiv (gcdL ns))
  rw [e] at q
  refine cancel hg ?_
  rw [← q, Int.mul_one]
theorem gcdL_pos {ns : List Int} {n : Int} (h : n ∈ ns) (h0 : n ≠ 0) : 0 < gcdL ns := by
  have h1 := gcdL_nonneg ns
  have h2 := gcdL_dvd h
  rcases Int.lt_or_eq_of_le h1 with h3 | h3
  · exact h3
  · rw [← h3] at h2
    exact absurd (Int.zero_dvd.mp h2) h0

/-! ### the turn of a number -/
def M3.fdiv (m : M3) (g : Int) : M3 := ⟨⟨m.a.x.fdiv g, m.a.y.fdiv g, m.a.z.fdiv g⟩, ⟨m.b.x.fdiv g, m.b.y.fdiv g, m.b.z.fdiv g⟩, ⟨m.c.x.fdiv g, m.c.y.fdiv g, m.c.z.fdiv g⟩⟩
theorem M3.fdiv_list (m : M3) (g : Int) : (m.fdiv g).list = m.list.map fun n => n.fdiv g := rfl
def turnGcd (q : Q4) : Int := gcdL (q.sq :: q.rot.list)
theorem sq_pos {q : Q4} (h : q ≠ ⟨0, 0, 0, 0⟩) : 0 < q.sq := by
  have s : ∀ x : Int, 0 ≤ x * x := fun x => by
    rcases Int.le_total 0 x with h | h
    · exact Int.mul_nonneg h h
    · have := Int.mul_nonneg (show 0 ≤ -x by omega) (show 0 ≤ -x by omega)
      rwa [Int.neg_mul_neg] at this
  have p : ∀ x : Int, x ≠ 0 → 0 < x * x := fun x hx => (Int.lt_or_eq_of_le (s x)).resolve_right fun z => hx ((Int.mul_eq_zero.mp z.symm).elim id id)
  obtain ⟨a, b, c, d⟩ := q
  simp only [Q4.sq]
  have ha := s a
  have hb := s b
  have hc := s c
  have hd := s d
  by_cases h1 : a = 0
  · by_cases h2 : b = 0
    · by_cases h3 : c = 0
      · by_cases h4 : d = 0
        · subst h1 h2 h3 h4
          exact absurd rfl h
        · have := p d h4
          omega
      · have := p c h3
        omega
    · have := p b h2
      omega
  · have := p a h1
    omega
theorem turnGcd_pos {q : Q4} (h : q ≠ ⟨0, 0, 0, 0⟩) : 0 < turnGcd q := gcdL_pos List.mem_cons_self (by have := sq_pos h; omega)
/-- in lowest terms it is a turn -/
theorem turn_rot {q : Q4} (h : q ≠ ⟨0, 0, 0, 0⟩) : Rot (q.sq.fdiv (turnGcd q)) (q.rot.fdiv (turnGcd q)) ∧ gcdL (q.sq.fdiv (turnGcd q) :: (q.rot.fdiv (turnGcd q)).list) = 1 := by
  have hg := turnGcd_pos h
  have hs := sq_pos h
  refine ⟨?_, by rw [M3.fdiv_list]; exact gcdL_lowest hg⟩
  obtain ⟨d1, d2, d3, d4, d5, d6, d7⟩ := rot_dots q
  have dv : ∀ n ∈ q.sq :: q.rot.list, n = turnGcd q * n.fdiv (turnGcd q) := fun n hn => by
    obtain ⟨k, hk⟩ := gcdL_dvd hn
    have hk' : n = turnGcd q * k := hk
    rw [hk', Int.mul_fdiv_cancel_left _ (by omega)]
  generalize turnGcd q = g at *
  have e0 := dv q.sq (by simp)
  have e1 := dv q.rot.a.x (by simp [M3.list])
  have e2 := dv q.rot.a.y (by simp [M3.list])
  have e3 := dv q.rot.a.z (by simp [M3.list])
  have e4 := dv q.rot.b.x (by simp [M3.list])
  have e5 := dv q.rot.b.y (by simp [M3.list])
  have e6 := dv q.rot.b.z (by simp [M3.list])
  have e7 := dv q.rot.c.x (by simp [M3.list])
  have e8 := dv q.rot.c.y (by simp [M3.list])
  have e9 := dv q.rot.c.z (by simp [M3.list])
  clear dv
  have hg2 : 0 < g * g := Int.mul_pos hg hg
  have hg3 : 0 < g * g * g := Int.mul_pos hg2 hg
  have I : ∀ g a b c u v w : Int, g * g * (a * u + b * v + c * w) = (g * a) * (g * u) + (g * b) * (g * v) + (g * c) * (g * w) := by intros; grind
  have J : ∀ g s : Int, g * g * (s * s) = (g * s) * (g * s) := by intros; grind
  have J3 : ∀ g s : Int, g * g * g * (s * s * s) = (g * s) * (g * s) * (g * s) := by intros; grind
  have K : ∀ g a b c u v w x y z : Int, g * g * g * (a * (v * z - w * y) - b * (u * z - w * x) + c * (u * y - v * x)) = (g * a) * ((g * v) * (g * z) - (g * w) * (g * y)) - (g * b) * ((g * u) * (g * z) - (g * w) * (g * x)) + (g * c) * ((g * u) * (g * y) - (g * v) * (g * x)) := by intros; grind
  simp only [V3.dot] at d1 d2 d3 d4 d5 d6
  simp only [M3.det, det3] at d7
  refine ⟨?_, ?_, ?_, ?_, ?_, ?_, ?_, ?_⟩ <;> try simp only [V3.dot, M3.fdiv, M3.det, det3]
  · refine Int.lt_of_mul_lt_mul_left (a := g) ?_ (Int.le_of_lt hg)
    rw [Int.mul_zero, ← e0]
    exact hs
  · refine cancel hg2 ?_
    rw [I, J, ← e0, ← e1, ← e2, ← e3]
    exact d1
  · refine cancel hg2 ?_
    rw [I, J, ← e0, ← e4, ← e5, ← e6]
    exact d2
  · refine cancel hg2 ?_
    rw [I, J, ← e0, ← e7, ← e8, ← e9]
    exact d3
  · refine cancel hg2 ?_
    rw [I, Int.mul_zero, ← e1, ← e2, ← e3, ← e4, ← e5, ← e6]
    exact d4
  · refine cancel hg2 ?_
    rw [I, Int.mul_zero, ← e1, ← e2, ← e3, ← e7, ← e8, ← e9]
    exact d5
  · refine cancel hg2 ?_
    rw [I, Int.mul_zero, ← e4, ← e5, ← e6, ← e7, ← e8, ← e9]
    exact d6
  · refine cancel hg3 ?_
    rw [K, J3, ← e0, ← e1, ← e2, ← e3, ← e4, ← e5, ← e6, ← e7, ← e8, ← e9]
    exact d7

/-! ### its size -/
def Q4.fdiv (q : Q4) (g : Int) : Q4 := ⟨q.a.fdiv g, q.b.fdiv g, q.c.fdiv g, q.d.fdiv g⟩
def Q4.allOdd (p : Q4) : Bool := decide (p.a % 2 = 1) && decide (p.b % 2 = 1) && decide (p.c % 2 = 1) && decide (p.d % 2 = 1)
def halve (n : Int) : Int := if n % 2 = 0 then n / 2 else n
/-- what the law reckons: the norm of the number divided by its greatest integer, halved while it is even -/
def due (q : Q4) : Int :=
  let p := q.fdiv (gcdL q.list)
  let p' := if p.allOdd then p else Q4.smul 2 p
  halve (halve (p'.sq / 4))
theorem sq_even {x : Int} (h : x % 2 = 0) : ∃ m, x * x = 4 * m := by
  obtain ⟨k, rfl⟩ : ∃ k, x = 2 * k := ⟨x / 2, by omega⟩
  exact ⟨k * k, by grind⟩
theorem sq_odd {x : Int} (h : x % 2 = 1) : ∃ m, x * x = 8 * m + 1 := by
  obtain ⟨k, rfl⟩ : ∃ k, x = 2 * k + 1 := ⟨x / 2, by omega⟩
  have e : (k * k + k) % 2 = 0 := by
    rcases (by omega : k % 2 = 0 ∨ k % 2 = 1) with h | h
    · obtain ⟨j, rfl⟩ : ∃ j, k = 2 * j := ⟨k / 2, by omega⟩
      have : 2 * j * (2 * j) + 2 * j = 2 * (2 * j * j + j) := by grind
      omega
    · obtain ⟨j, rfl⟩ : ∃ j, k = 2 * j + 1 := ⟨k / 2, by omega⟩
      have : (2 * j + 1) * (2 * j + 1) + (2 * j + 1) = 2 * (2 * j * j + 3 * j + 1) := by grind
      omega
  refine ⟨(k * k + k) / 2, ?_⟩
  have : (2 * k + 1) * (2 * k + 1) = 4 * (k * k + k) + 1 := by grind
  omega
theorem mul_odd {x y : Int} (h : x % 2 = 1) (h2 : y % 2 = 1) : ∃ m, x * y = 2 * m + 1 := by
  obtain ⟨k, rfl⟩ : ∃ k, x = 2 * k + 1 := ⟨x / 2, by omega⟩
  obtain ⟨j, rfl⟩ : ∃ k, y = 2 * k + 1 := ⟨y / 2, by omega⟩
  exact ⟨2 * k * j + k + j, by grind⟩
theorem par2 (x : Int) : x % 2 = 0 ∨ x % 2 = 1 := by omega
/-- the greatest divisor of the rows of a coprime number and its size divides four -/
theorem turnGcd_four {p : Q4} (h : gcdL p.list = 1) : turnGcd p ∣ 4 := by
  have dv : ∀ n ∈ p.sq :: p.rot.list, turnGcd p ∣ n := fun n hn => gcdL_dvd hn
  have e0 := dv p.sq (by simp)
  have e1 := dv p.rot.a.x (by simp [M3.list])
  have e2 := dv p.rot.a.y (by simp [M3.list])
  have e3 := dv p.rot.a.z (by simp [M3.list])
  have e4 := dv p.rot.b.x (by simp [M3.list])
  have e5 := dv p.rot.b.y (by simp [M3.list])
  have e6 := dv p.rot.b.z (by simp [M3.list])
  have e7 := dv p.rot.c.x (by simp [M3.list])
  have e8 := dv p.rot.c.y (by simp [M3.list])
  have e9 := dv p.rot.c.z (by simp [M3.list])
  clear dv
  generalize turnGcd p = g at *
  obtain ⟨a, b, c, d⟩ := p
  simp only [Q4.rot, Q4.sq, Q4.list] at *
  have aa : g ∣ 4 * a * a := by
    have q := Int.dvd_add (Int.dvd_add e0 e1) (Int.dvd_add e5 e9)
    have e : a * a + b * b + c * c + d * d + (a * a + b * b - c * c - d * d) + (a * a - b * b + c * c - d * d + (a * a - b * b - c * c + d * d)) = 4 * a * a := by grind
    rwa [e] at q
  have bb : g ∣ 4 * b * b := by
    have q := Int.dvd_sub (Int.dvd_add e0 e1) (Int.dvd_add e5 e9)
    have e : a * a + b * b + c * c + d * d + (a * a + b * b - c * c - d * d) - (a * a - b * b + c * c - d * d + (a * a - b * b - c * c + d * d)) = 4 * b * b := by grind
    rwa [e] at q
  have cc : g ∣ 4 * c * c := by
    have q := Int.dvd_sub (Int.dvd_add e0 e5) (Int.dvd_add e1 e9)
    have e : a * a + b * b + c * c + d * d + (a * a - b * b + c * c - d * d) - (a * a + b * b - c * c - d * d + (a * a - b * b - c * c + d * d)) = 4 * c * c := by grind
    rwa [e] at q
  have dd : g ∣ 4 * d * d := by
    have q := Int.dvd_sub (Int.dvd_add e0 e9) (Int.dvd_add e1 e5)
    have e : a * a + b * b + c * c + d * d + (a * a - b * b - c * c + d * d) - (a * a + b * b - c * c - d * d + (a * a - b * b + c * c - d * d)) = 4 * d * d := by grind
    rwa [e] at q
  have bc : g ∣ 4 * b * c := by
    have q := Int.dvd_add e2 e4
    have e : 2 * (b * c - a * d) + 2 * (b * c + a * d) = 4 * b * c := by grind
    rwa [e] at q
  have ad : g ∣ 4 * a * d := by
    have q := Int.dvd_sub e4 e2
    have e : 2 * (b * c + a * d) - 2 * (b * c - a * d) = 4 * a * d := by grind
    rwa [e] at q
  have bd : g ∣ 4 * b * d := by
    have q := Int.dvd_add e3 e7
    have e : 2 * (b * d + a * c) + 2 * (b * d - a * c) = 4 * b * d := by grind
    rwa [e] at q
  have ac : g ∣ 4 * a * c := by
    have q := Int.dvd_sub e3 e7
    have e : 2 * (b * d + a * c) - 2 * (b * d - a * c) = 4 * a * c := by grind
    rwa [e] at q
  have cd : g ∣ 4 * c * d := by
    have q := Int.dvd_add e6 e8
    have e : 2 * (c * d - a * b) + 2 * (c * d + a * b) = 4 * c * d := by grind
    rwa [e] at q
  have ab : g ∣ 4 * a * b := by
    have q := Int.dvd_sub e8 e6
    have e : 2 * (c * d + a * b) - 2 * (c * d - a * b) = 4 * a * b := by grind
    rwa [e] at q
  have sw : ∀ x y : Int, g ∣ 4 * x * y → g ∣ 4 * y * x := fun x y q => by
    have e : 4 * x * y = 4 * y * x := by grind
    rwa [e] at q
  have one : ∀ x : Int, g ∣ 4 * x * a → g ∣ 4 * x * b → g ∣ 4 * x * c → g ∣ 4 * x * d → g ∣ 4 * x := fun x h1 h2 h3 h4 => by
    have q := gcdL_greatest (ns := [a, b, c, d]) (k := 4 * x) (d := g) fun n hn => by
      simp only [List.mem_cons, List.not_mem_nil, or_false] at hn
      rcases hn with rfl | rfl | rfl | rfl
      · exact h1
      · exact h2
      · exact h3
      · exact h4
    rwa [h, Int.mul_one] at q
  have q := gcdL_greatest (ns := [a, b, c, d]) (k := 4) (d := g) fun n hn => by
    simp only [List.mem_cons, List.not_mem_nil, or_false] at hn
    rcases hn with rfl | rfl | rfl | rfl
    · exact one _ aa ab ac ad
    · exact one _ (sw _ _ ab) bb bc bd
    · exact one _ (sw _ _ ac) (sw _ _ bc) cc cd
    · exact one _ (sw _ _ ad) (sw _ _ bd) (sw _ _ cd) dd
  rwa [h, Int.mul_one] at q
theorem four_cases {g : Int} (h0 : 0 < g) (h : g ∣ 4) : g = 1 ∨ g = 2 ∨ g = 4 := by
  have h1 := Int.le_of_dvd (by decide) h
  have h3 : g ≠ 3 := fun z => by
    rw [z] at h
    exact absurd h (by decide)
  omega
theorem prim_size {p : Q4} (h : gcdL p.list = 1) (h0 : p ≠ ⟨0, 0, 0, 0⟩) : p.sq.fdiv (turnGcd p) = halve (halve ((if p.allOdd then p else Q4.smul 2 p).sq / 4)) := by
  have hg := turnGcd_pos h0
  have hc := four_cases hg (turnGcd_four h)
  have great : ∀ k : Int, (∀ n ∈ p.sq :: p.rot.list, k ∣ n) → k ∣ turnGcd p := fun k hk => by
    have q := gcdL_greatest (ns := p.sq :: p.rot.list) (k := 1) (d := k) fun n hn => by
      rw [Int.one_mul]
      exact hk n hn
    rwa [Int.one_mul] at q
  have hd : turnGcd p ∣ p.sq := gcdL_dvd List.mem_cons_self
  have hlow : ∀ k : Int, 1 < k → ¬ (k ∣ p.a ∧ k ∣ p.b ∧ k ∣ p.c ∧ k ∣ p.d) := fun k hk ⟨h1, h2, h3, h4⟩ => by
    have q := gcdL_greatest (ns := p.list) (k := 1) (d := k) fun n hn => by
      rw [Int.one_mul]
      simp only [Q4.list, List.mem_cons, List.not_mem_nil, or_false] at hn
      rcases hn with rfl | rfl | rfl | rfl
      · exact h1
      · exact h2
      · exact h3
      · exact h4
    rw [h, Int.one_mul] at q
    have := Int.le_of_dvd (by decide) q
    omega
  generalize turnGcd p = g at *
  obtain ⟨a, b, c, d⟩ := p
  by_cases ho : (Q4.mk a b c d).allOdd = true
  · rw [if_pos ho]
    simp only [Q4.allOdd, Bool.and_eq_true, decide_eq_true_eq] at ho
    obtain ⟨⟨⟨oa, ob⟩, oc⟩, od⟩ := ho
    obtain ⟨ma, ea⟩ := sq_odd oa
    obtain ⟨mb, eb⟩ := sq_odd ob
    obtain ⟨mc, ec⟩ := sq_odd oc
    obtain ⟨md, ed⟩ := sq_odd od
    obtain ⟨m1, f1⟩ := mul_odd ob oc
    obtain ⟨m2, f2⟩ := mul_odd oa od
    obtain ⟨m3, f3⟩ := mul_odd ob od
    obtain ⟨m4, f4⟩ := mul_odd oa oc
    obtain ⟨m5, f5⟩ := mul_odd oc od
    obtain ⟨m6, f6⟩ := mul_odd oa ob
    have g4 : (4 : Int) ∣ g := great 4 fun n hn => by
      simp only [Q4.rot, Q4.sq, M3.list, List.mem_cons, List.not_mem_nil, or_false] at hn
      rcases hn with rfl | rfl | rfl | rfl | rfl | rfl | rfl | rfl | rfl | rfl
      all_goals
        simp only [ea, eb, ec, ed, f1, f2, f3, f4, f5, f6]
        omega
    have e4 : g = 4 := by
      rcases hc with rfl | rfl | rfl
      · exact absurd g4 (by decide)
      · exact absurd g4 (by decide)
      · rfl
    subst e4
    have es : (Q4.mk a b c d).sq = 4 * (2 * (ma + mb + mc + md) + 1) := by
      simp only [Q4.sq, ea, eb, ec, ed]
      omega
    rw [es, Int.mul_fdiv_cancel_left _ (by decide), Int.mul_ediv_cancel_left _ (by decide)]
    unfold halve
    rw [if_neg (by omega), if_neg (by omega)]
  · rw [if_neg ho]
    have es : (Q4.smul 2 (Q4.mk a b c d)).sq / 4 = (Q4.mk a b c d).sq := by
      rw [(rot_smul 2 _).1]
      show 4 * (Q4.mk a b c d).sq / 4 = _
      exact Int.mul_ediv_cancel_left _ (by decide)
    rw [es]
    have two : ∀ x y : Int, x % 2 = 0 ∨ x % 2 = 1 := fun x _ => by omega
    simp only [Q4.allOdd, Bool.and_eq_true, decide_eq_true_eq] at ho
    have sq2 : ∀ x : Int, (x % 2 = 0 → ∃ m, x * x = 4 * m) ∧ (x % 2 = 1 → ∃ m, x * x = 8 * m + 1) := fun x => ⟨sq_even, sq_odd⟩
    have key : (Q4.mk a b c d).sq % 2 = 1 ∨ (Q4.mk a b c d).sq % 4 = 2 := by
      simp only [Q4.sq]
      rcases par2 a with ha | ha
      · obtain ⟨ma, ea⟩ := sq_even ha
        rcases par2 b with hb | hb
        · obtain ⟨mb, eb⟩ := sq_even hb
          rcases par2 c with hc' | hc'
          · obtain ⟨mc, ec⟩ := sq_even hc'
            rcases par2 d with hd' | hd'
            · exact absurd ⟨Int.dvd_of_emod_eq_zero ha, Int.dvd_of_emod_eq_zero hb, Int.dvd_of_emod_eq_zero hc', Int.dvd_of_emod_eq_zero hd'⟩ (hlow 2 (by decide))
            · obtain ⟨md, ed⟩ := sq_odd hd'
              omega
          · obtain ⟨mc, ec⟩ := sq_odd hc'
            rcases par2 d with hd' | hd'
            · obtain ⟨md, ed⟩ := sq_even hd'
              omega
            · obtain ⟨md, ed⟩ := sq_odd hd'
              omega
        · obtain ⟨mb, eb⟩ := sq_odd hb
          rcases par2 c with hc' | hc'
          · obtain ⟨mc, ec⟩ := sq_even hc'
            rcases par2 d with hd' | hd'
            · obtain ⟨md, ed⟩ := sq_even hd'
              omega
            · obtain ⟨md, ed⟩ := sq_odd hd'
              omega
          · obtain ⟨mc, ec⟩ := sq_odd hc'
            rcases par2 d with hd' | hd'
            · obtain ⟨md, ed⟩ := sq_even hd'
              omega
            · obtain ⟨md, ed⟩ := sq_odd hd'
              omega
      · obtain ⟨ma, ea⟩ := sq_odd ha
        rcases par2 b with hb | hb
        · obtain ⟨mb, eb⟩ := sq_even hb
          rcases par2 c with hc' | hc'
          · obtain ⟨mc, ec⟩ := sq_even hc'
            rcases par2 d with hd' | hd'
            · obtain ⟨md, ed⟩ := sq_even hd'
              omega
            · obtain ⟨md, ed⟩ := sq_odd hd'
              omega
          · obtain ⟨mc, ec⟩ := sq_odd hc'
            rcases par2 d with hd' | hd'
            · obtain ⟨md, ed⟩ := sq_even hd'
              omega
            · obtain ⟨md, ed⟩ := sq_odd hd'
              omega
        · obtain ⟨mb, eb⟩ := sq_odd hb
          rcases par2 c with hc' | hc'
          · obtain ⟨mc, ec⟩ := sq_even hc'
            rcases par2 d with hd' | hd'
            · obtain ⟨md, ed⟩ := sq_even hd'
              omega
            · obtain ⟨md, ed⟩ := sq_odd hd'
              omega
          · obtain ⟨mc, ec⟩ := sq_odd hc'
            rcases par2 d with hd' | hd'
            · obtain ⟨md, ed⟩ := sq_even hd'
              omega
            · exact absurd ⟨⟨⟨ha, hb⟩, hc'⟩, hd'⟩ ho
    rcases key with k | k
    · have e1 : g = 1 := by
        rcases hc with rfl | rfl | rfl
        · rfl
        · omega
        · omega
      subst e1
      rw [Int.fdiv_one]
      unfold halve
      rw [if_neg (by omega), if_neg (by omega)]
    · have g2 : (2 : Int) ∣ g := great 2 fun n hn => by
        have k2 : (Q4.mk a b c d).sq % 2 = 0 := by omega
        simp only [Q4.rot, Q4.sq, M3.list, List.mem_cons, List.not_mem_nil, or_false] at hn k2
        rcases hn with rfl | rfl | rfl | rfl | rfl | rfl | rfl | rfl | rfl | rfl <;> omega
      have e2 : g = 2 := by
        rcases hc with rfl | rfl | rfl
        · exact absurd g2 (by decide)
        · rfl
        · omega
      subst e2
      obtain ⟨m, em⟩ := hd
      rw [em] at k
      have h1 : halve (2 * m) = m := by
        unfold halve
        rw [if_pos (by omega), Int.mul_ediv_cancel_left _ (by decide)]
      have h2 : halve m = m := by
        unfold halve
        rw [if_neg (by omega)]
      rw [em, Int.mul_fdiv_cancel_left _ (by decide), h1, h2]
/-- the size of the turn is what the law reckons -/
theorem turn_size {q : Q4} (h : q ≠ ⟨0, 0, 0, 0⟩) : q.sq.fdiv (turnGcd q) = due q := by
  have hg : 0 < gcdL q.list := by
    have : ∃ n ∈ q.list, n ≠ 0 := by
      obtain ⟨a, b, c, d⟩ := q
      by_cases h1 : a = 0
      · by_cases h2 : b = 0
        · by_cases h3 : c = 0
          · by_cases h4 : d = 0
            · subst h1 h2 h3 h4
              exact absurd rfl h
            · exact ⟨d, by simp [Q4.list], h4⟩
          · exact ⟨c, by simp [Q4.list], h3⟩
        · exact ⟨b, by simp [Q4.list], h2⟩
      · exact ⟨a, by simp [Q4.list], h1⟩
    obtain ⟨n, hn, h0⟩ := this
    exact gcdL_pos hn h0
  have e : ∀ n ∈ q.list, n = gcdL q.list * n.fdiv (gcdL q.list) := fun n hn => by
    obtain ⟨k, hk⟩ := gcdL_dvd hn
    rw [hk, Int.mul_fdiv_cancel_left _ (by omega)]
  have eq : q = Q4.smul (gcdL q.list) (q.fdiv (gcdL q.list)) := by
    have e1 := e q.a (by simp [Q4.list])
    have e2 := e q.b (by simp [Q4.list])
    have e3 := e q.c (by simp [Q4.list])
    have e4 := e q.d (by simp [Q4.list])
    show Q4.mk q.a q.b q.c q.d = Q4.mk (gcdL q.list * q.a.fdiv (gcdL q.list)) (gcdL q.list * q.b.fdiv (gcdL q.list)) (gcdL q.list * q.c.fdiv (gcdL q.list)) (gcdL q.list * q.d.fdiv (gcdL q.list))
    rw [← e1, ← e2, ← e3, ← e4]
  have hp : gcdL (q.fdiv (gcdL q.list)).list = 1 := gcdL_lowest hg
  have hp0 : q.fdiv (gcdL q.list) ≠ ⟨0, 0, 0, 0⟩ := fun z => by
    rw [z] at eq
    have : q = ⟨0, 0, 0, 0⟩ := by rw [eq]; simp [Q4.smul]
    exact h this
  unfold due
  show _ = halve (halve ((if (q.fdiv (gcdL q.list)).allOdd then q.fdiv (gcdL q.list) else Q4.smul 2 (q.fdiv (gcdL q.list))).sq / 4))
  rw [← prim_size hp hp0]
  have hk : ∀ (k : Int) (p : Q4), 0 < k → p ≠ ⟨0, 0, 0, 0⟩ → (Q4.smul k p).sq.fdiv (turnGcd (Q4.smul k p)) = p.sq.fdiv (turnGcd p) := fun k p hk h0 => by
    obtain ⟨s1, s2⟩ := rot_smul k p
    have hk2 : 0 < k * k := Int.mul_pos hk hk
    have eg : turnGcd (Q4.smul k p) = k * k * turnGcd p := by
      unfold turnGcd
      rw [s1, s2, ← gcdL_smul (Int.le_of_lt hk2)]
      rfl
    rw [eg, s1, Int.mul_fdiv_mul_of_pos _ _ hk2]
  have r := hk _ _ hg hp0
  rw [← eq] at r
  exact r
end Tp
end

section
set_option autoImplicit false
set_option maxHeartbeats 4000000
set_option linter.all false
namespace Tp
/-! ### floor division of either sign -/
theorem fm (a : Int) {b : Int} (hb : b ≠ 0) : ∃ ρ, a = b * a.fdiv b + ρ ∧ ((0 < b ∧ 0 ≤ ρ ∧ ρ < b) ∨ (b < 0 ∧ b < ρ ∧ ρ ≤ 0)) := by
  rcases Int.lt_or_gt_of_ne hb with h | h
  · have e : a.fdiv b = (-a).fdiv (-b) := (Int.neg_fdiv_neg a b).symm
    rw [e]
    refine ⟨-((-a).fmod (-b)), ?_, .inr ⟨h, ?_, ?_⟩⟩
    · have q := Int.mul_fdiv_add_fmod (-a) (-b)
      rw [Int.neg_mul] at q
      omega
    · have := Int.fmod_lt_of_pos (-a) (show 0 < -b by omega)
      omega
    · have := Int.fmod_nonneg_of_pos (-a) (show 0 < -b by omega)
      omega
  · refine ⟨a.fmod b, (Int.mul_fdiv_add_fmod a b).symm, .inl ⟨h, Int.fmod_nonneg_of_pos a h, Int.fmod_lt_of_pos a h⟩⟩
theorem fdiv_abs (a : Int) {b : Int} (hb : b ≠ 0) : (a.fdiv b).natAbs ≤ a.natAbs := by
  obtain ⟨ρ, e, h⟩ := fm a hb
  generalize a.fdiv b = q at e
  have key : ∀ b q ρ : Int, 0 < b → 0 ≤ ρ → ρ < b → q.natAbs ≤ (b * q + ρ).natAbs := fun b q ρ h1 h2 h3 => by
    rcases Int.lt_trichotomy q 0 with hq | hq | hq
    · have h4 : b * (-q - 1) ≥ 1 * (-q - 1) := Int.mul_le_mul_of_nonneg_right (by omega) (by omega)
      have h5 : b * q = -(b * (-q - 1)) - b := by
        rw [Int.mul_sub, Int.mul_neg]
        omega
      omega
    · subst hq
      omega
    · have h4 : b * q ≥ 1 * q := Int.mul_le_mul_of_nonneg_right (by omega) (by omega)
      omega
  rcases h with ⟨h1, h2, h3⟩ | ⟨h1, h2, h3⟩
  · rw [e]
    exact key b q ρ h1 h2 h3
  · have := key (-b) q (-ρ) (by omega) (by omega) (by omega)
    rw [Int.neg_mul] at this
    omega
theorem V3.get_less (r o : V3) (m : Int) (j : Nat) : (r.less o m).get j = r.get j - m * o.get j := by
  match j with
  | 0 => rfl
  | 1 => rfl
  | j + 2 => rfl
/-- entries up to B -/
def Ent (B : Nat) (L : List V3) : Prop := ∀ r ∈ L, ∀ j, (r.get j).natAbs ≤ B
theorem less_ent {r o : V3} {m : Int} {j A M B : Nat} (h1 : (r.get j).natAbs ≤ A) (h2 : m.natAbs ≤ M) (h3 : (o.get j).natAbs ≤ B) : ((r.less o m).get j).natAbs ≤ A + M * B := by
  rw [V3.get_less]
  have := Nat.mul_le_mul h2 h3
  rw [← Int.natAbs_mul] at this
  omega

/-! ### one lowering -/
structure Lowered (p : Nat) (L L' : List V3) (o : V3) (O : List V3) : Prop where
  mem : o ∈ L
  ne : o.get p ≠ 0
  min : ∀ r ∈ L, r.get p ≠ 0 → (o.get p).natAbs ≤ (r.get p).natAbs
  all : ∀ r ∈ L, r = o ∨ r ∈ O
  sub : ∀ r ∈ O, r ∈ L
  len : O.length + 1 = L.length
  eq : L' = o :: O.map fun r => r.less o ((r.get p).fdiv (o.get p))
theorem Lowered.span {p : Nat} {L L' O : List V3} {o : V3} (h : Lowered p L L' o O) : SpanEq L' L := by
  refine .of (fun r hr => ?_) fun r hr => ?_
  · rw [h.eq] at hr
    rcases List.mem_cons.mp hr with rfl | hr
    · exact Span.mem h.mem
    · obtain ⟨r', h', rfl⟩ := List.mem_map.mp hr
      exact (Span.mem (h.sub r' h')).lessv _ (Span.mem h.mem)
  · have ho : Span L' o := Span.mem (by rw [h.eq]; exact List.mem_cons_self)
    rcases h.all r hr with rfl | hr
    · exact ho
    · have h2 : Span L' (r.less o ((r.get p).fdiv (o.get p))) := Span.mem (by rw [h.eq]; exact List.mem_cons_of_mem _ (List.mem_map.mpr ⟨r, hr, rfl⟩))
      have e : r = (r.less o ((r.get p).fdiv (o.get p))).less o (-((r.get p).fdiv (o.get p))) := by
        refine V3.ext' ?_ ?_ ?_ <;> simp only [V3.less] <;> grind
      rw [e]
      exact h2.lessv _ ho
/-- how large the rows are, told by the least nonzero part -/
structure Pot (p C : Nat) (L : List V3) (B X l c : Nat) : Prop where
  b : Ent B L
  x : ∀ r ∈ L, (r.get p).natAbs ≤ X
  l0 : 1 ≤ l
  lx : l ≤ X
  xb : X ≤ B
  mn : ∀ r ∈ L, r.get p ≠ 0 → l ≤ (r.get p).natAbs
  ex : ∃ r ∈ L, (r.get p).natAbs = l
  sg : c = 3 ∨ (c = 1 ∧ ((∀ r ∈ L, 0 ≤ r.get p) ∨ (∀ r ∈ L, r.get p ≤ 0)))
  cap : c * (B * X * (X * X) * (l * l)) ≤ C
/-- no more than one row is left -/
def AtMost (p : Nat) (L : List V3) : Prop := (L.filter fun r => decide (r.get p ≠ 0)).length ≤ 1
theorem Pot.bc {p C : Nat} {L : List V3} {B X l c : Nat} (h : Pot p C L B X l c) : B ≤ C := by
  have h1 := h.l0
  have h2 := h.lx
  have hc : 1 ≤ c := by rcases h.sg with q | ⟨q, _⟩ <;> omega
  have a1 : 1 ≤ X * X := Nat.mul_pos (by omega) (by omega)
  have a2 : 1 ≤ l * l := Nat.mul_pos (by omega) (by omega)
  have a3 : B ≤ B * X := Nat.le_mul_of_pos_right _ (by omega)
  have a4 : B * X ≤ B * X * (X * X) := Nat.le_mul_of_pos_right _ a1
  have a5 : B * X * (X * X) ≤ B * X * (X * X) * (l * l) := Nat.le_mul_of_pos_right _ a2
  have a6 : B * X * (X * X) * (l * l) ≤ c * (B * X * (X * X) * (l * l)) := Nat.le_mul_of_pos_left _ (by omega)
  have := h.cap
  omega
theorem Pot.bxc {p C : Nat} {L : List V3} {B X l c : Nat} (h : Pot p C L B X l c) : B * X ≤ C := by
  have h1 := h.l0
  have h2 := h.lx
  have hc : 1 ≤ c := by rcases h.sg with q | ⟨q, _⟩ <;> omega
  have a1 : 1 ≤ X * X := Nat.mul_pos (by omega) (by omega)
  have a2 : 1 ≤ l * l := Nat.mul_pos (by omega) (by omega)
  have a4 : B * X ≤ B * X * (X * X) := Nat.le_mul_of_pos_right _ a1
  have a5 : B * X * (X * X) ≤ B * X * (X * X) * (l * l) := Nat.le_mul_of_pos_right _ a2
  have a6 : B * X * (X * X) * (l * l) ≤ c * (B * X * (X * X) * (l * l)) := Nat.le_mul_of_pos_left _ (by omega)
  have := h.cap
  omega
theorem filter_nil {α : Type} {q : α → Bool} {l : List α} (h : ∀ r ∈ l, q r = false) : l.filter q = [] := by
  rw [List.filter_eq_nil_iff]
  exact fun a ha z => by rw [h a ha] at z; cases z
theorem Pot.step {p C : Nat} {L L' O : List V3} {o : V3} {B X l c : Nat} (h : Pot p C L B X l c) (w : Lowered p L L' o O) :
    Ent (3 * C) L' ∧ (∀ r ∈ L', (r.get p).natAbs ≤ X) ∧ (AtMost p L' ∨ ∃ B' X' l', Pot p C L' B' X' l' 1 ∧ l' < l ∧ X' ≤ X) := by
  have hl0 := h.l0
  have hlx := h.lx
  have eo : (o.get p).natAbs = l := by
    obtain ⟨r, hr, e⟩ := h.ex
    have h1 := w.min r hr (by omega)
    have h2 := h.mn o w.mem w.ne
    omega
  -- the rests
  have rest : ∀ r ∈ L, ∃ ρ, (r.less o ((r.get p).fdiv (o.get p))).get p = ρ ∧ r.get p = o.get p * (r.get p).fdiv (o.get p) + ρ ∧ ((0 < o.get p ∧ 0 ≤ ρ ∧ ρ < o.get p) ∨ (o.get p < 0 ∧ o.get p < ρ ∧ ρ ≤ 0)) := fun r hr => by
    obtain ⟨ρ, e, q⟩ := fm (r.get p) w.ne
    refine ⟨ρ, ?_, e, q⟩
    rw [V3.get_less, Int.mul_comm]
    omega
  have quot : ∀ r ∈ L, l * ((r.get p).fdiv (o.get p)).natAbs ≤ X + l := fun r hr => by
    obtain ⟨ρ, _, e, q⟩ := rest r hr
    have hx := h.x r hr
    have e2 : l * ((r.get p).fdiv (o.get p)).natAbs = (o.get p * (r.get p).fdiv (o.get p)).natAbs := by rw [Int.natAbs_mul, eo]
    omega
  have big : ∀ r ∈ L, ∀ j, l * ((r.less o ((r.get p).fdiv (o.get p))).get j).natAbs ≤ 3 * (X * B) := fun r hr j => by
    have h1 := less_ent (h.b r hr j) (Nat.le_refl ((r.get p).fdiv (o.get p)).natAbs) (h.b o w.mem j)
    have h2 := Nat.mul_le_mul_left l h1
    rw [Nat.mul_add, ← Nat.mul_assoc] at h2
    have h3 := Nat.mul_le_mul_right B (quot r hr)
    rw [Nat.add_mul] at h3
    have h4 := Nat.mul_le_mul_right B hlx
    omega
  have bigO : ∀ j, l * (o.get j).natAbs ≤ 3 * (X * B) := fun j => by
    have h1 := h.b o w.mem j
    have h2 := Nat.mul_le_mul hlx h1
    omega
  have bigA : ∀ r ∈ L', ∀ j, l * (r.get j).natAbs ≤ 3 * (X * B) := fun r hr j => by
    rw [w.eq] at hr
    rcases List.mem_cons.mp hr with rfl | hr
    · exact bigO j
    · obtain ⟨r', h', rfl⟩ := List.mem_map.mp hr
      exact big r' (w.sub r' h') j
  have xl : ∀ r ∈ L', (r.get p).natAbs ≤ l := fun r hr => by
    rw [w.eq] at hr
    rcases List.mem_cons.mp hr with rfl | hr
    · omega
    · obtain ⟨r', h', rfl⟩ := List.mem_map.mp hr
      obtain ⟨ρ, e1, _, q⟩ := rest r' (w.sub r' h')
      rw [e1]
      omega
  have ent : Ent (3 * (X * B) / l) L' := fun r hr j => (Nat.le_div_iff_mul_le (by omega)).mpr (by rw [Nat.mul_comm]; exact bigA r hr j)
  have c1 : 3 * (X * B) / l ≤ 3 * C := by
    have := h.bxc
    rw [Nat.mul_comm B X] at this
    exact Nat.le_trans (Nat.div_le_self _ _) (by omega)
  refine ⟨fun r hr j => Nat.le_trans (ent r hr j) c1, fun r hr => Nat.le_trans (xl r hr) hlx, ?_⟩
  by_cases hz : ∀ r ∈ O, (r.less o ((r.get p).fdiv (o.get p))).get p = 0
  · refine .inl ?_
    unfold AtMost
    rw [w.eq, List.filter_cons_of_pos (by simpa using w.ne), filter_nil]
    · exact Nat.le_refl 1
    · intro r hr
      obtain ⟨r', h', rfl⟩ := List.mem_map.mp hr
      simp [hz r' h']
  · refine .inr ?_
    -- the least rest
    have hex : ∃ n, ∃ r ∈ O, (r.less o ((r.get p).fdiv (o.get p))).get p ≠ 0 ∧ ((r.less o ((r.get p).fdiv (o.get p))).get p).natAbs = n := by
      simp only [Classical.not_forall, exists_prop] at hz
      obtain ⟨r, hr, z⟩ := hz
      exact ⟨_, r, hr, z, rfl⟩
    obtain ⟨l', ⟨r1, hr1, z1, e1⟩, hmin⟩ : ∃ n, (∃ r ∈ O, (r.less o ((r.get p).fdiv (o.get p))).get p ≠ 0 ∧ ((r.less o ((r.get p).fdiv (o.get p))).get p).natAbs = n) ∧ ∀ m, (∃ r ∈ O, (r.less o ((r.get p).fdiv (o.get p))).get p ≠ 0 ∧ ((r.less o ((r.get p).fdiv (o.get p))).get p).natAbs = m) → n ≤ m := by
      obtain ⟨n, hn⟩ := hex
      induction n using Nat.strongRecOn with
      | _ n ih =>
        by_cases hm : ∃ m, m < n ∧ ∃ r ∈ O, (r.less o ((r.get p).fdiv (o.get p))).get p ≠ 0 ∧ ((r.less o ((r.get p).fdiv (o.get p))).get p).natAbs = m
        · obtain ⟨m, hm1, hm2⟩ := hm
          exact ih m hm1 hm2
        · refine ⟨n, hn, fun m hm2 => ?_⟩
          by_cases hlt : m < n
          · exact absurd ⟨m, hlt, hm2⟩ hm
          · omega
    obtain ⟨ρ, f1, f2, f3⟩ := rest r1 (w.sub r1 hr1)
    rw [f1] at e1 z1
    have hlt : l' < l := by omega
    have hl1 : 1 ≤ l' := by omega
    have same : (∀ r ∈ L', 0 ≤ r.get p) ∨ (∀ r ∈ L', r.get p ≤ 0) := by
      rcases Int.lt_or_gt_of_ne w.ne with hs | hs
      · refine .inr fun r hr => ?_
        rw [w.eq] at hr
        rcases List.mem_cons.mp hr with rfl | hr
        · omega
        · obtain ⟨r', h', rfl⟩ := List.mem_map.mp hr
          obtain ⟨ρ', g1, _, q⟩ := rest r' (w.sub r' h')
          rw [g1]
          omega
      · refine .inl fun r hr => ?_
        rw [w.eq] at hr
        rcases List.mem_cons.mp hr with rfl | hr
        · omega
        · obtain ⟨r', h', rfl⟩ := List.mem_map.mp hr
          obtain ⟨ρ', g1, _, q⟩ := rest r' (w.sub r' h')
          rw [g1]
          omega
    have lb : l ≤ 3 * (X * B) / l := by
      refine (Nat.le_div_iff_mul_le (by omega)).mpr ?_
      have := Nat.mul_le_mul hlx (Nat.le_trans hlx h.xb)
      omega
    refine ⟨3 * (X * B) / l, l, l', ⟨ent, xl, hl1, by omega, lb, fun r hr hr0 => ?_, ⟨r1.less o ((r1.get p).fdiv (o.get p)), by rw [w.eq]; exact List.mem_cons_of_mem _ (List.mem_map.mpr ⟨r1, hr1, rfl⟩), by rw [f1]; exact e1⟩, .inr ⟨rfl, same⟩, ?_⟩, hlt, hlx⟩
    · rw [w.eq] at hr
      rcases List.mem_cons.mp hr with rfl | hr
      · omega
      · obtain ⟨r', h', rfl⟩ := List.mem_map.mp hr
        exact hmin _ ⟨r', h', hr0, rfl⟩
    · -- the product does not grow
      have d1 : 3 * (X * B) / l * l ≤ 3 * (X * B) := Nat.div_mul_le_self _ _
      have d2 : 1 * (3 * (X * B) / l * l * (l * l) * (l' * l')) ≤ 3 * (X * B) * (l * l) * (l' * l') := by
        rw [Nat.one_mul]
        exact Nat.mul_le_mul_right _ (Nat.mul_le_mul_right _ d1)
      refine Nat.le_trans d2 ?_
      rcases h.sg with hc | ⟨hc, hs⟩
      · have cap := h.cap
        rw [hc] at cap
        have m1 : l' * l' ≤ X * X := Nat.mul_le_mul (by omega) (by omega)
        have m2 : 3 * (X * B) * (l * l) * (l' * l') ≤ 3 * (X * B) * (l * l) * (X * X) := Nat.mul_le_mul_left _ m1
        have m3 : 3 * (X * B) * (l * l) * (X * X) = 3 * (B * X * (X * X) * (l * l)) := by
          have : ∀ X B l : Nat, 3 * (X * B) * (l * l) * (X * X) = 3 * (B * X * (X * X) * (l * l)) := by intros; grind
          exact this X B l
        omega
      · have cap := h.cap
        rw [hc] at cap
        have hx1 := h.x r1 (w.sub r1 hr1)
        have h2 : 2 * l' ≤ X := by
          have hq : (r1.get p).fdiv (o.get p) ≠ 0 := fun z => by
            rw [z, Int.mul_zero, Int.zero_add] at f2
            have := h.mn r1 (w.sub r1 hr1) (by omega)
            omega
          have hr1L := w.sub r1 hr1
          have big1 : l ≤ (o.get p * (r1.get p).fdiv (o.get p)).natAbs := by
            rw [Int.natAbs_mul, eo]
            exact Nat.le_mul_of_pos_right _ (by omega)
          have sgn : (0 ≤ r1.get p ∧ 0 < o.get p) ∨ (r1.get p ≤ 0 ∧ o.get p < 0) := by
            rcases hs with hs | hs
            · have q1 := hs o w.mem
              have q2 := hs r1 hr1L
              have := w.ne
              omega
            · have q1 := hs o w.mem
              have q2 := hs r1 hr1L
              have := w.ne
              omega
          omega
        have m1 : (2 * l') * (2 * l') ≤ X * X := Nat.mul_le_mul h2 h2
        have m2 : (X * B) * (l * l) * ((2 * l') * (2 * l')) ≤ (X * B) * (l * l) * (X * X) := Nat.mul_le_mul_left _ m1
        have m3 : (X * B) * (l * l) * (X * X) = 1 * (B * X * (X * X) * (l * l)) := by
          have : ∀ X B l : Nat, (X * B) * (l * l) * (X * X) = 1 * (B * X * (X * X) * (l * l)) := by intros; grind
          exact this X B l
        have m4 : 3 * (X * B) * (l * l) * (l' * l') ≤ (X * B) * (l * l) * ((2 * l') * (2 * l')) := by
          have e : ∀ u v : Nat, u * ((2 * v) * (2 * v)) = 4 * (u * (v * v)) := by intros; grind
          have e2 : 3 * (X * B) * (l * l) * (l' * l') = 3 * ((X * B) * (l * l) * (l' * l')) := by
            have : ∀ u v w : Nat, 3 * u * v * w = 3 * (u * v * w) := by intros; grind
            exact this _ _ _
          rw [e, e2]
          omega
        omega
end Tp
end

section
set_option autoImplicit false
set_option maxHeartbeats 4000000
set_option linter.all false
namespace Tp
theorem least_of {α : Type} (f : α → Nat) : ∀ (L : List α) (q : α → Prop), (∃ r ∈ L, q r) → ∃ r ∈ L, q r ∧ ∀ r' ∈ L, q r' → f r ≤ f r' := fun L q ⟨r, hr, hq⟩ => by
  generalize hn : f r = n
  induction n using Nat.strongRecOn generalizing r with
  | _ n ih =>
    by_cases hm : ∃ r' ∈ L, q r' ∧ f r' < n
    · obtain ⟨r', h1, h2, h3⟩ := hm
      exact ih (f r') h3 r' h1 h2 rfl
    · refine ⟨r, hr, hq, fun r' h1 h2 => ?_⟩
      by_cases h3 : f r' < n
      · exact absurd ⟨r', h1, h2, h3⟩ hm
      · omega
/-- at the start -/
theorem Pot.start {p B : Nat} {L : List V3} (h : Ent B L) (hex : ∃ r ∈ L, r.get p ≠ 0) : ∃ l, Pot p (3 * (B * B * (B * B) * (B * B))) L B B l 3 := by
  obtain ⟨r, hr, h0, hmin⟩ := least_of (fun r : V3 => (r.get p).natAbs) L (fun r => r.get p ≠ 0) hex
  have hb := h r hr p
  refine ⟨(r.get p).natAbs, h, fun r hr => h r hr p, by omega, hb, Nat.le_refl _, hmin, ⟨r, hr, rfl⟩, .inl rfl, Nat.mul_le_mul_left _ (Nat.mul_le_mul_left _ (Nat.mul_le_mul hb hb))⟩
/-- between the turns of the loop: m what is still to be done -/
structure St (p B : Nat) (L0 : List V3) (m : Nat) (L : List V3) : Prop where
  span : SpanEq L L0
  len : L.length ≤ L0.length
  ent : Ent (9 * (B * B * (B * B) * (B * B))) L
  lead : ∀ r ∈ L, (r.get p).natAbs ≤ B
  some : ∃ r ∈ L, r.get p ≠ 0
  todo : AtMost p L ∨ ∃ B' X l c, Pot p (3 * (B * B * (B * B) * (B * B))) L B' X l c ∧ l = m ∧ X ≤ B
theorem St.start {p B : Nat} {L : List V3} (h : Ent B L) (hex : ∃ r ∈ L, r.get p ≠ 0) : ∃ m, St p B L m L := by
  obtain ⟨l, q⟩ := Pot.start h hex
  refine ⟨l, .refl L, Nat.le_refl _, fun r hr j => ?_, fun r hr => h r hr p, hex, .inr ⟨B, B, l, 3, q, rfl, Nat.le_refl _⟩⟩
  have := q.bc
  have := h r hr j
  omega
theorem St.next {p B m : Nat} {L0 L L' O : List V3} {o : V3} (h : St p B L0 m L) (hn : ¬ AtMost p L) (w : Lowered p L L' o O) : ∃ m', m' < m ∧ St p B L0 m' L' := by
  obtain ⟨B', X, l, c, q, e, hX⟩ := h.todo.resolve_left hn
  obtain ⟨h1, h2, h3⟩ := q.step w
  have hl := q.l0
  have len : L'.length ≤ L0.length := by
    have h4 := w.len
    have h5 := h.len
    rw [w.eq, List.length_cons, List.length_map]
    omega
  have sm : ∃ r ∈ L', r.get p ≠ 0 := ⟨o, by rw [w.eq]; exact List.mem_cons_self, w.ne⟩
  have en : Ent (9 * (B * B * (B * B) * (B * B))) L' := fun r hr j => by
    have := h1 r hr j
    omega
  have ld : ∀ r ∈ L', (r.get p).natAbs ≤ B := fun r hr => Nat.le_trans (h2 r hr) hX
  rcases h3 with h3 | ⟨B2, X2, l2, q2, hl2, hx2⟩
  · exact ⟨m - 1, by omega, w.span.trans h.span, len, en, ld, sm, .inl h3⟩
  · exact ⟨l2, by omega, w.span.trans h.span, len, en, ld, sm, .inr ⟨B2, X2, l2, 1, q2, rfl, Nat.le_trans hx2 hX⟩⟩

/-! ### one place of the base -/
def unitv (s : Int) : Nat → V3
  | 0 => ⟨s, 0, 0⟩
  | 1 => ⟨0, s, 0⟩
  | _ => ⟨0, 0, s⟩
/-- what the base looks like behind p places -/
def Shape : Nat → List V3 → Prop
  | 0, b => b = []
  | 1, b => ∃ u, b = [u] ∧ 0 < u.x
  | 2, b => ∃ u v, b = [u, v] ∧ 0 < u.x ∧ v.x = 0 ∧ 0 < v.y ∧ 0 ≤ u.y ∧ u.y < v.y
  | _, b => ∃ m : M3, b = m.rows ∧ Hnf m
/-- behind p places; E, F: bounds -/
structure Place (s : Int) (L0 : List V3) (n p E F : Nat) (base left : List V3) : Prop where
  span : SpanEq (base ++ left) L0
  zero : ∀ r ∈ left, ∀ j, j < p → r.get j = 0
  full : ∀ j, p ≤ j → j < 3 → Span left (unitv s j)
  shape : Shape p base
  ent : Ent (2 ^ E) left
  entB : Ent (2 ^ F) base
  len : left.length ≤ n
theorem span_zero {L : List V3} {v : V3} {j : Nat} (h : Span L v) (hz : ∀ r ∈ L, r.get j = 0) : v.get j = 0 := by
  induction h with
  | zero => match j with
    | 0 => rfl
    | 1 => rfl
    | j + 2 => rfl
  | add v r k hr _ ih =>
    have e : (v.add (V3.smul k r)).get j = v.get j + k * r.get j := match j with
      | 0 => rfl
      | 1 => rfl
      | j + 2 => rfl
    rw [e, ih, hz r hr, Int.mul_zero, Int.add_zero]
/-- a sum of a step and rows -/
theorem span_cons {u : V3} {L : List V3} {v : V3} (h : Span (u :: L) v) : ∃ k w, Span L w ∧ v = w.add (V3.smul k u) := by
  induction h with
  | zero => exact ⟨0, V3.zero, .zero, V3.ext' (by simp [V3.zero, V3.add, V3.smul]) (by simp [V3.zero, V3.add, V3.smul]) (by simp [V3.zero, V3.add, V3.smul])⟩
  | add v r k hr _ ih =>
    obtain ⟨m, w, hw, rfl⟩ := ih
    rcases List.mem_cons.mp hr with rfl | hr
    · refine ⟨m + k, w, hw, V3.ext' ?_ ?_ ?_⟩ <;> simp only [V3.add, V3.smul] <;> grind
    · refine ⟨m, w.add (V3.smul k r), .add _ _ _ hr hw, V3.ext' ?_ ?_ ?_⟩ <;> simp only [V3.add, V3.smul] <;> grind
theorem unitv_ne {s : Int} {j p : Nat} (h : p < j) (hj : j < 3) : (unitv s j).get p = 0 := by
  match j, p, h, hj with
  | 1, 0, _, _ => rfl
  | 2, 0, _, _ => rfl
  | 2, 1, _, _ => rfl
theorem unitv_eq {s : Int} {j : Nat} (hj : j < 3) : (unitv s j).get j = s := by
  match j, hj with
  | 0, _ => rfl
  | 1, _ => rfl
  | 2, _ => rfl
/-- there is a row to step by -/
theorem Place.some {s : Int} {L0 : List V3} {n p E F : Nat} {base left : List V3} (h : Place s L0 n p E F base left) (hs : s ≠ 0) (hp : p < 3) : ∃ r ∈ left, r.get p ≠ 0 := by
  refine Classical.byContradiction fun z => ?_
  have hz : ∀ r ∈ left, r.get p = 0 := fun r hr => Classical.byContradiction fun q => z ⟨r, hr, q⟩
  have := span_zero (h.full p (Nat.le_refl p) hp) hz
  rw [unitv_eq hp] at this
  exact hs this
def V3.flip (v : V3) : V3 := ⟨-v.x, -v.y, -v.z⟩
theorem V3.get_flip (v : V3) (j : Nat) : v.flip.get j = -v.get j := match j with
  | 0 => rfl
  | 1 => rfl
  | _ + 2 => rfl
theorem pow9 (e : Nat) : 9 * (2 ^ e * 2 ^ e * (2 ^ e * 2 ^ e) * (2 ^ e * 2 ^ e)) ≤ 2 ^ (6 * e + 4) := by
  have h : 2 ^ (6 * e + 4) = 16 * (2 ^ e * 2 ^ e * (2 ^ e * 2 ^ e) * (2 ^ e * 2 ^ e)) := by
    rw [← Nat.pow_add, ← Nat.pow_add, ← Nat.pow_add, show (16 : Nat) = 2 ^ 4 from rfl, ← Nat.pow_add]
    congr 1
    omega
  rw [h]
  exact Nat.mul_le_mul_right _ (by decide)
/-- the one row that the loop leaves at p -/
structure Stepped (p : Nat) (LL : List V3) (st0 st : V3) : Prop where
  eq : LL.filter (fun r => decide (r.get p ≠ 0)) = [st0]
  st : st = if 0 < st0.get p then st0 else st0.flip
theorem stepped {p : Nat} {LL : List V3} (h : ∃ r ∈ LL, r.get p ≠ 0) (h1 : AtMost p LL) : ∃ st0, Stepped p LL st0 (if 0 < st0.get p then st0 else st0.flip) := by
  obtain ⟨r, hr, h0⟩ := h
  have hm : r ∈ LL.filter fun r => decide (r.get p ≠ 0) := List.mem_filter.mpr ⟨hr, by simpa using h0⟩
  unfold AtMost at h1
  cases e : LL.filter (fun r => decide (r.get p ≠ 0)) with
  | nil =>
    rw [e] at hm
    cases hm
  | cons st0 t =>
    cases t with
    | nil => exact ⟨st0, ⟨e, rfl⟩⟩
    | cons _ _ =>
      rw [e] at h1
      simp at h1
section
variable {s : Int} {L0 : List V3} {n p E F m : Nat} {base left LL : List V3} {st0 st : V3}
theorem Stepped.mem (q : Stepped p LL st0 st) : st0 ∈ LL ∧ st0.get p ≠ 0 := by
  have : st0 ∈ LL.filter fun r => decide (r.get p ≠ 0) := by rw [q.eq]; exact List.mem_cons_self
  obtain ⟨a, b⟩ := List.mem_filter.mp this
  exact ⟨a, by simpa using b⟩
theorem Stepped.pos (q : Stepped p LL st0 st) : 0 < st.get p := by
  have := q.mem.2
  rw [q.st]
  split
  · assumption
  · rw [V3.get_flip]
    omega
theorem Stepped.abs (q : Stepped p LL st0 st) (j : Nat) : (st.get j).natAbs = (st0.get j).natAbs := by
  rw [q.st]
  split
  · rfl
  · rw [V3.get_flip]
    omega
theorem flip_smul (v : V3) : v.flip = V3.smul (-1) v := V3.ext' (by simp only [V3.flip, V3.smul]; omega) (by simp only [V3.flip, V3.smul]; omega) (by simp only [V3.flip, V3.smul]; omega)
theorem Stepped.span (q : Stepped p LL st0 st) : SpanEq (st :: LL.filter fun r => decide (r.get p = 0)) LL := by
  have hm := q.mem.1
  have s1 : Span LL st := by
    rw [q.st]
    split
    · exact Span.mem hm
    · rw [flip_smul]
      exact (Span.mem hm).smulv _
  refine .of (fun r hr => ?_) fun r hr => ?_
  · rcases List.mem_cons.mp hr with rfl | hr
    · exact s1
    · exact Span.mem (List.mem_filter.mp hr).1
  · by_cases h0 : r.get p = 0
    · exact Span.mem (List.mem_cons_of_mem _ (List.mem_filter.mpr ⟨hr, by simpa using h0⟩))
    · have h2 : r ∈ LL.filter fun r => decide (r.get p ≠ 0) := List.mem_filter.mpr ⟨hr, by simpa using h0⟩
      rw [q.eq] at h2
      have e : r = st0 := by simpa using h2
      have hst : Span (st :: LL.filter fun r => decide (r.get p = 0)) st := Span.mem List.mem_cons_self
      have e2 : r = if 0 < st0.get p then st else st.flip := by
        rw [e, q.st]
        split
        · rfl
        · exact V3.ext' (by simp only [V3.flip]; omega) (by simp only [V3.flip]; omega) (by simp only [V3.flip]; omega)
      rw [e2]
      split
      · exact hst
      · rw [flip_smul]
        exact hst.smulv _
def red (p : Nat) (st r : V3) : V3 := r.less st ((r.get p).fdiv (st.get p))
theorem red_less {p : Nat} {st : V3} (r : V3) (h : 0 < st.get p) : 0 ≤ (red p st r).get p ∧ (red p st r).get p < st.get p := by
  unfold red
  obtain ⟨ρ, e, q⟩ := fm (r.get p) (b := st.get p) (by omega)
  rw [V3.get_less, Int.mul_comm]
  omega
theorem red_same {p j : Nat} {st : V3} (r : V3) (h : st.get j = 0) : (red p st r).get j = r.get j := by
  unfold red
  rw [V3.get_less, h, Int.mul_zero, Int.sub_zero]
theorem Place.next (h : Place s L0 n p E F base left) (hs : s ≠ 0) (hp : p < 3) (w : St p (2 ^ E) left m LL) (q : Stepped p LL st0 st) :
    Place s L0 n (p + 1) (6 * E + 4) (F + (6 * E + 4) + 1) (base.map (red p st) ++ [st]) (LL.filter fun r => decide (r.get p = 0)) := by
  have hpos := q.pos
  have entL : Ent (2 ^ (6 * E + 4)) LL := fun r hr j => Nat.le_trans (w.ent r hr j) (pow9 E)
  have entS : ∀ j, (st.get j).natAbs ≤ 2 ^ (6 * E + 4) := fun j => by
    rw [q.abs]
    exact entL st0 q.mem.1 j
  have zeroL : ∀ r ∈ LL, ∀ j, j < p → r.get j = 0 := fun r hr j hj => span_zero ((w.span r).mp (Span.mem hr)) fun r hr => h.zero r hr j hj
  have zeroS : ∀ j, j < p → st.get j = 0 := fun j hj => by
    have := zeroL st0 q.mem.1 j hj
    have := q.abs j
    omega
  have entB : ∀ r ∈ base, ∀ j, ((red p st r).get j).natAbs ≤ 2 ^ (F + (6 * E + 4) + 1) := fun r hr j => by
    have h1 := less_ent (m := (r.get p).fdiv (st.get p)) (h.entB r hr j) (Nat.le_trans (fdiv_abs (r.get p) (b := st.get p) (by omega)) (h.entB r hr p)) (entS j)
    refine Nat.le_trans h1 ?_
    have e1 : 2 ^ (F + (6 * E + 4) + 1) = 2 ^ F * 2 ^ (6 * E + 4) + 2 ^ F * 2 ^ (6 * E + 4) := by
      rw [Nat.pow_succ, Nat.pow_add]
      omega
    rw [e1]
    exact Nat.add_le_add_right (Nat.le_mul_of_pos_right _ (Nat.two_pow_pos _)) _
  refine ⟨?_, fun r hr j hj => ?_, fun j h1 h2 => ?_, ?_, fun r hr j => ?_, fun r hr j => ?_, ?_⟩
  · refine SpanEq.trans ?_ h.span
    have sub : ∀ r ∈ LL, Span (base ++ left) r := fun r hr => Span.le (fun r hr => Span.mem (List.mem_append_right _ hr)) ((w.span r).mp (Span.mem hr))
    have hst : Span (base ++ left) st := Span.le sub ((q.span st).mp (Span.mem List.mem_cons_self))
    have hst' : Span (base.map (red p st) ++ [st] ++ LL.filter fun r => decide (r.get p = 0)) st := Span.mem (by simp)
    refine .of (fun r hr => ?_) fun r hr => ?_
    · rcases List.mem_append.mp hr with hr | hr
      · rcases List.mem_append.mp hr with hr | hr
        · obtain ⟨r', h', rfl⟩ := List.mem_map.mp hr
          exact (Span.mem (List.mem_append_left _ h')).lessv _ hst
        · have e : r = st := by simpa using hr
          rw [e]
          exact hst
      · exact sub r (List.mem_filter.mp hr).1
    · rcases List.mem_append.mp hr with hr | hr
      · have e : r = (red p st r).less st (-((r.get p).fdiv (st.get p))) := by
          refine V3.ext' ?_ ?_ ?_ <;> simp only [V3.less, red] <;> grind
        rw [e]
        exact (Span.mem (List.mem_append_left _ (List.mem_append_left _ (List.mem_map.mpr ⟨r, hr, rfl⟩)))).lessv _ hst'
      · have h1 : Span LL r := (w.span r).mpr (Span.mem hr)
        have h2 := (q.span r).mpr h1
        refine Span.le (fun r hr => ?_) h2
        rcases List.mem_cons.mp hr with rfl | hr
        · exact hst'
        · exact Span.mem (List.mem_append_right _ hr)
  · obtain ⟨a, b⟩ := List.mem_filter.mp hr
    rcases Nat.lt_or_ge j p with g | g
    · exact zeroL r a j g
    · have : j = p := by omega
      rw [this]
      simpa using b
  · have h3 := (q.span _).mpr ((w.span _).mpr (h.full j (by omega) h2))
    obtain ⟨k, v, hv, e⟩ := span_cons h3
    have hv0 : v.get p = 0 := span_zero hv fun r hr => by simpa using (List.mem_filter.mp hr).2
    have e1 : (unitv s j).get p = v.get p + k * st.get p := by
      rw [e]
      match p with
      | 0 => rfl
      | 1 => rfl
      | _ + 2 => rfl
    rw [unitv_ne (by omega) h2, hv0, Int.zero_add] at e1
    have hk : k = 0 := (Int.mul_eq_zero.mp e1.symm).resolve_right (by omega)
    rw [e, hk]
    have e2 : v.add (V3.smul 0 st) = v := V3.ext' (by simp [V3.add, V3.smul]) (by simp [V3.add, V3.smul]) (by simp [V3.add, V3.smul])
    rw [e2]
    exact hv
  · have sh := h.shape
    match p, hp, sh, hpos, zeroS with
    | 0, _, sh, hpos, _ =>
      have e : base = [] := sh
      rw [e]
      exact ⟨st, rfl, hpos⟩
    | 1, _, sh, hpos, zs =>
      obtain ⟨u, e, hu⟩ := sh
      rw [e]
      have z0 : st.x = 0 := zs 0 (by decide)
      have r1 := red_less (p := 1) u hpos
      have r2 := red_same (p := 1) (j := 0) u (st := st) z0
      refine ⟨red 1 st u, st, rfl, ?_, z0, hpos, r1.1, r1.2⟩
      have r3 : (red 1 st u).x = u.x := r2
      omega
    | 2, _, sh, hpos, zs =>
      obtain ⟨u, v, e, h1, h2, h3, h4, h5⟩ := sh
      rw [e]
      have z0 : st.x = 0 := zs 0 (by decide)
      have z1 : st.y = 0 := zs 1 (by decide)
      have ru := red_less (p := 2) u hpos
      have rv := red_less (p := 2) v hpos
      have ux : (red 2 st u).x = u.x := red_same (p := 2) (j := 0) u (st := st) z0
      have uy : (red 2 st u).y = u.y := red_same (p := 2) (j := 1) u (st := st) z1
      have vx : (red 2 st v).x = v.x := red_same (p := 2) (j := 0) v (st := st) z0
      have vy : (red 2 st v).y = v.y := red_same (p := 2) (j := 1) v (st := st) z1
      refine ⟨⟨red 2 st u, red 2 st v, st⟩, rfl, ⟨?_, z0, z1, ?_, ?_, hpos, ?_, ru, rv⟩⟩
      · show (red 2 st v).x = 0
        omega
      · show 0 < (red 2 st u).x
        omega
      · show 0 < (red 2 st v).y
        omega
      · show 0 ≤ (red 2 st u).y ∧ (red 2 st u).y < (red 2 st v).y
        omega
  · exact entL r (List.mem_filter.mp hr).1 j
  · rcases List.mem_append.mp hr with hr | hr
    · obtain ⟨r', h', rfl⟩ := List.mem_map.mp hr
      exact entB r' h' j
    · have e : r = st := by simpa using hr
      rw [e]
      exact Nat.le_trans (entS j) (Nat.pow_le_pow_right (by decide) (by omega))
  · have h1 := List.length_filter_le (fun r : V3 => decide (r.get p = 0)) LL
    have h2 := w.len
    have h3 := h.len
    omega
theorem Place.start (h1 : ∀ j, j < 3 → Span L0 (unitv s j)) (h2 : Ent (2 ^ E) L0) (hn : L0.length ≤ n) : Place s L0 n 0 E 0 [] L0 := ⟨SpanEq.refl _, fun r hr j hj => absurd hj (Nat.not_lt_zero _), fun j _ h => h1 j h, rfl, h2, fun r hr => (by cases hr), hn⟩
theorem Place.done {E F : Nat} (h : Place s L0 n 3 E F base left) : ∃ m : M3, base = m.rows ∧ Hnf m ∧ SpanEq m.rows L0 := by
  obtain ⟨m, e, hm⟩ := h.shape
  refine ⟨m, e, hm, SpanEq.trans ?_ h.span⟩
  rw [e]
  refine .of (fun r hr => Span.mem (List.mem_append_left _ hr)) fun r hr => ?_
  rcases List.mem_append.mp hr with hr | hr
  · exact Span.mem hr
  · have z := h.zero r hr
    have e : r = V3.zero := V3.ext' (z 0 (by decide)) (z 1 (by decide)) (z 2 (by decide))
    rw [e]
    exact .zero
end
end Tp
end

section
set_option Elab.async false
set_option linter.all false
set_option autoImplicit false
set_option maxRecDepth 100000
set_option maxHeartbeats 4000000
/-! Judgements over plain data: what an expression gives, said by data (D) in place of addresses. G: the part of the heap that is told by data and never changed; H: all that is tracked. -/
namespace Pd
open PySem L2 Evl

/-- plain data: what a value is worth, whatever its address; own: a list that is still being made -/
inductive D where
  | non | bl (b : Bool) | int (i : Int) | ty (n : String) | dk (ks : List Int) | scr (ns : List Int) | lst (xs : List D) | tup (xs : List D) | own (xs : List D)

mutual
/-- the value v is the datum d in the heap G -/
inductive Rp (K : PySem.W.Frag) (G : Hp) : D → V → Prop
  | non : Rp K G .non .non
  | bl (b : Bool) : Rp K G (.bl b) (.bl b)
  | int (i : Int) : Rp K G (.int i) (.int i)
  | ty (n : String) : Rp K G (.ty n) (.ty n)
  | dk {ks : List Int} {a : Addr} {kvs : List (Key × V)} : G a = some (.dK kvs) → kvs.map (·.1) = ks.map Sum.inl → Rp K G (.dk ks) (.ref a)
  | scr {ns : List Int} {a : Addr} : SqL K G a (ns.map V.int) → Rp K G (.scr ns) (.ref a)
  | lst {xs : List D} {a : Addr} {vs : List V} : G a = some (.lst vs) → Rps K G xs vs → Rp K G (.lst xs) (.ref a)
  | tup {xs : List D} {a : Addr} {vs : List V} : SqT K G a vs → Rps K G xs vs → Rp K G (.tup xs) (.ref a)
inductive Rps (K : PySem.W.Frag) (G : Hp) : List D → List V → Prop
  | nil : Rps K G [] []
  | cons {d : D} {v : V} {ds : List D} {vs : List V} : Rp K G d v → Rps K G ds vs → Rps K G (d :: ds) (v :: vs)
end

mutual
theorem Rp.mono {K : PySem.W.Frag} {G G' : Hp} (e : Ex G G') : ∀ {d : D} {v : V}, Rp K G d v → Rp K G' d v
  | _, _, .non => .non
  | _, _, .bl b => .bl b
  | _, _, .int i => .int i
  | _, _, .ty n => .ty n
  | _, _, .dk h k => .dk (e _ _ h) k
  | _, _, .scr h => .scr (ex_l e h)
  | _, _, .lst h r => .lst (e _ _ h) (Rps.mono e r)
  | _, _, .tup h r => .tup (ex_t e h) (Rps.mono e r)
theorem Rps.mono {K : PySem.W.Frag} {G G' : Hp} (e : Ex G G') : ∀ {ds : List D} {vs : List V}, Rps K G ds vs → Rps K G' ds vs
  | _, _, .nil => .nil
  | _, _, .cons h r => .cons (Rp.mono e h) (Rps.mono e r)
end
section
variable {K : PySem.W.Frag} {H H' : Hp}
theorem Rps.length : ∀ {ds : List D} {vs : List V}, Rps K H ds vs → ds.length = vs.length
  | _, _, .nil => rfl
  | _, _, .cons _ r => by rw [List.length_cons, List.length_cons, Rps.length r]
theorem Rps.get : ∀ {ds : List D} {vs : List V} {i : Nat} {d : D}, Rps K H ds vs → ds[i]? = some d → ∃ v, vs[i]? = some v ∧ Rp K H d v
  | _, _, _, _, .nil, h => by simp at h
  | _, _, 0, _, .cons r _, h => by
    simp at h
    subst h
    exact ⟨_, rfl, r⟩
  | _, _, i + 1, _, .cons _ t, h => by
    obtain ⟨v, e, r⟩ := Rps.get (i := i) t (by simpa using h)
    exact ⟨v, by simpa using e, r⟩
theorem Rps.append : ∀ {ds es : List D} {vs ws : List V}, Rps K H ds vs → Rps K H es ws → Rps K H (ds ++ es) (vs ++ ws)
  | _, _, _, _, .nil, s => s
  | _, _, _, _, .cons r t, s => .cons r (Rps.append t s)
theorem Rps.snoc {ds : List D} {vs : List V} {d : D} {v : V} (r : Rps K H ds vs) (h : Rp K H d v) : Rps K H (ds ++ [d]) (vs ++ [v]) := r.append (.cons h .nil)
theorem Rps.ints_inv : ∀ {l : List Int} {vs : List V}, Rps K H (l.map D.int) vs → vs = l.map V.int
  | [], _, .nil => rfl
  | a :: l, _, .cons h r => by
    cases h
    rw [Rps.ints_inv r]
    rfl
theorem Rps.ints : ∀ {l : List Int}, Rps K H (l.map D.int) (l.map V.int)
  | [] => .nil
  | a :: l => .cons (.int a) Rps.ints
theorem Rps.bls_inv : ∀ {l : List Bool} {vs : List V}, Rps K H (l.map D.bl) vs → vs = l.map V.bl
  | [], _, .nil => rfl
  | a :: l, _, .cons h r => by
    cases h
    rw [Rps.bls_inv r]
    rfl
end

/-! ### growth: all of H kept, the told part grown by new objects alone -/
structure Gr (G H G' H' : Hp) : Prop where
  ex : Ex H H'
  gx : Ex G G'
  sub : Ex G' H'
  new : ∀ a o, G' a = some o → G a = some o ∨ H a = none
section
variable {G H G' H' G'' H'' : Hp} {p : Addr} {o : HO}
theorem Gr.refl (s : Ex G H) : Gr G H G H := ⟨Ex.refl H, Ex.refl G, s, fun _ _ e => .inl e⟩
theorem Gr.trans (a : Gr G H G' H') (b : Gr G' H' G'' H'') : Gr G H G'' H'' := ⟨a.ex.trans b.ex, a.gx.trans b.gx, b.sub, fun x u e => (b.new x u e).elim (a.new x u) fun z => .inr (fresh_back a.ex z)⟩
theorem ex_upd (s : Ex G H) : Ex (upd G p o) (upd H p o) := fun b u e => by
  by_cases hb : b = p
  · subst hb
    rw [upd_same] at e ⊢
    exact e
  · rw [upd_ne hb] at e ⊢
    exact s b u e
theorem Gr.laid (s : Ex G H) (hp : H p = none) : Gr G H (upd G p o) (upd H p o) := ⟨Ex.new hp, Ex.new (fresh_back s hp), ex_upd s, fun a u e => by
  by_cases hb : a = p
  · subst hb
    exact .inr hp
  · rw [upd_ne hb] at e
    exact .inl e⟩
/-- what stands outside of the told part stays outside -/
theorem Gr.out (g : Gr G H G' H') {a : Addr} {u : HO} (h : G a = none) (hH : H a = some u) : G' a = none := by
  cases e : G' a with
  | none => rfl
  | some o =>
    rcases g.new a o e with z | z
    · rw [h] at z
      cases z
    · rw [hH] at z
      cases z
end

/-! ### environments: the slots' data -/
abbrev Dv := List (Option D)
def D.isOwn : D → Bool
  | .own _ => true
  | _ => false
structure DEnv (K : PySem.W.Frag) (σ : L2.St) (G : Hp) (δ : Dv) : Prop where
  len : σ.length = δ.length
  at_ : ∀ (i : Nat) (d : D), δ[i]? = some (some d) → d.isOwn = false → ∃ v, σ[i]? = some (some v) ∧ Rp K G d v
def wipeD (δ : Dv) : List Nat → Dv
  | [] => δ
  | v :: vs => (wipeD δ vs).set v none
section
variable {K : PySem.W.Frag} {G G' : Hp} {σ σ' : L2.St} {δ : Dv}
theorem DEnv.mono (e : Ex G G') (h : DEnv K σ G δ) : DEnv K σ G' δ := ⟨h.len, fun i d q n => by
  obtain ⟨v, a, r⟩ := h.at_ i d q n
  exact ⟨v, a, r.mono e⟩⟩
theorem DEnv.set {i : Nat} {d : D} {v : V} (h : DEnv K σ G δ) (r : Rp K G d v) : DEnv K (σ.set i (some v)) G (δ.set i (some d)) := ⟨by simpa using h.len, fun j e q n => by
  by_cases hj : j = i
  · subst hj
    by_cases hl : j < δ.length
    · rw [List.getElem?_set_self hl] at q
      cases q
      exact ⟨v, List.getElem?_set_self (by rw [h.len]; exact hl), r⟩
    · rw [List.getElem?_eq_none (by simpa using hl)] at q
      cases q
  · rw [List.getElem?_set_ne (Ne.symm hj)] at q ⊢
    exact h.at_ j e q n⟩
theorem DEnv.drop {i : Nat} (h : DEnv K σ G δ) : DEnv K (σ.set i none) G (δ.set i none) := ⟨by simpa using h.len, fun j e q n => by
  by_cases hj : j = i
  · subst hj
    by_cases hl : j < δ.length
    · rw [List.getElem?_set_self hl] at q
      cases q
    · rw [List.getElem?_eq_none (by simpa using hl)] at q
      cases q
  · rw [List.getElem?_set_ne (Ne.symm hj)] at q ⊢
    exact h.at_ j e q n⟩
theorem DEnv.wipe (h : DEnv K σ G δ) : ∀ vs : List Nat, DEnv K (wipe σ vs) G (wipeD δ vs)
  | [] => h
  | _ :: vs => (DEnv.wipe h vs).drop
theorem DEnv.start {N : List Str} {ds : List D} {vs : List V} (h : Rps K G ds vs) : DEnv K (start N vs) G (ds.map some ++ List.replicate (N.length - ds.length) none) := by
  have hl := h.length
  refine ⟨?_, fun i d q _ => ?_⟩
  · unfold L2.start
    rw [List.length_append, List.length_append, List.length_map, List.length_map, List.length_replicate, List.length_replicate, hl]
  · by_cases hi : i < ds.length
    · rw [List.getElem?_append_left (by simpa using hi), List.getElem?_map] at q
      cases e : ds[i]? with
      | none =>
        rw [e] at q
        cases q
      | some d' =>
        rw [e] at q
        cases q
        obtain ⟨v, ev, r⟩ := h.get e
        refine ⟨v, ?_, r⟩
        unfold L2.start
        rw [List.getElem?_append_left (by rw [List.length_map]; omega), List.getElem?_map, ev]
        rfl
    · rw [List.getElem?_append_right (by simpa using hi), List.getElem?_replicate] at q
      split at q <;> cases q
/-- outside of vs nothing is changed -/
theorem wipe_same : ∀ {vs : List Nat} {σ σ' : L2.St}, σ'.length = σ.length → (∀ i, i ∉ vs → σ'[i]? = σ[i]?) → L2.wipe σ' vs = L2.wipe σ vs := by
  intro vs σ σ' hl h
  refine List.ext_getElem? fun i => ?_
  have key : ∀ (τ : L2.St), (L2.wipe τ vs)[i]? = if i ∈ vs then (if i < τ.length then some none else none) else τ[i]? := fun τ => by
    clear h hl
    induction vs with
    | nil => simp [L2.wipe]
    | cons v vs ih =>
      show ((L2.wipe τ vs).set v none)[i]? = _
      rw [List.getElem?_set]
      by_cases hv : v = i
      · subst hv
        rw [if_pos rfl, if_pos List.mem_cons_self, wipe_length]
      · rw [if_neg hv, ih]
        by_cases hm : i ∈ vs
        · rw [if_pos hm, if_pos (List.mem_cons_of_mem _ hm)]
        · rw [if_neg hm, if_neg (fun z => (List.mem_cons.mp z).elim (fun q => hv q.symm) hm)]
  rw [key, key, hl]
  by_cases hm : i ∈ vs
  · rw [if_pos hm, if_pos hm]
  · rw [if_neg hm, if_neg hm, h i hm]
theorem wipe_wipe (σ : L2.St) (vs : List Nat) : L2.wipe (L2.wipe σ vs) vs = L2.wipe σ vs := wipe_same (wipe_length σ vs) fun i hi => by
  induction vs with
  | nil => rfl
  | cons v vs ih =>
    show ((L2.wipe σ vs).set v none)[i]? = _
    rw [List.getElem?_set_ne (fun z => hi (by rw [z]; exact List.mem_cons_self))]
    exact ih fun z => hi (List.mem_cons_of_mem _ z)
end
/-- .. for statements: H₀ the heap at the def's entry; an own list stands outside of the told part and is new since then -/
structure SEnv (K : PySem.W.Frag) (σ : L2.St) (H0 G H : Hp) (δ : Dv) : Prop where
  env : DEnv K σ G δ
  own : ∀ (i : Nat) (ds : List D), δ[i]? = some (some (.own ds)) → ∃ p vs, σ[i]? = some (some (.ref p)) ∧ H0 p = none ∧ G p = none ∧ H p = some (.lst vs) ∧ Rps K G ds vs
  one : ∀ (i j : Nat) (ds es : List D), δ[i]? = some (some (.own ds)) → δ[j]? = some (some (.own es)) → i = j
theorem SEnv.grow {K : PySem.W.Frag} {σ : L2.St} {H0 G H G' H' : Hp} {δ : Dv} (e : SEnv K σ H0 G H δ) (g : Gr G H G' H') : SEnv K σ H0 G' H' δ := ⟨e.env.mono g.gx, fun i ds q => by
  obtain ⟨p, vs, a, b, c, d, r⟩ := e.own i ds q
  exact ⟨p, vs, a, b, g.out c d, g.ex _ _ d, r.mono g.gx⟩, e.one⟩
theorem SEnv.set {K : PySem.W.Frag} {σ : L2.St} {H0 G H : Hp} {δ : Dv} {i : Nat} {d : D} {v : V} (e : SEnv K σ H0 G H δ) (r : Rp K G d v) : SEnv K (σ.set i (some v)) H0 G H (δ.set i (some d)) := by
  have nd : ∀ ds, d ≠ .own ds := fun ds z => by
    subst z
    cases r
  have back : ∀ (j : Nat) (ds : List D), (δ.set i (some d))[j]? = some (some (.own ds)) → j ≠ i ∧ δ[j]? = some (some (.own ds)) := fun j ds q => by
    by_cases hj : j = i
    · subst hj
      by_cases hl : j < δ.length
      · rw [List.getElem?_set_self hl] at q
        exact absurd (Option.some.inj (Option.some.inj q)) (nd ds)
      · rw [List.getElem?_eq_none (by simpa using hl)] at q
        cases q
    · rw [List.getElem?_set_ne (Ne.symm hj)] at q
      exact ⟨hj, q⟩
  refine ⟨e.env.set r, fun j ds q => ?_, fun j k ds es q1 q2 => e.one j k ds es (back j ds q1).2 (back k es q2).2⟩
  obtain ⟨hj, q⟩ := back j ds q
  obtain ⟨p, vs, a, b⟩ := e.own j ds q
  exact ⟨p, vs, by rw [List.getElem?_set_ne (Ne.symm hj)]; exact a, b⟩

/-! ### readings -/
/-- gives some datum of which P holds -/
def tD (K : PySem.W.Frag) (δ : Dv) (P : D → Prop) : TE := fun σ H Q => ∃ G, Ex G H ∧ DEnv K σ G δ ∧ ∀ v G' H' d, Gr G H G' H' → Rp K G' d v → P d → Q v H'
def tTD (K : PySem.W.Frag) (δ : Dv) (b : Bool) : TT := fun σ H Q => ∃ G, Ex G H ∧ DEnv K σ G δ ∧ ∀ G' H', Gr G H G' H' → Q b H'
def tAD (K : PySem.W.Frag) (δ : Dv) (P : List D → Prop) : TA := fun σ H Q => ∃ G, Ex G H ∧ DEnv K σ G δ ∧ ∀ vs G' H' ds, Gr G H G' H' → Rps K G' ds vs → P ds → Q vs H'
def gD (K : PySem.W.Frag) (δ : Dv) (x : D) (δ' : Dv) (js : List Nat) : TG := fun v σ H Q => ∃ G, Ex G H ∧ DEnv K σ G δ ∧ Rp K G x v ∧ ∀ σ', DEnv K σ' G δ' → σ'.length = σ.length → (∀ i, i ∉ js → σ'[i]? = σ[i]?) → Q σ' H
def gsD (K : PySem.W.Frag) (δ : Dv) (xs : List D) (δ' : Dv) (js : List Nat) : TGs := fun vs σ H Q => ∃ G, Ex G H ∧ DEnv K σ G δ ∧ Rps K G xs vs ∧ ∀ σ', DEnv K σ' G δ' → σ'.length = σ.length → (∀ i, i ∉ js → σ'[i]? = σ[i]?) → Q σ' H
def Src (J : It) (K : PySem.W.Frag) (G1 : Hp) (xs : List D) : Prop := ∀ i G' H', Ex G1 G' → Ex G' H' →
  (∀ x, xs[i]? = some x → J.go i H' ∧ ∀ v H'', J.yld i H' v H'' → ∃ G'', Gr G' H' G'' H'' ∧ Rp K G'' x v) ∧ (xs.length ≤ i → J.stop i H')
def iD (K : PySem.W.Frag) (δ : Dv) (xs : List D) : TI := fun σ H R => ∃ G, Ex G H ∧ DEnv K σ G δ ∧ ∀ J G1 H1, Gr G H G1 H1 → Src J K G1 xs → R J H1
structure Out where
  nx : Dv → Prop
  rt : D → Prop
  bk : Dv → Prop := fun _ => False
  ct : Dv → Prop := fun _ => False
structure Fin (K : PySem.W.Frag) (G0 H0 : Hp) (O : Out) (D₀ : Ends) : Prop where
  nx : ∀ σ' G' H' δ', Gr G0 H0 G' H' → SEnv K σ' H0 G' H' δ' → O.nx δ' → D₀.nx σ' H'
  rt : ∀ v G' H' d, Gr G0 H0 G' H' → Rp K G' d v → O.rt d → D₀.rt v H'
  bk : ∀ σ' G' H' δ', Gr G0 H0 G' H' → SEnv K σ' H0 G' H' δ' → O.bk δ' → D₀.bk σ' H'
  ct : ∀ σ' G' H' δ', Gr G0 H0 G' H' → SEnv K σ' H0 G' H' δ' → O.ct δ' → D₀.ct σ' H'
def tSD (K : PySem.W.Frag) (δ : Dv) (O : Out) : TS := fun D₀ σ H => ∃ G0 H0 G, Gr G0 H0 G H ∧ SEnv K σ H0 G H δ ∧ Fin K G0 H0 O D₀

/-- e gives a datum with P; e gives d -/
abbrev PR (X : Cx) (e : Expr) (δ : Dv) (P : D → Prop) : Prop := PE X e (tD X.K δ P)
abbrev PD (X : Cx) (e : Expr) (δ : Dv) (d : D) : Prop := PR X e δ (fun z => z = d)
abbrev TD (X : Cx) (e : Expr) (δ : Dv) (b : Bool) : Prop := PT X e (tTD X.K δ b)
abbrev WD (X : Cx) (e : Expr) (δ : Dv) (b : Bool) : Prop := PW X e (tTD X.K δ b)
abbrev AR (X : Cx) (es : List Expr) (δ : Dv) (P : List D → Prop) : Prop := PA X es (tAD X.K δ P)
abbrev AD (X : Cx) (es : List Expr) (δ : Dv) (ds : List D) : Prop := AR X es δ (fun z => z = ds)
/-- the slots at js are stored, no other -/
structure Stored (δ δ' : Dv) (js : List Nat) : Prop where
  same : ∀ i, i ∉ js → δ'[i]? = δ[i]?
  no : ∀ i, i ∈ js → ∀ ds, δ'[i]? ≠ some (some (.own ds))
structure GD (X : Cx) (tg : Expr) (δ : Dv) (x : D) (δ' : Dv) (js : List Nat) : Prop where
  run : PG X tg (gD X.K δ x δ' js)
  st : Stored δ δ' js
structure GDs (X : Cx) (tgs : List Expr) (δ : Dv) (xs : List D) (δ' : Dv) (js : List Nat) : Prop where
  run : PGs X tgs (gsD X.K δ xs δ' js)
  st : Stored δ δ' js
abbrev ID (X : Cx) (tg e : Expr) (δ : Dv) (xs : List D) : Prop := PI X tg e (iD X.K δ xs)
abbrev SD (X : Cx) (st : Stmt) (δ : Dv) (O : Out) : Prop := PS X st (tSD X.K δ O)
abbrev BD (X : Cx) (sts : List Stmt) (δ : Dv) (O : Out) : Prop := PSs X sts (tSD X.K δ O)

section
variable {X : Cx}
theorem pe_weak {e : Expr} {t t' : TE} (h : PE X e t) (w : ∀ σ H Q, t' σ H Q → t σ H Q) : PE X e t' := ⟨fun pins s σ H Q I q => h.run pins s σ H Q I (w _ _ _ q)⟩
theorem pt_weak {e : Expr} {t t' : TT} (h : PT X e t) (w : ∀ σ H Q, t' σ H Q → t σ H Q) : PT X e t' := ⟨fun pins s σ H Q I q => h.run pins s σ H Q I (w _ _ _ q)⟩
theorem pw_weak {e : Expr} {t t' : TT} (h : PW X e t) (w : ∀ σ H Q, t' σ H Q → t σ H Q) : PW X e t' := ⟨fun wh pins s σ H Q I q => h.run wh pins s σ H Q I (w _ _ _ q)⟩
theorem pa_weak {es : List Expr} {t t' : TA} (h : PA X es t) (w : ∀ σ H Q, t' σ H Q → t σ H Q) : PA X es t' := ⟨fun pos pins s σ H Q I q => h.run pos pins s σ H Q I (w _ _ _ q)⟩
theorem pg_weak {e : Expr} {t t' : TG} (h : PG X e t) (w : ∀ v σ H Q, t' v σ H Q → t v σ H Q) : PG X e t' := ⟨fun pins s σ H v u Q I r q => h.run pins s σ H v u Q I r (w _ _ _ _ q)⟩
theorem pgs_weak {es : List Expr} {t t' : TGs} (h : PGs X es t) (w : ∀ v σ H Q, t' v σ H Q → t v σ H Q) : PGs X es t' := ⟨fun pins s σ H v u Q I r q => h.run pins s σ H v u Q I r (w _ _ _ _ q)⟩
theorem pi_weak {tg e : Expr} {t t' : TI} (h : PI X tg e t) (w : ∀ σ H R, t' σ H R → t σ H R) : PI X tg e t' := ⟨fun pins s σ H R I q => h.run pins s σ H R I (w _ _ _ q)⟩
theorem ps_weak {st : Stmt} {t t' : TS} (h : PS X st t) (w : ∀ D₀ σ H, t' D₀ σ H → t D₀ σ H) : PS X st t' := ⟨fun pins s σ H D₀ I q => h.run pins s σ H D₀ I (w _ _ _ q)⟩
theorem pss_weak {sts : List Stmt} {t t' : TS} (h : PSs X sts t) (w : ∀ D₀ σ H, t' D₀ σ H → t D₀ σ H) : PSs X sts t' := ⟨fun pins s σ H D₀ I q => h.run pins s σ H D₀ I (w _ _ _ q)⟩
/-- any reading that is shown -/
def uE (X : Cx) (e : Expr) : TE := fun σ H Q => ∃ t, PE X e t ∧ t σ H Q
def uW (X : Cx) (e : Expr) : TT := fun σ H Q => ∃ t, PW X e t ∧ t σ H Q
def uT (X : Cx) (e : Expr) : TT := fun σ H Q => ∃ t, PT X e t ∧ t σ H Q
def uSs (X : Cx) (sts : List Stmt) : TS := fun D₀ σ H => ∃ t, PSs X sts t ∧ t D₀ σ H
def uG (X : Cx) (e : Expr) : TG := fun v σ H Q => ∃ t, PG X e t ∧ t v σ H Q
theorem pe_u {e : Expr} : PE X e (uE X e) := ⟨fun pins s σ H Q I ⟨_, h, q⟩ => h.run pins s σ H Q I q⟩
theorem pw_u {e : Expr} : PW X e (uW X e) := ⟨fun wh pins s σ H Q I ⟨_, h, q⟩ => h.run wh pins s σ H Q I q⟩
theorem pt_u {e : Expr} : PT X e (uT X e) := ⟨fun pins s σ H Q I ⟨_, h, q⟩ => h.run pins s σ H Q I q⟩
theorem pss_u {sts : List Stmt} : PSs X sts (uSs X sts) := ⟨fun pins s σ H D₀ I ⟨_, h, q⟩ => h.run pins s σ H D₀ I q⟩
theorem pg_u {e : Expr} : PG X e (uG X e) := ⟨fun pins s σ H v u Q I r ⟨_, h, q⟩ => h.run pins s σ H v u Q I r q⟩
theorem PR.imp {e : Expr} {δ : Dv} {P P' : D → Prop} (h : PR X e δ P) (w : ∀ d, P d → P' d) : PR X e δ P' := pe_weak h fun σ H Q ⟨G, s, a, k⟩ => ⟨G, s, a, fun v G2 H2 d e r p => k v G2 H2 d e r (w d p)⟩
theorem PD.pr {e : Expr} {δ : Dv} {P : D → Prop} {d : D} (h : PD X e δ d) (p : P d) : PR X e δ P := PR.imp h fun z q => by rw [q]; exact p
theorem PD.to {e : Expr} {δ : Dv} {d d' : D} (h : PD X e δ d) (q : d = d') : PD X e δ d' := by rw [← q]; exact h

/-! ### names, constants -/
/-- what the slot i holds -/
def slot (δ : Dv) (i : Nat) : D := match δ[i]? with
  | some (some d) => d
  | _ => .non
theorem pd_var (i : Nat) {x : Str} {pos : Pos} {δ : Dv} (hδ : δ[i]? = some (some (slot δ i)) := by rfl) (ho : (slot δ i).isOwn = false := by rfl) (hN : X.N[i]? = some x := by rfl) (hv : Vis X.env.scope x := by first | exact Or.inl rfl | exact Or.inr (Or.inl rfl) | exact Or.inr (Or.inr rfl)) (hd : (x == ("__debug__" : Str)) = false := by decide)
    (hcd : (x == ("__classdict__" : Str)) = false := by decide) : PD X (.Name x pos) δ (slot δ i) := pe_weak (pe_var hN hv hd hcd) fun σ H Q ⟨G, s, a, k⟩ => by
  obtain ⟨v, e, r⟩ := a.at_ i _ hδ ho
  exact ⟨v, e, k v G H _ (Gr.refl s) r rfl⟩
theorem pd_int {i : Int} {j pos} {δ : Dv} : PD X (.Constant (.int i) j pos) δ (.int i) := pe_weak pe_int fun σ H Q ⟨G, s, a, k⟩ => k _ G H _ (Gr.refl s) (.int i) rfl
theorem pd_bl {b : Bool} {j pos} {δ : Dv} : PD X (.Constant (.bool b) j pos) δ (.bl b) := pe_weak pe_bl fun σ H Q ⟨G, s, a, k⟩ => k _ G H _ (Gr.refl s) (.bl b) rfl
theorem pd_glob {x : Str} {v : V} {u : Value} {pos : Pos} {δ : Dv} {d : D} (hm : X.mg x = some u) (r : RelV v u) (h : ∀ G, Rp X.K G d v) (hg : Gl X x := by rfl) (hd : (x == ("__debug__" : Str)) = false := by decide) : PD X (.Name x pos) δ d :=
  pe_weak (pe_glob hg hm r hd) fun σ H Q ⟨G, s, a, k⟩ => k _ G H _ (Gr.refl s) (h G) rfl
theorem pd_type {x : Str} {n : String} {pos : Pos} {δ : Dv} (hm : X.mg x = none) (hv : bootBuiltins x = some (.type n)) (hg : Gl X x := by rfl) (hn : x ≠ "__name__" := by decide) (hd : (x == ("__debug__" : Str)) = false := by decide) : PD X (.Name x pos) δ (.ty n) :=
  pe_weak (pe_bltn (v := V.ty n) hg hm hv rfl hn hd) fun σ H Q ⟨G, s, a, k⟩ => k _ G H _ (Gr.refl s) (.ty n) rfl

/-! ### operators -/
/-- an operation on data -/
def RD (K : PySem.W.Frag) (r : R2) (x y z : D) : Prop := ∀ u v G H (Q : VK), Ex G H → Rp K G x u → Rp K G y v → (∀ w G2 H2, Gr G H G2 H2 → Rp K G2 z w → Q w H2) → r u v H Q
theorem t_bin {r : R2} {x y z : D} {δ : Dv} (hr : RD X.K r x y z) : ∀ σ H Q, tD X.K δ (fun d => d = z) σ H Q → tOp r (tD X.K δ (fun d => d = x)) (tD X.K δ (fun d => d = y)) σ H Q :=
  fun σ H Q ⟨G, s, a, k⟩ => ⟨G, s, a, fun u G1 H1 d1 e1 r1 q1 => ⟨G1, e1.sub, a.mono e1.gx, fun v G2 H2 d2 e2 r2 q2 => by
    subst q1
    subst q2
    exact hr u v G2 H2 Q e2.sub (r1.mono e2.gx) r2 fun w G3 H3 e3 r3 => k w G3 H3 z ((e1.trans e2).trans e3) r3 rfl⟩⟩
theorem pd_bin {a b : Expr} {op : Operator} {r : R2} {x y z : D} {δ : Dv} {pos : Pos} (ho : OpR X (binaryOp op) r) (hr : RD X.K r x y z) (ha : PD X a δ x) (hb : PD X b δ y) : PD X (.BinOp a op b pos) δ z :=
  pe_weak (pe_op ho ha hb) (t_bin hr)
theorem pd_cmp {a b : Expr} {op : CmpOp} {r : R2} {x y z : D} {δ : Dv} {pos : Pos} (ho : OpR X (compareOp op) r) (hr : RD X.K r x y z) (ha : PD X a δ x) (hb : PD X b δ y) (hm : behindInMarks op b = false) : PD X (.Compare a [op] [b] pos) δ z :=
  pe_weak (pe_cmpR ho ha hb hm) (t_bin hr)
theorem td_cmp {a b : Expr} {op : CmpOp} {r : R2} {x y : D} {k : Bool} {δ : Dv} {pos : Pos} (ho : OpR X (compareOp op) r) (hr : RD X.K r x y (.bl k)) (ha : PD X a δ x) (hb : PD X b δ y) (hm : behindInMarks op b = false) : TD X (.Compare a [op] [b] pos) δ k :=
  pt_weak (pt_cmpR ho ha hb hm) fun σ H Q ⟨G, s, a, q⟩ => t_bin hr σ H _ ⟨G, s, a, fun v G2 H2 d e r p => by
    subst p
    cases r
    exact ⟨k, rfl, q G2 H2 e⟩⟩
theorem rd_I {K : PySem.W.Frag} {C : Int → Int → Prop} {g : Int → Int → Int} {i j : Int} (hc : C i j) : RD K (rI C fun i j => .int (g i j)) (.int i) (.int j) (.int (g i j)) := fun u v G H Q s r1 r2 k => by
  cases r1
  cases r2
  exact ⟨i, j, rfl, rfl, hc, k _ G H (Gr.refl s) (.int _)⟩
theorem rd_I0 {K : PySem.W.Frag} {g : Int → Int → Int} {i j : Int} : RD K (rI0 fun i j => .int (g i j)) (.int i) (.int j) (.int (g i j)) := fun u v G H Q s r1 r2 k => by
  cases r1
  cases r2
  exact ⟨i, j, rfl, rfl, k _ G H (Gr.refl s) (.int _)⟩
theorem rd_B0 {K : PySem.W.Frag} {g : Int → Int → Bool} {i j : Int} : RD K (rI0 fun i j => .bl (g i j)) (.int i) (.int j) (.bl (g i j)) := fun u v G H Q s r1 r2 k => by
  cases r1
  cases r2
  exact ⟨i, j, rfl, rfl, k _ G H (Gr.refl s) (.bl _)⟩
theorem rd_eqI {K : PySem.W.Frag} {i j : Int} : RD K rEq (.int i) (.int j) (.bl (decide (i = j))) := fun u v G H Q s r1 r2 k => by
  cases r1
  cases r2
  refine ⟨rfl, ?_⟩
  rw [dec_int, show (i == j) = decide (i = j) from rfl]
  exact k _ G H (Gr.refl s) (.bl _)
theorem rd_neI {K : PySem.W.Frag} {i j : Int} : RD K rNe (.int i) (.int j) (.bl (!decide (i = j))) := fun u v G H Q s r1 r2 k => by
  cases r1
  cases r2
  refine ⟨rfl, ?_⟩
  rw [dec_int, show (i == j) = decide (i = j) from rfl]
  exact k _ G H (Gr.refl s) (.bl _)
/-- * of any two ints whose product has room -/
theorem op_mulA : OpR X (binaryOp .Mult) (rI IntMulOk fun i j => .int (i * j)) := opI fun _ _ _ _ _ _ _ hc q => PyProof.Rows.mul_int q hc
/-- a divisor of either sign, below 2 ^ 9000 -/
def CDivA (_ j : Int) : Prop := j ≠ 0 ∧ j.natAbs.log2 < 9000
theorem op_fdivA : OpR X (binaryOp .FloorDiv) (rI CDivA fun i j => .int (i.fdiv j)) := opI fun _ _ _ _ _ _ _ hc q => PyProof.Rows.floordiv_int hc.1 q (.inl (PyProof.noPylong_of_log2 hc.2))
section
variable {a b : Expr} {δ : Dv} {pos : Pos} {i j : Int}
theorem pd_add (ha : PD X a δ (.int i)) (hb : PD X b δ (.int j)) : PD X (.BinOp a .Add b pos) δ (.int (i + j)) := pd_bin op_add rd_I0 ha hb
theorem pd_sub (ha : PD X a δ (.int i)) (hb : PD X b δ (.int j)) : PD X (.BinOp a .Sub b pos) δ (.int (i - j)) := pd_bin op_sub rd_I0 ha hb
theorem pd_mul (ha : PD X a δ (.int i)) (hb : PD X b δ (.int j)) (hc : IntMulOk i j) : PD X (.BinOp a .Mult b pos) δ (.int (i * j)) := pd_bin op_mulA (rd_I hc) ha hb
theorem pd_fdiv (ha : PD X a δ (.int i)) (hb : PD X b δ (.int j)) (hc : CDivA i j) : PD X (.BinOp a .FloorDiv b pos) δ (.int (i.fdiv j)) := pd_bin op_fdivA (rd_I hc) ha hb
theorem pd_mod (ha : PD X a δ (.int i)) (hb : PD X b δ (.int j)) (hc : j ≠ 0) : PD X (.BinOp a .Mod b pos) δ (.int (i.fmod j)) := pd_bin op_modN (rd_I hc) ha hb
theorem pd_eq (ha : PD X a δ (.int i)) (hb : PD X b δ (.int j)) : PD X (.Compare a [.Eq] [b] pos) δ (.bl (decide (i = j))) := pd_cmp op_eq rd_eqI ha hb (nomark _)
theorem pd_ne (ha : PD X a δ (.int i)) (hb : PD X b δ (.int j)) : PD X (.Compare a [.NotEq] [b] pos) δ (.bl (!decide (i = j))) := pd_cmp op_ne rd_neI ha hb (nomark _)
theorem td_eq (ha : PD X a δ (.int i)) (hb : PD X b δ (.int j)) : TD X (.Compare a [.Eq] [b] pos) δ (decide (i = j)) := td_cmp op_eq rd_eqI ha hb (nomark _)
theorem td_ne (ha : PD X a δ (.int i)) (hb : PD X b δ (.int j)) : TD X (.Compare a [.NotEq] [b] pos) δ (!decide (i = j)) := td_cmp op_ne rd_neI ha hb (nomark _)
theorem td_lt (ha : PD X a δ (.int i)) (hb : PD X b δ (.int j)) : TD X (.Compare a [.Lt] [b] pos) δ (decide (i < j)) := td_cmp op_lt rd_B0 ha hb (nomark _)
theorem td_gt (ha : PD X a δ (.int i)) (hb : PD X b δ (.int j)) : TD X (.Compare a [.Gt] [b] pos) δ (decide (j < i)) := td_cmp op_gt rd_B0 ha hb (nomark _)
theorem td_ge (ha : PD X a δ (.int i)) (hb : PD X b δ (.int j)) : TD X (.Compare a [.GtE] [b] pos) δ (decide (j ≤ i)) := td_cmp op_ge rd_B0 ha hb (nomark _)
theorem pd_neg (ha : PD X a δ (.int i)) : PD X (.UnaryOp .USub a pos) δ (.int (-i)) := pe_weak (pe_un un_neg ha) fun σ H Q ⟨G, s, a, k⟩ => ⟨G, s, a, fun v G2 H2 d e r q => by
  subst q
  cases r
  exact ⟨i, rfl, k _ G2 H2 _ e (.int _) rfl⟩⟩
end
end
end Pd
end

section
set_option Elab.async false
set_option linter.all false
set_option autoImplicit false
set_option maxRecDepth 100000
set_option maxHeartbeats 4000000
namespace Pd
open PySem L2 Evl

/-! ### data as the library's own data -/
mutual
def D.py : D → PyData
  | .non => .none
  | .bl b => .bool b
  | .int i => .int i
  | .ty _ => .none
  | .dk _ => .none
  | .scr _ => .none
  | .own _ => .none
  | .lst xs => .list (D.pys xs)
  | .tup xs => .tuple (D.pys xs)
def D.pys : List D → List PyData
  | [] => []
  | x :: xs => D.py x :: D.pys xs
end
mutual
def D.ok : D → Bool
  | .non => true
  | .bl _ => true
  | .int _ => true
  | .ty _ => false
  | .dk _ => false
  | .scr _ => false
  | .own _ => false
  | .lst xs => D.oks xs
  | .tup xs => D.oks xs
def D.oks : List D → Bool
  | [] => true
  | x :: xs => D.ok x && D.oks xs
end
section
variable {K : PySem.W.Frag} {H : Hp}
mutual
theorem Rp.dp : ∀ {d : D} {v : V}, Rp K H d v → D.ok d = true → Dp K H v (D.py d)
  | _, _, .non, _ => .non
  | _, _, .bl b, _ => .bl b
  | _, _, .int i, _ => .int i
  | _, _, .ty n, h => by simp [D.ok] at h
  | _, _, .dk _ _, h => by simp [D.ok] at h
  | _, _, .scr _, h => by simp [D.ok] at h
  | _, _, .lst h r, k => .lst (SqL.of h) (Rps.dp r (by simpa [D.ok] using k))
  | _, _, .tup h r, k => .tup h (Rps.dp r (by simpa [D.ok] using k))
theorem Rps.dp : ∀ {ds : List D} {vs : List V}, Rps K H ds vs → D.oks ds = true → DpAll K H vs (D.pys ds)
  | _, _, .nil, _ => .nil
  | _, _, .cons h r, k => .cons (Rp.dp h (by simp [D.oks] at k; exact k.1)) (Rps.dp r (by simp [D.oks] at k; exact k.2))
end
end
theorem pys_ints : ∀ l : List Int, D.pys (l.map D.int) = l.map PySem.W.Datum.toD
  | [] => rfl
  | a :: l => by
    show D.py (D.int a) :: D.pys (l.map D.int) = _
    rw [pys_ints l]
    rfl
theorem oks_ints : ∀ l : List Int, D.oks (l.map D.int) = true
  | [] => rfl
  | a :: l => by
    show (D.ok (D.int a) && D.oks (l.map D.int)) = true
    rw [oks_ints l]
    rfl
def pairD (p : Int × Int) : D := .tup [.int p.1, .int p.2]
theorem pys_pairs : ∀ l : List (Int × Int), D.pys (l.map pairD) = l.map PySem.W.Datum.toD
  | [] => rfl
  | a :: l => by
    show D.py (pairD a) :: D.pys (l.map pairD) = _
    rw [pys_pairs l]
    rfl
theorem oks_pairs : ∀ l : List (Int × Int), D.oks (l.map pairD) = true
  | [] => rfl
  | a :: l => by
    show (D.ok (pairD a) && D.oks (l.map pairD)) = true
    rw [oks_pairs l]
    rfl

section
variable {X : Cx} {δ : Dv}

/-! ### argument lists -/
theorem ad_nil : AD X [] δ [] := pa_weak pa_nil fun σ H Q ⟨G, s, a, k⟩ => k [] G H [] (Gr.refl s) .nil rfl
theorem ar_cons {e : Expr} {es : List Expr} {P : List D → Prop} {P1 : D → Prop} {P2 : List D → Prop} (he : PR X e δ P1) (hr : AR X es δ P2) (hp : ∀ d ds, P1 d → P2 ds → P (d :: ds))
    (hs : starEach (e :: es) X.env = (false, eval e X.env) :: starEach es X.env := by rfl) : AR X (e :: es) δ P :=
  pa_weak (pa_cons he hr hs) fun σ H Q ⟨G, s, a, k⟩ => ⟨G, s, a, fun v G1 H1 d e1 r1 p1 => ⟨G1, e1.sub, a.mono e1.gx, fun vs G2 H2 ds e2 r2 p2 => k (v :: vs) G2 H2 (d :: ds) (e1.trans e2) (.cons (r1.mono e2.gx) r2) (hp d ds p1 p2)⟩⟩
theorem ad_cons {e : Expr} {es : List Expr} {d : D} {ds : List D} (he : PD X e δ d) (hr : AD X es δ ds) (hs : starEach (e :: es) X.env = (false, eval e X.env) :: starEach es X.env := by rfl) : AD X (e :: es) δ (d :: ds) :=
  ar_cons he hr (fun z zs p q => by rw [p, q]) hs
theorem ad_starT {e : Expr} {es : List Expr} {p : Pos} {xs ds : List D} (he : PD X e δ (.tup xs)) (hr : AD X es δ ds)
    (hs : starEach (.Starred e p :: es) X.env = (true, eval e X.env) :: starEach es X.env := by rfl) : AD X (.Starred e p :: es) δ (xs ++ ds) :=
  pa_weak (StX.pa_star he hr hs) fun σ H Q ⟨G, s, a, k⟩ => ⟨G, s, a, fun v G1 H1 d e1 r1 p1 => by
    subst p1
    cases r1 with
    | tup h r =>
      exact ⟨_, _, rfl, .inl (ex_t e1.sub h), G1, e1.sub, a.mono e1.gx, fun vs G2 H2 zs e2 r2 p2 => by
        subst p2
        exact k _ G2 H2 _ (e1.trans e2) ((r.mono e2.gx).append r2) rfl⟩⟩
theorem AD.to {es : List Expr} {ds ds' : List D} (h : AD X es δ ds) (q : ds = ds') : AD X es δ ds' := by rw [← q]; exact h

/-! ### displays -/
theorem pd_lst {es : List Expr} {ds : List D} {pos : Pos} (h : AD X es δ ds) (hl : ds.length ≤ 100000) : PD X (.List es pos) δ (.lst ds) :=
  pe_weak (pe_lst h) fun σ H Q ⟨G, s, a, k⟩ => ⟨G, s, a, fun vs G1 H1 zs e1 r1 q1 => by
    subst q1
    exact ⟨sz_of (by rw [← r1.length]; exact hl), fun p hp => k _ _ _ _ (e1.trans (Gr.laid e1.sub hp)) (.lst upd_same (r1.mono (Gr.laid e1.sub hp).gx)) rfl⟩⟩
theorem pd_tup {es : List Expr} {ds : List D} {x1} {pos : Pos} (h : AD X es δ ds) (hl : ds.length ≤ 100000) : PD X (.Tuple es x1 pos) δ (.tup ds) :=
  pe_weak (pe_tup h) fun σ H Q ⟨G, s, a, k⟩ => ⟨G, s, a, fun vs G1 H1 zs e1 r1 q1 => by
    subst q1
    exact ⟨sz_of (by rw [← r1.length]; exact hl), fun p hp => k _ _ _ _ (e1.trans (Gr.laid e1.sub hp)) (.tup (SqT.of upd_same) (r1.mono (Gr.laid e1.sub hp).gx)) rfl⟩⟩

/-! ### items -/
theorem pd_ixL {a b : Expr} {pos : Pos} {ds : List D} {d : D} (j : Nat) (ha : PD X a δ (.lst ds)) (hb : PD X b δ (.int (j : Int))) (hd : ds[j]? = some d) (hs : PlainIx b := by exact fun _ _ => rfl) : PD X (.Subscript a b pos) δ d :=
  pe_weak (pe_ix ix_list ha hb hs) (t_bin fun u v G H Q s r1 r2 k => by
    cases r2
    cases r1 with
    | lst h r =>
      obtain ⟨w, hw, rw'⟩ := r.get hd
      exact ⟨_, _, _, w, rfl, rfl, SqL.of (s _ _ h), atI_nat hw, k w G H (Gr.refl s) rw'⟩)
theorem pd_ixT {a b : Expr} {pos : Pos} {ds : List D} {d : D} (j : Nat) (ha : PD X a δ (.tup ds)) (hb : PD X b δ (.int (j : Int))) (hd : ds[j]? = some d) (hs : PlainIx b := by exact fun _ _ => rfl) : PD X (.Subscript a b pos) δ d :=
  pe_weak (pe_ix ix_tup ha hb hs) (t_bin fun u v G H Q s r1 r2 k => by
    cases r2
    cases r1 with
    | tup h r =>
      obtain ⟨w, hw, rw'⟩ := r.get hd
      exact ⟨_, _, _, w, rfl, rfl, ex_t s h, atI_nat hw, k w G H (Gr.refl s) rw'⟩)

/-! ### list + list -/
theorem rd_cat {K : PySem.W.Frag} {xs ys : List D} (h : xs.length + ys.length ≤ 100000) : RD K rCat (.lst xs) (.lst ys) (.lst (xs ++ ys)) := fun u v G H Q s r1 r2 k => by
  cases r1 with
  | lst h1 q1 =>
    cases r2 with
    | lst h2 q2 =>
      have l1 := q1.length
      have l2 := q2.length
      exact ⟨_, _, _, _, rfl, rfl, s _ _ h1, s _ _ h2, sz_of (by omega), fun p hp => k _ _ _ (Gr.laid s hp) (.lst upd_same ((q1.append q2).mono (Gr.laid s hp).gx))⟩
theorem pd_cat {a b : Expr} {pos : Pos} {xs ys : List D} (ha : PD X a δ (.lst xs)) (hb : PD X b δ (.lst ys)) (h : xs.length + ys.length ≤ 100000) : PD X (.BinOp a .Add b pos) δ (.lst (xs ++ ys)) := pd_bin op_cat (rd_cat h) ha hb
/-- a ** j, j written -/
def CPowA (i j : Int) : Prop := 1 ≤ j ∧ ¬ Builtin.Int.intTooBig (((Builtin.Int.intBits i : Nat) : Int) * j) = true
theorem op_powA : OpR X (binaryOp .Pow) (rI CPowA fun i j => .int (i ^ j.toNat)) := opI fun i j t u s Q E hc q => by
  obtain ⟨h1, h2⟩ := hc
  have hj : ¬ (j == 0) = true := by simp; omega
  by_cases h0 : (i == 0 || i == 1) = true
  · have hij : i ^ j.toNat = i := by
      obtain ⟨n, hn⟩ : ∃ n, j.toNat = n + 1 := ⟨j.toNat - 1, by omega⟩
      simp only [Bool.or_eq_true, beq_iff_eq] at h0
      rcases h0 with h0 | h0
      · rw [h0, hn]; simp [Int.pow_succ]
      · rw [h0]; exact Int.one_pow
    rw [hij] at q
    exact PySem.AutoIntOps.pow_1 (by omega) hj h0 q
  · by_cases h3 : (i == -1) = true
    · have e : i ^ j.toNat = if (j % 2 == 0) = true then 1 else -1 := by
        have e1 : i = -1 := by simpa using h3
        obtain ⟨m, hm⟩ : ∃ m : Nat, j = m := ⟨j.toNat, by omega⟩
        subst hm
        rw [e1, Int.toNat_natCast]
        clear h1 h2 hj h0 h3 q e1
        induction m with
        | zero => rfl
        | succ m ih =>
          rw [Int.pow_succ, ih]
          by_cases hp : m % 2 = 0
          · rw [if_pos (by simp; omega), if_neg (by simp; omega)]; rfl
          · rw [if_neg (by simp; omega), if_pos (by simp; omega)]; rfl
      rw [e] at q
      exact PySem.AutoIntOps.pow_2 (by omega) hj h0 h3 q
    · exact PySem.AutoIntOps.pow_4 (by omega) hj h0 h3 h2 q
theorem pd_pow {a b : Expr} {pos : Pos} {i j : Int} (ha : PD X a δ (.int i)) (hb : PD X b δ (.int j)) (hc : CPowA i j) : PD X (.BinOp a .Pow b pos) δ (.int (i ^ j.toNat)) := pd_bin op_powA (rd_I hc) ha hb
end
end Pd
end

section
set_option Elab.async false
set_option linter.all false
set_option autoImplicit false
set_option maxRecDepth 100000
set_option maxHeartbeats 4000000
set_option exponentiation.threshold 20000
namespace Pd
open PySem L2 Evl
section
variable {X : Cx} {δ : Dv}

/-! ### calls of built-ins, by data -/
def CD (K : PySem.W.Frag) (r : List V → Hp → VK → Prop) (ds : List D) (z : D) : Prop := ∀ vs G H (Q : VK), Ex G H → Rps K G ds vs → (∀ w G2 H2, Gr G H G2 H2 → Rp K G2 z w → Q w H2) → r vs H Q
theorem t_call {r : List V → Hp → VK → Prop} {ds : List D} {z : D} (hr : CD X.K r ds z) : ∀ σ H Q, tD X.K δ (fun d => d = z) σ H Q → tCB r (tAD X.K δ (fun d => d = ds)) σ H Q :=
  fun σ H Q ⟨G, s, a, k⟩ => ⟨G, s, a, fun vs G1 H1 d1 e1 r1 q1 => by
    subst q1
    exact hr vs G1 H1 Q e1.sub r1 fun w G2 H2 e2 r2 => k w G2 H2 z (e1.trans e2) r2 rfl⟩
section
variable {x : Str} {p pos : Pos} {e : Expr} {es : List Expr} {ds : List D} {z : D} {id T : String} {r : List V → Hp → VK → Prop}
theorem pd_callB (hc : CallR X (.builtin id) r) (hr : CD X.K r ds z) (hm : X.mg x = none) (hv : bootBuiltins x = some (.builtin id)) (ha : AD X (e :: es) δ ds) (hg : Gl X x := by rfl) (hn : x ≠ "__name__" := by decide) (hdb : (x == ("__debug__" : Str)) = false := by decide)
    (he : starEach (e :: es) X.env = (false, eval e X.env) :: starEach es X.env := by rfl) (hpl : (backTo pos (starEach es X.env)).any (·.1) = false := by rfl) : PD X (.Call (.Name x p) (e :: es) [] pos) δ z :=
  pe_weak (pe_callB hc hg hm hv ha hn hdb he hpl) (t_call hr)
theorem pd_callT (hc : CallR X (.type T) r) (hr : CD X.K r ds z) (hm : X.mg x = none) (hv : bootBuiltins x = some (.type T)) (ha : AD X (e :: es) δ ds) (hg : Gl X x := by rfl) (hn : x ≠ "__name__" := by decide) (hdb : (x == ("__debug__" : Str)) = false := by decide)
    (he : starEach (e :: es) X.env = (false, eval e X.env) :: starEach es X.env := by rfl) (hpl : (backTo pos (starEach es X.env)).any (·.1) = false := by rfl) : PD X (.Call (.Name x p) (e :: es) [] pos) δ z :=
  pe_weak (pe_callTy hc hg hm hv ha hn hdb he hpl) (t_call hr)
/-- a module's name for a built-in function -/
theorem pd_callM (hc : CallR X (.builtin id) r) (hr : CD X.K r ds z) (hm : X.mg x = some (.builtin id)) (ha : AD X (e :: es) δ ds) (hg : Gl X x := by rfl) (hdb : (x == ("__debug__" : Str)) = false := by decide)
    (he : starEach (e :: es) X.env = (false, eval e X.env) :: starEach es X.env := by rfl) (hpl : (backTo pos (starEach es X.env)).any (·.1) = false := by rfl) : PD X (.Call (.Name x p) (e :: es) [] pos) δ z :=
  pe_weak (pe_callBfun hc hg hm ha hdb he hpl) (t_call hr)
end
section
variable {K : PySem.W.Frag}
theorem cd_lenL {xs : List D} : CD K (fun vs H Q => ∃ p ys, vs = [.ref p] ∧ (SqL K H p ys ∨ SqT K H p ys) ∧ Q (.int ys.length) H) [.lst xs] (.int xs.length) := fun vs G H Q s r k => by
  cases r with
  | cons h t =>
    cases t
    cases h with
    | lst h q =>
      refine ⟨_, _, rfl, .inl (SqL.of (s _ _ h)), ?_⟩
      rw [← q.length]
      exact k _ G H (Gr.refl s) (.int _)
theorem cd_lenT {xs : List D} : CD K (fun vs H Q => ∃ p ys, vs = [.ref p] ∧ (SqL K H p ys ∨ SqT K H p ys) ∧ Q (.int ys.length) H) [.tup xs] (.int xs.length) := fun vs G H Q s r k => by
  cases r with
  | cons h t =>
    cases t
    cases h with
    | tup h q =>
      refine ⟨_, _, rfl, .inr (ex_t s h), ?_⟩
      rw [← q.length]
      exact k _ G H (Gr.refl s) (.int _)
theorem cd_abs {i : Int} : CD K (fun xs H Q => ∃ i, xs = [.int i] ∧ Q (.int (if i < 0 then -i else i)) H) [.int i] (.int (if i < 0 then -i else i)) := fun vs G H Q s r k => by
  cases r with
  | cons h t =>
    cases t
    cases h
    exact ⟨i, rfl, k _ G H (Gr.refl s) (.int _)⟩
theorem cd_int {i : Int} : CD K (fun xs H Q => (∃ i, xs = [.int i] ∧ Q (.int i) H) ∨ ∃ k, xs = [.bl k] ∧ Q (.int (if k then 1 else 0)) H) [.int i] (.int i) := fun vs G H Q s r k => by
  cases r with
  | cons h t =>
    cases t
    cases h
    exact .inl ⟨i, rfl, k _ G H (Gr.refl s) (.int _)⟩
theorem cd_sum {l : List Int} : CD K (rSum K) [.lst (l.map D.int)] (.int l.sum) := fun vs G H Q s r k => by
  cases r with
  | cons h t =>
    cases t
    cases h with
    | lst h q =>
      rw [q.ints_inv] at h
      exact ⟨_, l, rfl, SqL.of (s _ _ h), k _ G H (Gr.refl s) (.int _)⟩
theorem cd_all {l : List Bool} : CD K (rAll K) [.lst (l.map D.bl)] (.bl (l.all id)) := fun vs G H Q s r k => by
  cases r with
  | cons h t =>
    cases t
    cases h with
    | lst h q =>
      rw [q.bls_inv] at h
      exact ⟨_, l, rfl, SqL.of (s _ _ h), k _ G H (Gr.refl s) (.bl _)⟩
theorem cd_any {l : List Bool} : CD K (rAny K) [.lst (l.map D.bl)] (.bl (l.any id)) := fun vs G H Q s r k => by
  cases r with
  | cons h t =>
    cases t
    cases h with
    | lst h q =>
      rw [q.bls_inv] at h
      exact ⟨_, l, rfl, SqL.of (s _ _ h), k _ G H (Gr.refl s) (.bl _)⟩
theorem cd_list {xs : List D} : CD K (fun vs H Q => ∃ p ys, vs = [.ref p] ∧ (SqL K H p ys ∨ SqT K H p ys) ∧ ∀ l, H l = none → Q (.ref l) (upd H l (.lst ys))) [.lst xs] (.lst xs) := fun vs G H Q s r k => by
  cases r with
  | cons h t =>
    cases t
    cases h with
    | lst h q => exact ⟨_, _, rfl, .inl (SqL.of (s _ _ h)), fun l hl => k _ _ _ (Gr.laid s hl) (.lst upd_same (q.mono (Gr.laid s hl).gx))⟩
abbrev rTupOf (K : PySem.W.Frag) : List V → Hp → VK → Prop := fun vs H Q => ∃ p ys, vs = [.ref p] ∧ ((SqL K H p ys ∧ ∀ l, H l = none → Q (.ref l) (upd H l (.tup ys))) ∨ (SqT K H p ys ∧ Q (.ref p) H))
theorem cd_tupL {xs : List D} : CD K (rTupOf K) [.lst xs] (.tup xs) := fun vs G H Q s r k => by
  cases r with
  | cons h t =>
    cases t
    cases h with
    | lst h q => exact ⟨_, _, rfl, .inl ⟨SqL.of (s _ _ h), fun l hl => k _ _ _ (Gr.laid s hl) (.tup (SqT.of upd_same) (q.mono (Gr.laid s hl).gx))⟩⟩
theorem cd_tupT {xs : List D} : CD K (rTupOf K) [.tup xs] (.tup xs) := fun vs G H Q s r k => by
  cases r with
  | cons h t =>
    cases t
    cases h with
    | tup h q => exact ⟨_, _, rfl, .inr ⟨ex_t s h, k _ G H (Gr.refl s) (.tup h q)⟩⟩
theorem cd_gcd {i j : Int} : CD K rGcd [.int i, .int j] (.int ((Nat.gcd i.natAbs j.natAbs : Nat) : Int)) := fun vs G H Q s r k => by
  cases r with
  | cons h t =>
    cases t with
    | cons h2 t2 =>
      cases t2
      cases h
      cases h2
      exact ⟨i, j, rfl, k _ G H (Gr.refl s) (.int _)⟩
end
section
variable {x : Str} {p pos : Pos} {e : Expr}
theorem pd_lenL {xs : List D} (hm : X.mg "len" = none) (ha : PD X e δ (.lst xs)) (hg : Gl X "len" := by rfl) (he : starEach (e :: []) X.env = (false, eval e X.env) :: starEach [] X.env := by rfl) : PD X (.Call (.Name "len" p) [e] [] pos) δ (.int xs.length) :=
  pd_callB call_len_seq cd_lenL hm PySem.boot_len (ad_cons ha ad_nil he) hg (by decide) (by decide) he (by rfl)
theorem pd_lenT {xs : List D} (hm : X.mg "len" = none) (ha : PD X e δ (.tup xs)) (hg : Gl X "len" := by rfl) (he : starEach (e :: []) X.env = (false, eval e X.env) :: starEach [] X.env := by rfl) : PD X (.Call (.Name "len" p) [e] [] pos) δ (.int xs.length) :=
  pd_callB call_len_seq cd_lenT hm PySem.boot_len (ad_cons ha ad_nil he) hg (by decide) (by decide) he (by rfl)
theorem pd_abs {i : Int} (hm : X.mg "abs" = none) (ha : PD X e δ (.int i)) (hg : Gl X "abs" := by rfl) (he : starEach (e :: []) X.env = (false, eval e X.env) :: starEach [] X.env := by rfl) : PD X (.Call (.Name "abs" p) [e] [] pos) δ (.int (if i < 0 then -i else i)) :=
  pd_callB call_abs cd_abs hm (by decide +kernel) (ad_cons ha ad_nil he) hg (by decide) (by decide) he (by rfl)
theorem pd_sum {l : List Int} (hm : X.mg "sum" = none) (ha : PD X e δ (.lst (l.map D.int))) (hc : X.calm = true := by rfl) (hg : Gl X "sum" := by rfl) (he : starEach (e :: []) X.env = (false, eval e X.env) :: starEach [] X.env := by rfl) : PD X (.Call (.Name "sum" p) [e] [] pos) δ (.int l.sum) :=
  pd_callB (cr_sum hc) cd_sum hm (by decide +kernel) (ad_cons ha ad_nil he) hg (by decide) (by decide) he (by rfl)
theorem pd_all {l : List Bool} (hm : X.mg "all" = none) (ha : PD X e δ (.lst (l.map D.bl))) (hc : X.calm = true := by rfl) (hg : Gl X "all" := by rfl) (he : starEach (e :: []) X.env = (false, eval e X.env) :: starEach [] X.env := by rfl) : PD X (.Call (.Name "all" p) [e] [] pos) δ (.bl (l.all id)) :=
  pd_callB (cr_all hc) cd_all hm (by decide +kernel) (ad_cons ha ad_nil he) hg (by decide) (by decide) he (by rfl)
theorem pd_any {l : List Bool} (hm : X.mg "any" = none) (ha : PD X e δ (.lst (l.map D.bl))) (hc : X.calm = true := by rfl) (hg : Gl X "any" := by rfl) (he : starEach (e :: []) X.env = (false, eval e X.env) :: starEach [] X.env := by rfl) : PD X (.Call (.Name "any" p) [e] [] pos) δ (.bl (l.any id)) :=
  pd_callB (cr_any hc) cd_any hm (by decide +kernel) (ad_cons ha ad_nil he) hg (by decide) (by decide) he (by rfl)
theorem pd_intI {i : Int} (hm : X.mg "int" = none) (ha : PD X e δ (.int i)) (hg : Gl X "int" := by rfl) (he : starEach (e :: []) X.env = (false, eval e X.env) :: starEach [] X.env := by rfl) : PD X (.Call (.Name "int" p) [e] [] pos) δ (.int i) :=
  pd_callT call_int1 cd_int hm (by decide +kernel) (ad_cons ha ad_nil he) hg (by decide) (by decide) he (by rfl)
theorem pd_list {xs : List D} (hm : X.mg "list" = none) (ha : PD X e δ (.lst xs)) (hg : Gl X "list" := by rfl) (he : starEach (e :: []) X.env = (false, eval e X.env) :: starEach [] X.env := by rfl) : PD X (.Call (.Name "list" p) [e] [] pos) δ (.lst xs) :=
  pd_callT call_list_of cd_list hm (by decide +kernel) (ad_cons ha ad_nil he) hg (by decide) (by decide) he (by rfl)
theorem pd_tupL {xs : List D} (hm : X.mg "tuple" = none) (ha : PD X e δ (.lst xs)) (hg : Gl X "tuple" := by rfl) (he : starEach (e :: []) X.env = (false, eval e X.env) :: starEach [] X.env := by rfl) : PD X (.Call (.Name "tuple" p) [e] [] pos) δ (.tup xs) :=
  pd_callT call_tuple_of cd_tupL hm (by decide +kernel) (ad_cons ha ad_nil he) hg (by decide) (by decide) he (by rfl)
theorem pd_tupT {xs : List D} (hm : X.mg "tuple" = none) (ha : PD X e δ (.tup xs)) (hg : Gl X "tuple" := by rfl) (he : starEach (e :: []) X.env = (false, eval e X.env) :: starEach [] X.env := by rfl) : PD X (.Call (.Name "tuple" p) [e] [] pos) δ (.tup xs) :=
  pd_callT call_tuple_of cd_tupT hm (by decide +kernel) (ad_cons ha ad_nil he) hg (by decide) (by decide) he (by rfl)
theorem pd_gcd {e2 : Expr} {i j : Int} (hm : X.mg "gcd" = some (.builtin "math.gcd")) (ha : PD X e δ (.int i)) (hb : PD X e2 δ (.int j)) (hg : Gl X "gcd" := by rfl) (he : starEach (e :: [e2]) X.env = (false, eval e X.env) :: starEach [e2] X.env := by rfl)
    (he2 : starEach (e2 :: []) X.env = (false, eval e2 X.env) :: starEach [] X.env := by rfl) (hpl : (backTo pos (starEach [e2] X.env)).any (·.1) = false := by rfl) : PD X (.Call (.Name "gcd" p) [e, e2] [] pos) δ (.int ((Nat.gcd i.natAbs j.natAbs : Nat) : Int)) :=
  pd_callM cr_gcd cd_gcd hm (ad_cons ha (ad_cons hb ad_nil he2) he) hg (by decide) he hpl
/-- lcm of two ints of few bits -/
def rLcm : List V → Hp → VK → Prop := fun vs H Q => ∃ a b : Int, vs = [.int a, .int b] ∧ (a.natAbs < 2 ^ 6000 ∧ b.natAbs < 2 ^ 6000) ∧ Q (.int ((Nat.lcm a.natAbs b.natAbs : Nat) : Int)) H
theorem cr_lcm : CallR X (.builtin "math.lcm") rLcm := by
  intro pins s σ H vs us Q I r h
  obtain ⟨a, b, rfl, ⟨h1, h2⟩, q⟩ := h
  obtain ⟨t, u, rfl⟩ := Vals.int2 r
  have b1 : (max 1 a.natAbs).log2 ≤ 5999 := PySem.W.mg_log (k := 5999) (Nat.max_lt.mpr ⟨Nat.one_lt_two_pow (by decide), h1⟩)
  have b2 : (max a.natAbs b.natAbs).log2 ≤ 5999 := PySem.W.mg_log (k := 5999) (Nat.max_lt.mpr ⟨h1, h2⟩)
  have el : (Nat.lcm 1 a.natAbs).lcm b.natAbs = Nat.lcm a.natAbs b.natAbs := by rw [Nat.lcm_one_left]
  have hsz : ((((Nat.lcm 1 a.natAbs).lcm b.natAbs : Nat) : Int)).natAbs.log2 < bitsLine := by
    rw [el, Int.natAbs_natCast]
    have h3 : Nat.lcm a.natAbs b.natAbs ≤ a.natAbs * b.natAbs := Nat.div_le_self _ _
    have h4 : a.natAbs * b.natAbs < 2 ^ (11999 + 1) := by
      rw [show 11999 + 1 = 6000 + 6000 from rfl, Nat.pow_add]
      exact Nat.mul_lt_mul'' h1 h2
    have h5 := PySem.W.mg_log (Nat.lt_of_le_of_lt h3 h4)
    have e : bitsLine = 134217728 := by decide
    omega
  refine PySem.call_function_meets PySem.W.MGF.kind_lcm PySem.W.MGF.plain_lcm PySem.W.MGF.entry_lcm (PySem.W.MGF.args_lcm _ _) (PySem.W.mg_run_lcm a t b u (by omega) (by omega) hsz).meets ?_
  rw [el]
  exact ⟨.int _, H, I.tok _, ⟨_, rfl⟩, q⟩
theorem pd_lcm {e2 : Expr} {i j : Int} (hm : X.mg "lcm" = some (.builtin "math.lcm")) (ha : PD X e δ (.int i)) (hb : PD X e2 δ (.int j)) (hs : i.natAbs < 2 ^ 6000 ∧ j.natAbs < 2 ^ 6000) (hg : Gl X "lcm" := by rfl) (he : starEach (e :: [e2]) X.env = (false, eval e X.env) :: starEach [e2] X.env := by rfl)
    (he2 : starEach (e2 :: []) X.env = (false, eval e2 X.env) :: starEach [] X.env := by rfl) (hpl : (backTo pos (starEach [e2] X.env)).any (·.1) = false := by rfl) : PD X (.Call (.Name "lcm" p) [e, e2] [] pos) δ (.int ((Nat.lcm i.natAbs j.natAbs : Nat) : Int)) :=
  pd_callM cr_lcm (fun vs G H Q s r k => by
    cases r with
    | cons h t =>
      cases t with
      | cons h2 t2 =>
        cases t2
        cases h
        cases h2
        exact ⟨i, j, rfl, hs, k _ G H (Gr.refl s) (.int _)⟩) hm (ad_cons ha (ad_cons hb ad_nil he2) he) hg (by decide) he hpl
end

/-! ### a def of the text -/
def spOf (K : PySem.W.Frag) {α : Type} (arg : α → List D) (P : α → D → Prop) : Sp := fun vs H Q _ => ∃ (G : Hp) (a : α), Ex G H ∧ Rps K G (arg a) vs ∧ ∀ v G2 H2 d, Gr G H G2 H2 → Rp K G2 d v → P a d → Q v H2
section
variable {x : Str} {p pos : Pos} {e : Expr} {es : List Expr} {f : Addr} {fd : FuncData} {ps : List Str} {k : Nat} {α : Type} {arg : α → List D} {P : α → D → Prop}
theorem pr_call (F : FnOk X.prog X.w X.K X.mg X.base CX0 k f fd ps (spOf X.K arg P)) (hr : Room k X.A) (hm : X.mg x = some (.ref f)) (hk : PySem.W.keepIn X.K (.ref f) = true) (hb : Binds X.K fd ps []) (a : α) (ha : AD X (e :: es) δ (arg a)) (hg : Gl X x := by rfl)
    (hdb : (x == ("__debug__" : Str)) = false := by decide) (he : starEach (e :: es) X.env = (false, eval e X.env) :: starEach es X.env := by rfl) (hpl : (backTo pos (starEach es X.env)).any (·.1) = false := by rfl) : PR X (.Call (.Name x p) (e :: es) [] pos) δ (P a) :=
  pe_weak (pe_call F hr hg hm hk hb .nil pass0 ha hdb he hpl) fun σ H Q ⟨G, s, b, q⟩ => ⟨G, s, b, fun vs G1 H1 d1 e1 r1 q1 => by
    subst q1
    rw [List.append_nil]
    exact ⟨G1, a, e1.sub, r1, fun v G2 H2 d e2 r2 p2 => q v G2 H2 d (e1.trans e2) r2 p2⟩⟩
theorem prR_call {Pa : List D → Prop} (F : FnOk X.prog X.w X.K X.mg X.base CX0 k f fd ps (spOf X.K arg P)) (hr : Room k X.A) (hm : X.mg x = some (.ref f)) (hk : PySem.W.keepIn X.K (.ref f) = true) (hb : Binds X.K fd ps []) {Po : D → Prop} (ha : AR X (e :: es) δ Pa)
    (hp : ∀ ds, Pa ds → ∃ a, ds = arg a ∧ ∀ d, P a d → Po d) (hg : Gl X x := by rfl)
    (hdb : (x == ("__debug__" : Str)) = false := by decide) (he : starEach (e :: es) X.env = (false, eval e X.env) :: starEach es X.env := by rfl) (hpl : (backTo pos (starEach es X.env)).any (·.1) = false := by rfl) : PR X (.Call (.Name x p) (e :: es) [] pos) δ Po :=
  pe_weak (pe_call F hr hg hm hk hb .nil pass0 ha hdb he hpl) fun σ H Q ⟨G, s, b, q⟩ => ⟨G, s, b, fun vs G1 H1 d1 e1 r1 q1 => by
    obtain ⟨a, e3, w⟩ := hp d1 q1
    subst e3
    rw [List.append_nil]
    exact ⟨G1, a, e1.sub, r1, fun v G2 H2 d e2 r2 p2 => q v G2 H2 d (e1.trans e2) r2 (w d p2)⟩⟩
end

/-! ### tests -/
section
variable {a b c : Expr} {rest : List Expr} {pos : Pos} {j k : Bool}
theorem td_val (h : PD X a δ (.bl k)) (he : ∀ whole, isTrue a X.env whole = (do let v ← whole; standAt a.pos; holding [v] (truthy v)) := by intro _; rfl) : TD X a δ k :=
  pt_weak (pt_val h he) fun σ H Q ⟨G, s, z, q⟩ => ⟨G, s, z, fun v G2 H2 d e r p => by
    subst p
    cases r
    exact ⟨k, rfl, q G2 H2 e⟩⟩
theorem td_not (h : TD X a δ k) : TD X (.UnaryOp .Not a pos) δ (!k) := pt_weak (pt_not h) fun σ H Q ⟨G, s, z, q⟩ => ⟨G, s, z, fun G2 H2 e => q G2 H2 e⟩
theorem wd_and1 (h : TD X a δ k) : WD X (.BoolOp .And [a] pos) δ k := pw_and1 h
theorem wd_or1 (h : TD X a δ k) : WD X (.BoolOp .Or [a] pos) δ k := pw_or1 h
theorem wd_and (h : TD X a δ j) (hr : j = true → WD X (.BoolOp .And (b :: rest) pos) δ k) : WD X (.BoolOp .And (a :: b :: rest) pos) δ (j && k) :=
  pw_weak (pw_and h pw_u) fun σ H Q ⟨G, s, z, q⟩ => ⟨G, s, z, fun G2 H2 e => by
    cases j with
    | true =>
      show uW X (.BoolOp .And (b :: rest) pos) σ H2 Q
      exact ⟨_, hr rfl, G2, e.sub, z.mono e.gx, fun G3 H3 e3 => q G3 H3 (e.trans e3)⟩
    | false =>
      show Q false H2
      exact q G2 H2 e⟩
theorem wd_or (h : TD X a δ j) (hr : j = false → WD X (.BoolOp .Or (b :: rest) pos) δ k) : WD X (.BoolOp .Or (a :: b :: rest) pos) δ (j || k) :=
  pw_weak (pw_or h pw_u) fun σ H Q ⟨G, s, z, q⟩ => ⟨G, s, z, fun G2 H2 e => by
    cases j with
    | true =>
      show Q true H2
      exact q G2 H2 e
    | false =>
      show uW X (.BoolOp .Or (b :: rest) pos) σ H2 Q
      exact ⟨_, hr rfl, G2, e.sub, z.mono e.gx, fun G3 H3 e3 => q G3 H3 (e.trans e3)⟩⟩
theorem TD.to (h : TD X a δ j) (q : j = k) : TD X a δ k := by rw [← q]; exact h
theorem WD.to (h : WD X a δ j) (q : j = k) : WD X a δ k := by rw [← q]; exact h
theorem pd_and1 (h : PD X a δ (.bl k)) : PD X (.BoolOp .And [a] pos) δ (.bl k) := pe_one h
theorem pd_and (h : PD X a δ (.bl j)) (hr : j = true → PD X (.BoolOp .And (b :: rest) pos) δ (.bl k)) : PD X (.BoolOp .And (a :: b :: rest) pos) δ (.bl (j && k)) :=
  pe_weak (pe_and h pe_u) fun σ H Q ⟨G, s, z, q⟩ => ⟨G, s, z, fun v G2 H2 d e r p => by
    subst p
    cases r
    refine ⟨j, rfl, ?_⟩
    cases j with
    | true =>
      show uE X (.BoolOp .And (b :: rest) pos) σ H2 Q
      exact ⟨_, hr rfl, G2, e.sub, z.mono e.gx, fun w G3 H3 d3 e3 r3 q3 => q w G3 H3 d3 (e.trans e3) r3 q3⟩
    | false =>
      show Q (.bl false) H2
      exact q _ G2 H2 _ e (.bl false) rfl⟩
theorem pd_not (h : PD X a δ (.bl k)) : PD X (.UnaryOp .Not a pos) δ (.bl (!k)) := pe_weak (pe_not h) fun σ H Q ⟨G, s, z, q⟩ => ⟨G, s, z, fun v G2 H2 d e r p => by
  subst p
  cases r
  exact ⟨k, rfl, q _ G2 H2 _ e (.bl _) rfl⟩⟩
theorem pd_if {d : D} (h : TD X c δ k) (h1 : k = true → PD X a δ d) (h2 : k = false → PD X b δ d) : PD X (.IfExp c a b pos) δ d :=
  pe_weak (pe_ifExp h pe_u pe_u) fun σ H Q ⟨G, s, z, q⟩ => ⟨G, s, z, fun G2 H2 e => by
    cases k with
    | true =>
      show uE X a σ H2 Q
      exact ⟨_, h1 rfl, G2, e.sub, z.mono e.gx, fun w G3 H3 d3 e3 r3 q3 => q w G3 H3 d3 (e.trans e3) r3 q3⟩
    | false =>
      show uE X b σ H2 Q
      exact ⟨_, h2 rfl, G2, e.sub, z.mono e.gx, fun w G3 H3 d3 e3 r3 q3 => q w G3 H3 d3 (e.trans e3) r3 q3⟩⟩
/-- a <= b <= c of ints, and its kin -/
theorem td_chain {op op' : CmpOp} {g g' : Int → Int → Bool} {i m n : Int} (ho : OpR X (compareOp op) (rI0 fun i j => .bl (g i j))) (ho' : OpR X (compareOp op') (rI0 fun i j => .bl (g' i j))) (ha : PD X a δ (.int i)) (hb : PD X b δ (.int m)) (hc : PD X c δ (.int n)) (hm : lastMarks [op, op'] [b, c] = false := by with_unfolding_all rfl) :
    TD X (.Compare a [op, op'] [b, c] pos) δ (g i m && g' m n) :=
  pt_weak (pt_chain ho ho' ha hb hc hm) fun σ H Q ⟨G, s, z, q⟩ => ⟨G, s, z, fun v G2 H2 d e r p => by
    subst p
    cases r
    refine ⟨G2, e.sub, z.mono e.gx, fun w G3 H3 d3 e3 r3 p3 => ?_⟩
    subst p3
    cases r3
    refine ⟨i, m, rfl, rfl, g i m, rfl, ?_⟩
    cases hg : g i m with
    | true =>
      refine ⟨G3, e3.sub, (z.mono e.gx).mono e3.gx, fun w4 G4 H4 d4 e4 r4 p4 => ?_⟩
      subst p4
      cases r4
      refine ⟨m, n, rfl, rfl, g' m n, rfl, ?_⟩
      have := q G4 H4 ((e.trans e3).trans e4)
      rw [hg] at this
      exact this
    | false =>
      have := q G3 H3 (e.trans e3)
      rw [hg] at this
      exact ⟨false, rfl, this⟩⟩
end
end
end Pd
end

section
set_option Elab.async false
set_option linter.all false
set_option autoImplicit false
set_option maxRecDepth 100000
set_option maxHeartbeats 4000000
namespace Pd
open PySem L2 Evl
open PySem.W (Datum DatumOrd minOf)

/-! ### max of two tuples: one of the two -/
section
variable {prog : Program} {w : World} {A : Around} {E : Value → Shared → Prop} {s : Shared}
theorem max_twoT {a b : Value} {x y : PyData} {as bs : List Addr} {Q : Value → Shared → Prop} (hh : A.handled = none) (ra : Reads s.heap a x as) (rb : Reads s.heap b y bs) (ha : PySem.W.AlikeAll [x, y]) (hu : A.units + 1 + PyData.depthAll [x, y] < cLine)
    (h : ∀ v h' tk, v = a ∨ v = b → (∀ c o, s.heap.get? c = some o → h'.get? c = some o) → Q v { s with heap := h', toks := tk }) :
    wpAny (model prog w) A (call (.builtin "max") [a, b]) Q E s := by
  have nm : (toString "max" ++ toString ".loop" : String) = "max.loop" := by decide
  refine call_function_tree F.kind_max F.plain_max F.entry_max (F.args_max2 a b) ?_
  show wpAny _ A.in1 (Builtin.Builtins.bindParams "max" ["key", "default"] 0 ⟨[], []⟩ >>= _) _ _ s
  refine wpAny_bind (wpAny_of_eq (by rfl : Builtin.Builtins.bindParams "max" ["key", "default"] 0 ⟨[], []⟩ = pure [none, none]) ?_)
  show wpAny _ A.in1 (newTuple [a, b] >>= _) _ _ s
  refine wpAny_bind (wpAny_newObj_type ?_)
  have kT : ∀ c o, s.heap.get? c = some o → (s.heap.push { cls := .type "tuple", data := .seq #[a, b] }).get? c = some o := fun c o e => Heap.get?_push_of_some _ e
  have hT : (s.heap.push { cls := .type "tuple", data := .seq #[a, b] }).IsTuple s.heap.objs.size #[a, b] := ⟨_, Heap.get?_push_size _ rfl, rfl, 0, rfl⟩
  refine wpAny_bind (PySem.W.iter_tupleW (A := A.in1) hh hT fun s₂ e W st hfp hw hk => ?_)
  refine wpAny_bind (wpAny_newObj_type ?_)
  have rA : ReadsAll (s.heap.push { cls := .type "tuple", data := .seq #[a, b] }) #[a, b].toList [x, y] (as ++ (bs ++ [])) := .cons (PySem.W.reads_keeps kT ra) (.cons (PySem.W.reads_keeps kT rb) .nil)
  have hc := PySem.W.cmpIn_gt (prog := prog) (w := w) (A := A.in1) (s := { s with heap := s.heap.push { cls := .type "tuple", data := .seq #[a, b] } }) rA ha (by show A.units + 1 + _ < _; exact hu)
  have nf : s₂.heap.objs.size ∉ [(s.heap.push { cls := .type "tuple", data := .seq #[a, b] }).objs.size, s.heap.objs.size] := fun hm => Nat.lt_irrefl _ (hfp _ hm)
  rw [nm]
  refine wpAny_pure ⟨plainId_quiet F.plain_max_loop _, codeAny_max_loop_firstH W _ hw _ hc s₂.heap.objs.size nf (fresh_in hk) _ (Nat.succ_pos 1) (fun c o q => Heap.get?_push_of_some _ (hk c o q))
    (W.frame 0 s₂ _ s₂.toks st (Nat.le_refl _) fun c _ o q => Heap.get?_push_of_some _ q) (Heap.get?_push_size _ rfl) fun v s' hP hm => ?_⟩
  have mv := Moved.drop_new (tk := s₂.toks) hm (Nat.le_refl _)
  obtain ⟨h', tk, es, hk'⟩ := PySem.W.moved_old e rfl mv
  have hv : v = a ∨ v = b := by
    have q : #[a, b][argBest (fun i j => PySem.W.dataLt ([x, y].getD j .none) ([x, y].getD i .none)) (#[a, b].size - 1)]? = some v := hP
    revert q
    generalize argBest (fun i j => PySem.W.dataLt ([x, y].getD j .none) ([x, y].getD i .none)) (#[a, b].size - 1) = m
    intro q
    match m, q with
    | 0, q => exact .inl (by simpa using q.symm)
    | 1, q => exact .inr (by simpa using q.symm)
    | m + 2, q => simp at q
  subst es
  exact h v h' tk hv fun c o q => hk' c o (kT c o q)
end

section
variable {X : Cx} {δ : Dv}
def rMax2T (K : PySem.W.Frag) : List V → Hp → VK → Prop := fun vs H Q => ∃ (u v : V) (k l : List Int), vs = [u, v] ∧ Dp K H u (Datum.toD (PySem.W.Tup.mk k)) ∧ Dp K H v (Datum.toD (PySem.W.Tup.mk l)) ∧ Q u H ∧ Q v H
theorem cr_max2T (hc : X.calm = true) (hu : X.A.units + 64 < cLine) : CallR X (.builtin "max") (rMax2T X.K) := by
  intro pins s σ H vs us Q I r h
  obtain ⟨u, v, k, l, rfl, d1, d2, q1, q2⟩ := h
  obtain ⟨x, y, rfl, r1, r2⟩ := vals2 r
  obtain ⟨as, ra⟩ := Dp.reads I _ u x d1 r1
  obtain ⟨bs, rb⟩ := Dp.reads I _ v y d2 r2
  have al : PySem.W.AlikeAll [Datum.toD (PySem.W.Tup.mk k), Datum.toD (PySem.W.Tup.mk l)] := PySem.W.alikeAll_datum [PySem.W.Tup.mk k, PySem.W.Tup.mk l]
  have dp : PyData.depthAll [Datum.toD (PySem.W.Tup.mk k), Datum.toD (PySem.W.Tup.mk l)] ≤ Datum.depth (PySem.W.Tup Int) := PySem.W.depthAll_map [PySem.W.Tup.mk k, PySem.W.Tup.mk l]
  have d1 : Datum.depth (PySem.W.Tup Int) = 1 := rfl
  refine max_twoT (I.ok.hd hc) ra rb al (by omega) fun z h' tk hz hk => ?_
  rcases hz with e | e
  · subst e
    exact ⟨u, H, I.kept hk, r1, q1⟩
  · subst e
    exact ⟨v, H, I.kept hk, r2, q2⟩

/-! ### min of pairs of ints -/
def rMinP (K : PySem.W.Frag) : List V → Hp → VK → Prop := fun vs H Q => ∃ (a : Addr) (xs : List V) (p : Int × Int) (l : List (Int × Int)), vs = [.ref a] ∧ SqL K H a xs ∧ DpAll K H xs ((p :: l).map Datum.toD) ∧
  ∀ (i : Nat) (v : V), xs[i]? = some v → (p :: l)[i]? = some (minOf p l) → Q v H
theorem cr_minP (hc : X.calm = true) (hu : X.A.units + 64 < cLine) : CallR X (.builtin "min") (rMinP X.K) := by
  intro pins s σ H vs us Q I r h
  obtain ⟨a, xs, p, l, rfl, hs, dp, q⟩ := h
  rw [Vals.ref1 r]
  obtain ⟨its, rv, hl, _⟩ := I.list hs
  obtain ⟨as, ra⟩ := Dp.readsAll I _ xs its dp rv
  have d1 : Datum.depth (Int × Int) = 1 := rfl
  refine PySem.W.min_list_datum (x := p) (xs := l) (I.ok.hd hc) hl.isList ⟨as, by simpa using ra⟩ (by omega) fun i v h' tk hv hm hk => ?_
  have hv' : its[i]? = some v := by simpa using hv
  have hi : i < its.length := (List.getElem?_eq_some_iff.mp hv').1
  have hx : i < xs.length := by rw [rv.length]; exact hi
  obtain ⟨u, hu', rx⟩ := rv.get (List.getElem?_eq_getElem hx)
  rw [hv'] at hu'
  cases hu'
  have H0 : PySem.W.HoldAll s.heap its (p :: l) := ⟨as, ra⟩
  obtain ⟨z, hz, Hz⟩ := H0.at hv'
  have e : z = minOf p l := by
    obtain ⟨b1, r1⟩ := Hz.keeps hk
    obtain ⟨b2, r2⟩ := hm
    have e1 := (PyProof.Rows.reads_det (fun _ _ e _ => e) r1 r2).1
    have e2 : PyData.tuple [.int (minOf p l).1, .int (minOf p l).2] = PyData.tuple [.int z.1, .int z.2] := e1
    injection e2 with e3
    injection e3 with e4 e5
    injection e5 with e6 _
    injection e4 with e4
    injection e6 with e6
    exact Prod.ext e4.symm e6.symm
  rw [e] at hz
  exact ⟨_, H, I.kept hk, rx, q i _ (List.getElem?_eq_getElem hx) hz⟩
section
variable {x : Str} {p pos : Pos} {e e2 : Expr}
theorem pd_minP {q : Int × Int} {l : List (Int × Int)} (hm : X.mg "min" = none) (hu : X.A.units + 64 < cLine) (ha : PD X e δ (.lst ((q :: l).map pairD))) (hc : X.calm = true := by rfl) (hg : Gl X "min" := by rfl) (he : starEach (e :: []) X.env = (false, eval e X.env) :: starEach [] X.env := by rfl) :
    PD X (.Call (.Name "min" p) [e] [] pos) δ (pairD (minOf q l)) :=
  pd_callB (cr_minP hc hu) (fun vs G H Q s r k => by
    cases r with
    | cons h t =>
      cases t
      cases h with
      | lst h r =>
        refine ⟨_, _, q, l, rfl, SqL.of (s _ _ h), ?_, fun i v hv hz => ?_⟩
        · have d := Rps.dp (r.mono s) (oks_pairs (q :: l))
          rw [pys_pairs] at d
          exact d
        · obtain ⟨w, hw, rw'⟩ := r.get (i := i) (d := pairD (minOf q l)) (by rw [List.getElem?_map, hz]; rfl)
          rw [hv] at hw
          cases hw
          exact k v G H (Gr.refl s) rw') hm (by decide +kernel) (ad_cons ha ad_nil he) hg (by decide) (by decide) he (by rfl)
theorem pr_max2T {k l : List Int} (hm : X.mg "max" = none) (hu : X.A.units + 64 < cLine) (ha : PD X e δ (.tup (k.map D.int))) (hb : PD X e2 δ (.tup (l.map D.int))) (hc : X.calm = true := by rfl) (hg : Gl X "max" := by rfl)
    (he : starEach (e :: [e2]) X.env = (false, eval e X.env) :: starEach [e2] X.env := by rfl) (he2 : starEach (e2 :: []) X.env = (false, eval e2 X.env) :: starEach [] X.env := by rfl) (hpl : (backTo pos (starEach [e2] X.env)).any (·.1) = false := by rfl) :
    PR X (.Call (.Name "max" p) [e, e2] [] pos) δ (fun d => d = .tup (k.map D.int) ∨ d = .tup (l.map D.int)) :=
  pe_weak (pe_callB (cr_max2T hc hu) hg hm (by decide +kernel) (ad_cons ha (ad_cons hb ad_nil he2) he) (by decide) (by decide) he hpl) fun σ H Q ⟨G, s, a, q⟩ => ⟨G, s, a, fun vs G1 H1 d1 e1 r1 q1 => by
    subst q1
    cases r1 with
    | cons h t =>
      cases t with
      | cons h2 t2 =>
        cases t2
        have D1 := Rp.dp (h.mono e1.sub) (by show D.oks _ = true; exact oks_ints k)
        have D2 := Rp.dp (h2.mono e1.sub) (by show D.oks _ = true; exact oks_ints l)
        have E1 : D.py (.tup (k.map D.int)) = Datum.toD (PySem.W.Tup.mk k) := by
          show PyData.tuple (D.pys _) = _
          rw [pys_ints]
          rfl
        have E2 : D.py (.tup (l.map D.int)) = Datum.toD (PySem.W.Tup.mk l) := by
          show PyData.tuple (D.pys _) = _
          rw [pys_ints]
          rfl
        rw [E1] at D1
        rw [E2] at D2
        exact ⟨_, _, k, l, rfl, D1, D2, q _ G1 H1 _ e1 h (.inl rfl), q _ G1 H1 _ e1 h2 (.inr rfl)⟩⟩
/-- max of two ints -/
theorem pd_max2 {i j : Int} (hm : X.mg "max" = none) (ha : PD X e δ (.int i)) (hb : PD X e2 δ (.int j)) (hc : X.calm = true := by rfl) (hg : Gl X "max" := by rfl) (he : starEach (e :: [e2]) X.env = (false, eval e X.env) :: starEach [e2] X.env := by rfl)
    (he2 : starEach (e2 :: []) X.env = (false, eval e2 X.env) :: starEach [] X.env := by rfl) (hpl : (backTo pos (starEach [e2] X.env)).any (·.1) = false := by rfl) : PD X (.Call (.Name "max" p) [e, e2] [] pos) δ (.int (if j > i then j else i)) :=
  pd_callB (call_max2 hc) (fun vs G H Q s r k => by
    cases r with
    | cons h t =>
      cases t with
      | cons h2 t2 =>
        cases t2
        cases h
        cases h2
        exact ⟨i, j, rfl, k _ G H (Gr.refl s) (.int _)⟩) hm (by decide +kernel) (ad_cons ha (ad_cons hb ad_nil he2) he) hg (by decide) (by decide) he hpl

/-! ### isinstance -/
def tyOfD : D → Option String
  | .non => some "NoneType"
  | .bl _ => some "bool"
  | .int _ => some "int"
  | .lst _ => some "list"
  | .tup _ => some "tuple"
  | _ => none
theorem Rp.tyX {K : PySem.W.Frag} {H : Hp} {d : D} {v : V} {T : String} (h : Rp K H d v) (e : tyOfD d = some T) : TyX K H v (.type T) := by
  cases h with
  | non => cases e; exact .base .non
  | bl b => cases e; exact .base (.bl b)
  | int i => cases e; exact .base (.int i)
  | ty n => cases e
  | dk _ _ => cases e
  | scr _ => cases e
  | lst h r => cases e; exact .base (.lst h)
  | tup h r =>
    cases e
    rcases h with (h | ⟨o, h⟩) | ⟨o, its, n, h, hc, _⟩
    · exact .base (.tup h)
    · exact .fTuple h
    · exact .kTuple h hc
theorem pd_isi {d : D} {T U : String} {b : Bool} (hm : X.mg "isinstance" = none) (ht : tyOfD d = some T) (hk : kitB T U = some b) (ha : PD X e δ d) (hb : PD X e2 δ (.ty U)) (hg : Gl X "isinstance" := by rfl)
    (he : starEach (e :: [e2]) X.env = (false, eval e X.env) :: starEach [e2] X.env := by rfl) (he2 : starEach (e2 :: []) X.env = (false, eval e2 X.env) :: starEach [] X.env := by rfl) (hpl : (backTo pos (starEach [e2] X.env)).any (·.1) = false := by rfl) :
    PD X (.Call (.Name "isinstance" p) [e, e2] [] pos) δ (.bl b) :=
  pd_callB call_isi (fun vs G H Q s r k => by
    cases r with
    | cons h t =>
      cases t with
      | cons h2 t2 =>
        cases t2
        cases h2
        exact ⟨_, _, _, _, b, rfl, .ty U, (h.mono s).tyX ht, kit_ty hk, k _ G H (Gr.refl s) (.bl _)⟩) hm (by decide +kernel) (ad_cons ha (ad_cons hb ad_nil he2) he) hg (by decide) (by decide) he hpl
/-- isinstance(e, (T1, T2)), the tuple written there -/
theorem pd_isi2 {c1 c2 : Expr} {x1} {tpos : Pos} {d : D} {T U1 U2 : String} {b1 b2 : Bool} (hm : X.mg "isinstance" = none) (ht : tyOfD d = some T) (h1 : kitB T U1 = some b1) (h2 : kitB T U2 = some b2) (ha : PD X e δ d) (hc1 : PD X c1 δ (.ty U1)) (hc2 : PD X c2 δ (.ty U2)) (hg : Gl X "isinstance" := by rfl)
    (he : starEach (e :: [.Tuple [c1, c2] x1 tpos]) X.env = (false, eval e X.env) :: starEach [.Tuple [c1, c2] x1 tpos] X.env := by rfl) (he2 : starEach (.Tuple [c1, c2] x1 tpos :: []) X.env = (false, eval (.Tuple [c1, c2] x1 tpos) X.env) :: starEach [] X.env := by rfl) (hpl : (backTo pos (starEach [.Tuple [c1, c2] x1 tpos] X.env)).any (·.1) = false := by rfl)
    (hs1 : starEach (c1 :: [c2]) X.env = (false, eval c1 X.env) :: starEach [c2] X.env := by rfl) (hs2 : starEach (c2 :: []) X.env = (false, eval c2 X.env) :: starEach [] X.env := by rfl) :
    PD X (.Call (.Name "isinstance" p) [e, .Tuple [c1, c2] x1 tpos] [] pos) δ (.bl (b1 || b2)) :=
  pe_weak (pe_callB call_isiT hg hm (by decide +kernel) (pa_cons ha (pa_cons (pe_tup (ad_cons hc1 (ad_cons hc2 ad_nil hs2) hs1)) pa_nil he2) he) (by decide) (by decide) he hpl) fun σ H Q ⟨G, s, a, q⟩ => ⟨G, s, a, fun v G1 H1 d1 e1 r1 q1 => by
    subst q1
    refine ⟨G1, e1.sub, a.mono e1.gx, fun vs G2 H2 ds e2 r2 q2 => ?_⟩
    subst q2
    cases r2 with
    | cons h t =>
      cases t with
      | cons h3 t2 =>
        cases t2
        cases h
        cases h3
        refine ⟨by show 2 ≤ sizeLine; decide, fun u hu => ?_⟩
        refine ⟨v, u, _, _, [.type U1, .type U2], b1 || b2, rfl, upd_same, .cons (.ty U1) (.cons (.ty U2) .nil), (r1.mono ((e2.gx.trans e2.sub).trans (Ex.new hu))).tyX ht, ?_, q _ _ _ _ ((e1.trans e2).trans (Gr.laid e2.sub hu)) (.bl _) rfl⟩
        refine kitAny_cons (kit_ty h1) (fun z => ?_) (fun z => by rw [z]; rfl)
        refine kitAny_cons (kit_ty h2) (fun y => ?_) (fun y => by rw [y, Bool.or_true])
        rw [z, y]
        exact kitAny_nil⟩

/-! ### == and != of data -/
theorem rd_eqD {K : PySem.W.Frag} {x y : D} (hx : D.ok x = true) (hy : D.ok y = true) (sx : SeqAt.shaped (D.py x) = true) (sy : SeqAt.shaped (D.py y) = true) : RD K (rEqD K) x y (.bl (PyData.eqv (D.py x) (D.py y))) := fun u v G H Q s r1 r2 k =>
  ⟨_, _, (r1.mono s).dp hx, (r2.mono s).dp hy, sx, sy, k _ G H (Gr.refl s) (.bl _)⟩
theorem rd_neD {K : PySem.W.Frag} {x y : D} (hx : D.ok x = true) (hy : D.ok y = true) (sx : SeqAt.shaped (D.py x) = true) (sy : SeqAt.shaped (D.py y) = true) : RD K (rNeD K) x y (.bl (!PyData.eqv (D.py x) (D.py y))) := fun u v G H Q s r1 r2 k =>
  ⟨_, _, (r1.mono s).dp hx, (r2.mono s).dp hy, sx, sy, k _ G H (Gr.refl s) (.bl _)⟩
end
end
end Pd
end

section
set_option Elab.async false
set_option linter.all false
set_option autoImplicit false
set_option maxRecDepth 100000
set_option maxHeartbeats 4000000
namespace Pd
open PySem L2 Evl
section
variable {X : Cx} {δ : Dv}

/-! ### targets -/
theorem Stored.set {i : Nat} {d : D} (h : d.isOwn = false) : Stored δ (δ.set i (some d)) [i] := ⟨fun j hj => List.getElem?_set_ne (by simpa using fun e => hj (by simp [e])), fun j hj ds q => by
  have e : j = i := by simpa using hj
  subst e
  by_cases hl : j < δ.length
  · rw [List.getElem?_set_self hl] at q
    cases q
    cases h
  · rw [List.getElem?_eq_none (by simpa using hl)] at q
    cases q⟩
theorem Stored.trans {δ1 δ2 : Dv} {js ks : List Nat} (a : Stored δ δ1 js) (b : Stored δ1 δ2 ks) : Stored δ δ2 (js ++ ks) := ⟨fun i hi => by
  rw [b.same i fun z => hi (List.mem_append_right _ z), a.same i fun z => hi (List.mem_append_left _ z)], fun i hi ds q => by
  by_cases hk : i ∈ ks
  · exact b.no i hk ds q
  · rw [b.same i hk] at q
    exact a.no i ((List.mem_append.mp hi).elim id fun z => absurd z hk) ds q⟩
theorem gd_name (i : Nat) {x : Str} {pos : Pos} {d : D} (hN : X.N.Nodup) (ho : d.isOwn = false := by rfl) (hi : X.N[i]? = some x := by rfl) (hx : Loc X.env.scope x := by first | exact Or.inl rfl | exact Or.inr rfl) (hf : X.fn x = true ∨ X.env.scope.names.lookup x = some .local := by first | exact .inl rfl | exact .inr rfl) :
    GD X (.Name x pos) δ d (δ.set i (some d)) [i] := ⟨pg_weak (pg_name hN hi hx hf) fun v σ H Q ⟨G, s, a, r, k⟩ => k _ (a.set r) (by simp) fun j hj => List.getElem?_set_ne (by simpa using fun e => hj (by simp [e])), Stored.set ho⟩
theorem gds_nil : GDs X [] δ [] δ [] := ⟨pgs_weak pgs_nil fun vs σ H Q ⟨G, s, a, r, k⟩ => by
  cases r
  exact ⟨rfl, k σ a rfl fun _ _ => rfl⟩, ⟨fun _ _ => rfl, fun i h => by cases h⟩⟩
theorem gds_cons {e : Expr} {es : List Expr} {d : D} {ds : List D} {δ1 δ2 : Dv} {js ks : List Nat} (h : GD X e δ d δ1 js) (hr : GDs X es δ1 ds δ2 ks) (hs : (assignEach (e :: es) X.env).map (·.2) = assign e X.env :: (assignEach es X.env).map (·.2) := by rfl) :
    GDs X (e :: es) δ (d :: ds) δ2 (js ++ ks) := ⟨pgs_weak (pgs_cons h.run hr.run hs) fun vs σ H Q ⟨G, s, a, r, k⟩ => by
  cases r with
  | cons r1 r2 =>
    refine ⟨_, _, rfl, G, s, a, r1, fun σ1 a1 l1 s1 => ⟨G, s, a1, r2, fun σ2 a2 l2 s2 => k σ2 a2 (l2.trans l1) fun i hi => ?_⟩⟩
    rw [s2 i fun z => hi (List.mem_append_right _ z), s1 i fun z => hi (List.mem_append_left _ z)], h.st.trans hr.st⟩
theorem gd_tup {es : List Expr} {k : Nat} {pos : Pos} {ds : List D} {δ' : Dv} {js : List Nat} {n : Nat} (h : GDs X es δ ds δ' js) (hl : ds.length = n := by rfl) (hc : X.calm = true := by rfl) (hn : (assignEach es X.env).length = n := by rfl) (hst : (assignEach es X.env).findIdx? (·.1) = none := by rfl) :
    GD X (.Tuple es k pos) δ (.tup ds) δ' js := ⟨pg_weak (pg_tup hc h.run hn hst) fun v σ H Q ⟨G, s, a, r, q⟩ => by
  cases r with
  | tup h1 r1 => exact ⟨_, _, rfl, ex_t s h1, by rw [← r1.length]; exact hl, G, s, a, r1, q⟩, h.st⟩

/-! ### what is walked -/
theorem id_lst {tg e : Expr} {xs : List D} (h : PD X e δ (.lst xs)) : ID X tg e δ xs := pi_weak (pi_list h) fun σ H R ⟨G, s, a, k⟩ => ⟨G, s, a, fun v G1 H1 d e1 r q => by
  subst q
  cases r with
  | lst h1 r1 =>
    refine ⟨_, rfl, ⟨_, SqL.of (e1.sub _ _ h1)⟩, k _ G1 H1 e1 fun i G' H' e2 e3 => ⟨fun x hx => ?_, fun hn => ?_⟩⟩
    · obtain ⟨w, hw, rw'⟩ := r1.get hx
      have s := SqL.of (K := X.K) (e3 _ _ (e2 _ _ h1))
      refine ⟨⟨_, w, s, hw⟩, fun v H'' y => ?_⟩
      obtain ⟨rfl, y⟩ := y
      have q := y _ s
      rw [hw] at q
      cases q
      exact ⟨G', Gr.refl e3, rw'.mono e2⟩
    · exact ⟨_, SqL.of (e3 _ _ (e2 _ _ h1)), by rw [← r1.length]; exact hn⟩⟩
theorem id_tup {tg e : Expr} {xs : List D} (h : PD X e δ (.tup xs)) : ID X tg e δ xs := pi_weak (pi_tup h) fun σ H R ⟨G, s, a, k⟩ => ⟨G, s, a, fun v G1 H1 d e1 r q => by
  subst q
  cases r with
  | tup h1 r1 =>
    refine ⟨_, rfl, ⟨_, ex_t e1.sub h1⟩, k _ G1 H1 e1 fun i G' H' e2 e3 => ⟨fun x hx => ?_, fun hn => ?_⟩⟩
    · obtain ⟨w, hw, rw'⟩ := r1.get hx
      have s := ex_t (e2.trans e3) h1
      refine ⟨⟨_, w, s, hw⟩, fun v H'' y => ?_⟩
      obtain ⟨rfl, y⟩ := y
      have q := y _ s
      rw [hw] at q
      cases q
      exact ⟨G', Gr.refl e3, rw'.mono e2⟩
    · exact ⟨_, ex_t (e2.trans e3) h1, by rw [← r1.length]; exact hn⟩⟩
def rangeD (n : Nat) : List D := (List.range n).map fun (i : Nat) => D.int i
theorem id_range {tg e : Expr} {p pos : Pos} {n : Nat} (hm : X.mg "range" = none) (h : PD X e δ (.int (n : Int))) (hn : n ≤ 100000) (hg : Gl X "range" := by rfl) (hs : starEach [e] X.env = [(false, eval e X.env)] := by rfl) : ID X tg (.Call (.Name "range" p) [e] [] pos) δ (rangeD n) :=
  pi_weak (pi_range1 hg hm (ad_cons h ad_nil hs) hs) fun σ H R ⟨G, s, a, k⟩ => ⟨G, s, a, fun vs G1 H1 ds e1 r q => by
    subst q
    cases r with
    | cons r1 r2 =>
      cases r2
      cases r1
      refine ⟨n, rfl, by omega, by omega, k _ G1 H1 e1 fun i G' H' e2 e3 => ⟨fun x hx => ?_, fun hl => ?_⟩⟩
      · unfold rangeD at hx
        rw [List.getElem?_map] at hx
        have hi : i < n := by
          by_cases hi : i < n
          · exact hi
          · rw [List.getElem?_eq_none (by simpa using hi)] at hx
            cases hx
        rw [List.getElem?_range hi] at hx
        cases hx
        refine ⟨by show i < Int.toNat n; omega, fun v H'' y => ?_⟩
        obtain ⟨rfl, rfl⟩ := y
        refine ⟨G', Gr.refl e3, ?_⟩
        have e0 : (0 : Int) + (i : Int) = (i : Int) := Int.zero_add _
        rw [e0]
        exact .int _
      · show Int.toNat n ≤ i
        unfold rangeD at hl
        rw [List.length_map, List.length_range] at hl
        omega⟩
def enumD (k : Nat) : List D → List D
  | [] => []
  | x :: xs => .tup [.int (k : Int), x] :: enumD (k + 1) xs
theorem enumD_length : ∀ (k : Nat) (xs : List D), (enumD k xs).length = xs.length
  | _, [] => rfl
  | k, _ :: xs => by
    show (enumD (k + 1) xs).length + 1 = xs.length + 1
    rw [enumD_length]
theorem enumD_get : ∀ (k : Nat) (xs : List D) (i : Nat) (z : D), (enumD k xs)[i]? = some z → ∃ x, xs[i]? = some x ∧ z = .tup [.int ((k + i : Nat) : Int), x]
  | _, [], _, _, h => by simp [enumD] at h
  | k, x :: xs, 0, z, h => by
    simp [enumD] at h
    exact ⟨x, rfl, h.symm⟩
  | k, x :: xs, i + 1, z, h => by
    obtain ⟨y, hy, e⟩ := enumD_get (k + 1) xs i z (by simpa [enumD] using h)
    refine ⟨y, by simpa using hy, ?_⟩
    rw [e]
    congr 4
    omega
theorem id_enum {e : Expr} {elts : List Expr} {kk : Nat} {tpos p pos : Pos} {xs : List D} (hm : X.mg "enumerate" = none) (h : PD X e δ (.lst xs)) (hg : Gl X "enumerate" := by rfl) (hs : starEach [e] X.env = [(false, eval e X.env)] := by rfl) :
    ID X (.Tuple elts kk tpos) (.Call (.Name "enumerate" p) [e] [] pos) δ (enumD 0 xs) :=
  pi_weak (pi_enum hg hm (ad_cons h ad_nil hs) hs) fun σ H R ⟨G, s, a, k⟩ => ⟨G, s, a, fun vs G1 H1 ds e1 r q => by
    subst q
    cases r with
    | cons r1 r2 =>
      cases r2
      cases r1 with
      | lst h1 r1 =>
        refine ⟨_, _, rfl, SqL.of (e1.sub _ _ h1), k _ G1 H1 e1 fun i G' H' e2 e3 => ⟨fun x hx => ?_, fun hl => ?_⟩⟩
        · obtain ⟨y, hy, rfl⟩ := enumD_get 0 xs i x hx
          obtain ⟨w, hw, rw'⟩ := r1.get hy
          have s := SqL.of (K := X.K) (e3 _ _ (e2 _ _ h1))
          refine ⟨⟨_, w, s, hw⟩, fun v H'' z => ?_⟩
          obtain ⟨T, u, rfl, nT, rfl, z⟩ := z
          have q := z _ s
          rw [hw] at q
          cases q
          rw [Nat.zero_add]
          exact ⟨_, Gr.laid e3 nT, .tup (SqT.of upd_same) (.cons (.int _) (.cons ((rw'.mono e2).mono (Gr.laid e3 nT).gx) .nil))⟩
        · rw [enumD_length] at hl
          exact ⟨_, SqL.of (e3 _ _ (e2 _ _ h1)), by rw [← r1.length]; exact hl⟩⟩
def zipD : List D → List D → List D
  | x :: xs, y :: ys => .tup [x, y] :: zipD xs ys
  | _, _ => []
theorem zipD_get : ∀ (xs ys : List D) (i : Nat) (z : D), (zipD xs ys)[i]? = some z → ∃ x y, xs[i]? = some x ∧ ys[i]? = some y ∧ z = .tup [x, y]
  | [], _, _, _, h => by simp [zipD] at h
  | _ :: _, [], _, _, h => by simp [zipD] at h
  | x :: xs, y :: ys, 0, z, h => by
    simp [zipD] at h
    exact ⟨x, y, rfl, rfl, h.symm⟩
  | x :: xs, y :: ys, i + 1, z, h => by
    obtain ⟨u, v, h1, h2, e⟩ := zipD_get xs ys i z (by simpa [zipD] using h)
    exact ⟨u, v, by simpa using h1, by simpa using h2, e⟩
theorem zipD_len : ∀ (xs ys : List D) (i : Nat), (zipD xs ys).length ≤ i → xs.length ≤ i ∨ ys.length ≤ i
  | [], _, _, _ => .inl (Nat.zero_le _)
  | _ :: _, [], _, _ => .inr (Nat.zero_le _)
  | x :: xs, y :: ys, i, h => by
    have h' : (zipD xs ys).length + 1 ≤ i := h
    have := zipD_len xs ys (i - 1) (by omega)
    rw [List.length_cons, List.length_cons]
    omega
theorem id_zipL {e e2 : Expr} {elts : List Expr} {kk : Nat} {tpos p pos : Pos} {xs ys : List D} (hm : X.mg "zip" = none) (h : PD X e δ (.lst xs)) (h2 : PD X e2 δ (.lst ys)) (hg : Gl X "zip" := by rfl) (hs : starEach [e, e2] X.env = (false, eval e X.env) :: starEach [e2] X.env := by rfl)
    (hs2 : starEach (e2 :: []) X.env = (false, eval e2 X.env) :: starEach [] X.env := by rfl) (hpl : (backTo pos (starEach [e2] X.env)).any (·.1) = false := by rfl) : ID X (.Tuple elts kk tpos) (.Call (.Name "zip" p) [e, e2] [] pos) δ (zipD xs ys) :=
  pi_weak (RZ.pi_zipA hg hm (ad_cons h (ad_cons h2 ad_nil hs2) hs) hs hpl) fun σ H R ⟨G, s, a, k⟩ => ⟨G, s, a, fun vs G1 H1 ds e1 r q => by
    subst q
    cases r with
    | cons r1 r2 =>
      cases r2 with
      | cons r2 r3 =>
        cases r3
        cases r1 with
        | lst h1 r1 =>
          cases r2 with
          | lst h2 r2 =>
            refine ⟨_, _, _, _, rfl, .inl ⟨SqL.of (e1.sub _ _ h1), SqL.of (e1.sub _ _ h2), k _ G1 H1 e1 fun i G' H' e2 e3 => ⟨fun x hx => ?_, fun hl => ?_⟩⟩⟩
            · obtain ⟨u, v, hu, hv, rfl⟩ := zipD_get xs ys i x hx
              obtain ⟨w, hw, rw'⟩ := r1.get hu
              obtain ⟨w2, hw2, rw2⟩ := r2.get hv
              have s := SqL.of (K := X.K) (e3 _ _ (e2 _ _ h1))
              have s2 := SqL.of (K := X.K) (e3 _ _ (e2 _ _ h2))
              refine ⟨⟨_, _, w, w2, s, s2, hw, hw2⟩, fun v H'' z => ?_⟩
              obtain ⟨T, u1, u2, rfl, nT, rfl, z1, z2⟩ := z
              have q := z1 _ s
              rw [hw] at q
              cases q
              have q := z2 _ s2
              rw [hw2] at q
              cases q
              exact ⟨_, Gr.laid e3 nT, .tup (SqT.of upd_same) (.cons ((rw'.mono e2).mono (Gr.laid e3 nT).gx) (.cons ((rw2.mono e2).mono (Gr.laid e3 nT).gx) .nil))⟩
            · have := zipD_len xs ys i hl
              rw [r1.length, r2.length] at this
              exact ⟨_, _, SqL.of (e3 _ _ (e2 _ _ h1)), SqL.of (e3 _ _ (e2 _ _ h2)), this⟩⟩
theorem id_zipT {e e2 : Expr} {elts : List Expr} {kk : Nat} {tpos p pos : Pos} {xs ys : List D} (hm : X.mg "zip" = none) (h : PD X e δ (.tup xs)) (h2 : PD X e2 δ (.tup ys)) (hg : Gl X "zip" := by rfl) (hs : starEach [e, e2] X.env = (false, eval e X.env) :: starEach [e2] X.env := by rfl)
    (hs2 : starEach (e2 :: []) X.env = (false, eval e2 X.env) :: starEach [] X.env := by rfl) (hpl : (backTo pos (starEach [e2] X.env)).any (·.1) = false := by rfl) : ID X (.Tuple elts kk tpos) (.Call (.Name "zip" p) [e, e2] [] pos) δ (zipD xs ys) :=
  pi_weak (RZ.pi_zipA hg hm (ad_cons h (ad_cons h2 ad_nil hs2) hs) hs hpl) fun σ H R ⟨G, s, a, k⟩ => ⟨G, s, a, fun vs G1 H1 ds e1 r q => by
    subst q
    cases r with
    | cons r1 r2 =>
      cases r2 with
      | cons r2 r3 =>
        cases r3
        cases r1 with
        | tup h1 r1 =>
          cases r2 with
          | tup h2 r2 =>
            refine ⟨_, _, _, _, rfl, .inr ⟨ex_t e1.sub h1, ex_t e1.sub h2, k _ G1 H1 e1 fun i G' H' e2 e3 => ⟨fun x hx => ?_, fun hl => ?_⟩⟩⟩
            · obtain ⟨u, v, hu, hv, rfl⟩ := zipD_get xs ys i x hx
              obtain ⟨w, hw, rw'⟩ := r1.get hu
              obtain ⟨w2, hw2, rw2⟩ := r2.get hv
              have s := ex_t (e2.trans e3) h1
              have s2 := ex_t (e2.trans e3) h2
              refine ⟨⟨_, _, w, w2, s, s2, hw, hw2⟩, fun v H'' z => ?_⟩
              obtain ⟨T, u1, u2, rfl, nT, rfl, z1, z2⟩ := z
              have q := z1 _ s
              rw [hw] at q
              cases q
              have q := z2 _ s2
              rw [hw2] at q
              cases q
              exact ⟨_, Gr.laid e3 nT, .tup (SqT.of upd_same) (.cons ((rw'.mono e2).mono (Gr.laid e3 nT).gx) (.cons ((rw2.mono e2).mono (Gr.laid e3 nT).gx) .nil))⟩
            · have := zipD_len xs ys i hl
              rw [r1.length, r2.length] at this
              exact ⟨_, _, ex_t (e2.trans e3) h1, ex_t (e2.trans e3) h2, this⟩⟩

/-! ### list comprehensions -/
abbrev CEnv (X : Cx) (scope : Scope) (s : Shared) (H : Hp) (C : Addr) (cl : List (Str × Addr)) (fp : List Addr) : Cx := X.blk s H scope (compEnvC scope cl C X.env) fp
/-- a clause's tests, told -/
abbrev TsD (X : Cx) (ifs : List Expr) (δ : Dv) (b : Bool) : Prop := PTs X ifs (tTD X.K δ b)
theorem tsd_nil : TsD X [] δ true := ⟨fun pins s σ H Q I ⟨G, e, a, q⟩ => pts_nil.run pins s σ H Q I (q G H (Gr.refl e))⟩
theorem tsd_one {c : Expr} {b : Bool} (h : TD X c δ b) : TsD X [c] δ b := pts_one h
/-- one turn: the item x, behind the target δ', the tests' answer b, the element y where it is asked -/
structure Turn1 (X : Cx) (scope : Scope) (elt tg : Expr) (ifs : List Expr) (δ : Dv) (vs : List Nat) (x : D) (δ' : Dv) (js : List Nat) (b : Bool) (y : D) : Prop where
  tg : ∀ s H C cl fp, GD (CEnv X scope s H C cl fp) tg (wipeD δ vs) x δ' js
  js : ∀ j ∈ js, j ∈ vs
  ts : ∀ s H C cl fp, TsD (CEnv X scope s H C cl fp) ifs δ' b
  el : b = true → ∀ s H C cl fp, PD (CEnv X scope s H C cl fp) elt δ' y
inductive Comp (X : Cx) (scope : Scope) (elt tg : Expr) (ifs : List Expr) (δ : Dv) (vs : List Nat) : List D → List D → Prop
  | nil : Comp X scope elt tg ifs δ vs [] []
  | yes {x y : D} {xs ys : List D} {δ' : Dv} {js : List Nat} : Turn1 X scope elt tg ifs δ vs x δ' js true y → Comp X scope elt tg ifs δ vs xs ys → Comp X scope elt tg ifs δ vs (x :: xs) (y :: ys)
  | no {x : D} {xs ys : List D} {δ' : Dv} {js : List Nat} : Turn1 X scope elt tg ifs δ vs x δ' js false .non → Comp X scope elt tg ifs δ vs xs ys → Comp X scope elt tg ifs δ vs (x :: xs) ys
def uTs (X : Cx) (scope : Scope) (ifs : List Expr) : TT := fun σ H Q => ∃ t, (∀ s H C cl fp, PTs (CEnv X scope s H C cl fp) ifs t) ∧ t σ H Q
def uEs (X : Cx) (scope : Scope) (e : Expr) : TE := fun σ H Q => ∃ t, (∀ s H C cl fp, PE (CEnv X scope s H C cl fp) e t) ∧ t σ H Q
def uGs (X : Cx) (scope : Scope) (e : Expr) : TG := fun v σ H Q => ∃ t, (∀ s H C cl fp, PG (CEnv X scope s H C cl fp) e t) ∧ t v σ H Q
theorem Comp.len {scope : Scope} {elt tg : Expr} {ifs : List Expr} {vs : List Nat} : ∀ {xs ys : List D}, Comp X scope elt tg ifs δ vs xs ys → ys.length ≤ xs.length
  | _, _, .nil => Nat.le_refl _
  | _, _, .yes _ c => Nat.succ_le_succ c.len
  | _, _, .no _ c => Nat.le_succ_of_le c.len
/-- between the turns: G' the told part, the list at Dl outside of it -/
structure Lcw (X : Cx) (scope : Scope) (elt tg : Expr) (ifs : List Expr) (δ : Dv) (vs : List Nat) (xs ys : List D) (G1 H1 : Hp) (Dl : Addr) (i m : Nat) (H' : Hp) (G' : Hp) (done todo : List D) (acc : List V) : Prop where
  ey : ys = done ++ todo
  hc : Comp X scope elt tg ifs δ vs (xs.drop i) todo
  em : m = xs.length - i
  hi : i ≤ xs.length
  gr : Gr G1 H1 G' H'
  out : G' Dl = none
  at_ : H' Dl = some (.lst acc)
  rp : Rps X.K G' done acc
theorem lc_read {scope : Scope} {elt tg : Expr} {ifs : List Expr} {vs : List Nat} {xs ys : List D} (h : Comp X scope elt tg ifs δ vs xs ys) (hl : xs.length ≤ 40000) :
    ∀ σ H Q, tD X.K δ (fun z => z = .lst ys) σ H Q → tLc (iD X.K δ xs) (uGs X scope tg) (uTs X scope ifs) (uEs X scope elt) vs σ H Q := fun σ H Q ⟨G, s, a, k⟩ => ⟨G, s, a, fun J G1 H1 e1 src Dl hD => by
  have hG1 : G1 Dl = none := fresh_back e1.sub hD
  have e0 : Gr G1 H1 G1 (upd H1 Dl (.lst [])) := ⟨Ex.new hD, Ex.refl _, e1.sub.trans (Ex.new hD), fun _ _ q => .inl q⟩
  refine ⟨fun i m H' => ∃ G' done todo acc, Lcw X scope elt tg ifs δ vs xs ys G1 H1 Dl i m H' G' done todo acc,
    ⟨xs.length, G1, [], ys, [], rfl, by simpa using h, by simp, Nat.zero_le _, e0, hG1, upd_same, .nil⟩, ?_⟩
  rintro i m H' ⟨G', done, todo, acc, w⟩
  obtain ⟨s1, s2⟩ := src i G' H' w.gr.gx w.gr.sub
  by_cases hlt : i < xs.length
  · have hd : xs.drop i = xs[i] :: xs.drop (i + 1) := List.drop_eq_getElem_cons hlt
    obtain ⟨g, y⟩ := s1 xs[i] (List.getElem?_eq_getElem hlt)
    have hc := w.hc
    rw [hd] at hc
    refine .inr ⟨g, fun H'' => ∃ G'' done todo acc, Lcw X scope elt tg ifs δ vs xs ys G1 H1 Dl (i + 1) (xs.length - (i + 1)) H'' G'' done todo acc, fun H'' ⟨G'', d2, t2, a2, w2⟩ => ⟨xs.length - (i + 1), by rw [w.em]; omega, G'', d2, t2, a2, w2⟩, fun v H'' yv => ?_⟩
    obtain ⟨G'', e3, rx⟩ := y v H'' yv
    have a1 : DEnv X.K σ G'' δ := a.mono ((e1.gx.trans w.gr.gx).trans e3.gx)
    have hla : acc.length ≤ 40000 := by
      have q1 := w.rp.length
      have q2 : ys.length = done.length + todo.length := by rw [w.ey, List.length_append]
      have q3 := h.len
      omega
    cases hc with
    | yes t c =>
      rename_i yy todo' δ' js
      refine ⟨gD X.K (wipeD δ vs) xs[i] δ' js, fun s H C cl fp => (t.tg s H C cl fp).run, G'', e3.sub, a1.wipe vs, rx, fun σ2 a2 l2 same => ⟨?_, tTD X.K δ' true, fun s H C cl fp => t.ts s H C cl fp, G'', e3.sub, a2, fun G4 H4 e4 => ?_⟩⟩
      · exact (wipe_same l2 fun j hj => same j fun z => hj (t.js j z)).trans (wipe_wipe σ vs)
      · show uEs X scope elt σ2 H4 _
        refine ⟨tD X.K δ' (fun z => z = yy), fun s H C cl fp => t.el rfl s H C cl fp, G4, e4.sub, a2.mono e4.gx, fun u G5 H5 d e5 r5 q5 => ?_⟩
        subst q5
        have g35 := (e3.trans e4).trans e5
        have o5 : G5 Dl = none := g35.out w.out w.at_
        have h5 : H5 Dl = some (.lst acc) := g35.ex _ _ w.at_
        have gg := w.gr.trans g35
        refine ⟨acc, h5, sz_lt (by omega), G5, done ++ [d], todo', acc ++ [u], ?_, c, rfl, hlt, ⟨Ex.mut gg.ex hD, gg.gx, ?_, gg.new⟩, o5, upd_same, (w.rp.mono g35.gx).snoc r5⟩
        · rw [w.ey, List.append_assoc]
          rfl
        · intro b u' q
          have nb : b ≠ Dl := fun z => by
            rw [z, o5] at q
            cases q
          rw [upd_ne nb]
          exact gg.sub b u' q
    | no t c =>
      rename_i δ' js
      refine ⟨gD X.K (wipeD δ vs) xs[i] δ' js, fun s H C cl fp => (t.tg s H C cl fp).run, G'', e3.sub, a1.wipe vs, rx, fun σ2 a2 l2 same => ⟨?_, tTD X.K δ' false, fun s H C cl fp => t.ts s H C cl fp, G'', e3.sub, a2, fun G4 H4 e4 => ?_⟩⟩
      · exact (wipe_same l2 fun j hj => same j fun z => hj (t.js j z)).trans (wipe_wipe σ vs)
      · have g34 := e3.trans e4
        show ∃ G'' done todo acc, Lcw X scope elt tg ifs δ vs xs ys G1 H1 Dl (i + 1) (xs.length - (i + 1)) H4 G'' done todo acc
        exact ⟨G4, done, todo, acc, w.ey, c, rfl, hlt, w.gr.trans g34, g34.out w.out w.at_, g34.ex _ _ w.at_, w.rp.mono g34.gx⟩
  · have ei : i = xs.length := Nat.le_antisymm w.hi (Nat.le_of_not_lt hlt)
    refine .inl ⟨s2 (Nat.le_of_not_lt hlt), ?_⟩
    have ht : todo = [] := by
      have q := w.hc
      rw [ei, List.drop_length] at q
      cases q
      rfl
    have ed : ys = done := by rw [w.ey, ht, List.append_nil]
    refine k _ (upd G' Dl (.lst acc)) H' _ (e1.trans ⟨w.gr.ex, w.gr.gx.trans fun b u q => ?_, fun b u q => ?_, fun b u q => ?_⟩) (.lst upd_same (w.rp.mono fun b u q => ?_)) (by rw [ed])
    · rw [upd_ne fun z => by rw [z, w.out] at q; cases q]
      exact q
    · by_cases hb : b = Dl
      · subst hb
        rw [upd_same] at q
        rw [w.at_]
        exact q
      · rw [upd_ne hb] at q
        exact w.gr.sub b u q
    · by_cases hb : b = Dl
      · subst hb
        exact .inr hD
      · rw [upd_ne hb] at q
        exact w.gr.new b u q
    · rw [upd_ne fun z => by rw [z, w.out] at q; cases q]
      exact q⟩
theorem pg_us {scope : Scope} {e : Expr} : ∀ s H C cl fp, PG (CEnv X scope s H C cl fp) e (uGs X scope e) := fun s H C cl fp => ⟨fun pins s' σ H' v u Q I r ⟨_, h, q⟩ => (h s H C cl fp).run pins s' σ H' v u Q I r q⟩
theorem pts_us {scope : Scope} {ifs : List Expr} : ∀ s H C cl fp, PTs (CEnv X scope s H C cl fp) ifs (uTs X scope ifs) := fun s H C cl fp => ⟨fun pins s' σ H' Q I ⟨_, h, q⟩ => (h s H C cl fp).run pins s' σ H' Q I q⟩
theorem pe_us {scope : Scope} {e : Expr} : ∀ s H C cl fp, PE (CEnv X scope s H C cl fp) e (uEs X scope e) := fun s H C cl fp => ⟨fun pins s' σ H' Q I ⟨_, h, q⟩ => (h s H C cl fp).run pins s' σ H' Q I q⟩
/-- [elt for tg in iter if ..] -/
theorem pd_lc {elt tg iter : Expr} {ifs : List Expr} {scope : Scope} (own : List (Str × Nat)) {pos : Pos} {xs ys : List D} (ok : BlkOk X.N X.env.scope scope own) (hN : X.N.Nodup) (hi : ID X tg iter δ xs) (h : Comp X scope elt tg ifs δ (own.map (·.2)) xs ys) (hl : xs.length ≤ 40000) (hc : X.calm = true := by rfl) (hs : ∀ x, foldedSetIterable iter X.env x = pure x := by intro _; rfl) :
    PD X (.ListComp elt [⟨tg, iter, ifs, 0⟩] scope pos) δ (.lst ys) := pe_weak (pe_lc hc hN hi ok pg_us pts_us pe_us hs) (lc_read h hl)
end
end Pd
end

section
set_option Elab.async false
set_option linter.all false
set_option autoImplicit false
set_option maxRecDepth 100000
set_option maxHeartbeats 4000000
namespace Pd
open PySem L2 Evl
section
variable {X : Cx} {δ : Dv} {O : Out}

/-! ### blocks -/
theorem bd_nil (k : O.nx δ) : BD X [] δ O := pss_weak pss_nil fun D₀ σ H ⟨G0, H0, G, g, a, f⟩ => f.nx σ G H δ g a k
theorem bd_one {st : Stmt} (h : SD X st δ O) : BD X [st] δ O := pss_one h
theorem bd_seq {st : Stmt} {rest : List Stmt} {M : Dv → Prop} (h : SD X st δ { O with nx := M }) (hr : ∀ δ', M δ' → BD X rest δ' O) : BD X (st :: rest) δ O :=
  pss_weak (pss_cons h pss_u) fun D₀ σ H ⟨G0, H0, G, g, a, f⟩ => ⟨G0, H0, G, g, a, ⟨fun σ' G' H' δ' g' a' m => ⟨tSD X.K δ' O, hr δ' m, G0, H0, G', g', a', f⟩, f.rt, f.bk, f.ct⟩⟩
theorem SD.imp {st : Stmt} {O' : Out} (h : SD X st δ O) (n : ∀ δ', O.nx δ' → O'.nx δ') (r : ∀ d, O.rt d → O'.rt d) (b : ∀ δ', O.bk δ' → O'.bk δ') (c : ∀ δ', O.ct δ' → O'.ct δ') : SD X st δ O' :=
  ps_weak h fun D₀ σ H ⟨G0, H0, G, g, a, f⟩ => ⟨G0, H0, G, g, a, ⟨fun σ' G' H' δ' g' a' m => f.nx σ' G' H' δ' g' a' (n _ m), fun v G' H' d g' r' m => f.rt v G' H' d g' r' (r _ m), fun σ' G' H' δ' g' a' m => f.bk σ' G' H' δ' g' a' (b _ m), fun σ' G' H' δ' g' a' m => f.ct σ' G' H' δ' g' a' (c _ m)⟩⟩

/-! ### small statements -/
section
variable {e : Expr} {pos pos' : Pos} {d : D} {P : D → Prop} {rest : List Stmt} {x : Str}
theorem sd_setR (i : Nat) (hN : X.N.Nodup) (h : PR X e δ P) (k : ∀ d, P d → O.nx (δ.set i (some d))) (hi : X.N[i]? = some x := by rfl) (hx : Loc X.env.scope x := by first | exact Or.inl rfl | exact Or.inr rfl)
    (hs : swapsWith e (some (.Name x pos')) pos.line X.env = pure false := by rfl) (hf : X.fn x = true ∨ X.env.scope.names.lookup x = some .local := by first | exact .inl rfl | exact .inr rfl) : SD X (.Assign [.Name x pos'] e pos) δ O :=
  ps_weak (ps_set hN hi hx h hs hf) fun D₀ σ H ⟨G0, H0, G, g, a, f⟩ => ⟨G, g.sub, a.env, fun v G2 H2 d e r p => f.nx _ G2 H2 _ (g.trans e) ((a.grow e).set r) (k d p)⟩
theorem bd_setR (i : Nat) (hN : X.N.Nodup) (h : PR X e δ P) (k : ∀ d, P d → BD X rest (δ.set i (some d)) O) (hi : X.N[i]? = some x := by rfl) (hx : Loc X.env.scope x := by first | exact Or.inl rfl | exact Or.inr rfl)
    (hs : swapsWith e (some (.Name x pos')) pos.line X.env = pure false := by rfl) (hf : X.fn x = true ∨ X.env.scope.names.lookup x = some .local := by first | exact .inl rfl | exact .inr rfl) : BD X (.Assign [.Name x pos'] e pos :: rest) δ O :=
  bd_seq (M := fun δ' => ∃ d, P d ∧ δ' = δ.set i (some d)) (sd_setR i hN h (fun d p => ⟨d, p, rfl⟩) hi hx hs hf) fun δ' ⟨d, p, q⟩ => by
    rw [q]
    exact k d p
theorem bd_set (i : Nat) (hN : X.N.Nodup) (h : PD X e δ d) (k : BD X rest (δ.set i (some d)) O) (hi : X.N[i]? = some x := by rfl) (hx : Loc X.env.scope x := by first | exact Or.inl rfl | exact Or.inr rfl)
    (hs : swapsWith e (some (.Name x pos')) pos.line X.env = pure false := by rfl) (hf : X.fn x = true ∨ X.env.scope.names.lookup x = some .local := by first | exact .inl rfl | exact .inr rfl) : BD X (.Assign [.Name x pos'] e pos :: rest) δ O :=
  bd_setR i hN h (fun z q => by rw [q]; exact k) hi hx hs hf
/-- x = [.. for ..] on one line, x a plain local -/
theorem sd_setLc (i : Nat) {elt tg iter : Expr} {ifs : List Expr} {scope : Scope} (own : List (Str × Nat)) {lpos : Pos} {xs ys : List D} (ok : BlkOk X.N X.env.scope scope own) (hN : X.N.Nodup) (hI : ID X tg iter δ xs) (h : Comp X scope elt tg ifs δ (own.map (·.2)) xs ys) (hl : xs.length ≤ 40000) (k : O.nx (δ.set i (some (.lst ys))))
    (hsw : swapsWith (.ListComp elt [⟨tg, iter, ifs, 0⟩] scope lpos) (some (.Name x pos')) pos.line X.env = pure true) (hi : X.N[i]? = some x := by rfl) (hx : X.env.scope.names.lookup x = some .local := by rfl) (hc : X.calm = true := by rfl) (hs : ∀ x, foldedSetIterable iter X.env x = pure x := by intro _; rfl) :
    SD X (.Assign [.Name x pos'] (.ListComp elt [⟨tg, iter, ifs, 0⟩] scope lpos) pos) δ O :=
  ps_weak (ps_setLc hc hN hi hx hsw hI ok pg_us pts_us pe_us hs) fun D₀ σ H ⟨G0, H0, G, g, a, f⟩ => lc_read h hl σ H _ ⟨G, g.sub, a.env, fun v G2 H2 d e r p => by
    subst p
    exact f.nx _ G2 H2 _ (g.trans e) ((a.grow e).set r) k⟩
theorem bd_setLc (i : Nat) {elt tg iter : Expr} {ifs : List Expr} {scope : Scope} (own : List (Str × Nat)) {lpos : Pos} {xs ys : List D} (ok : BlkOk X.N X.env.scope scope own) (hN : X.N.Nodup) (hI : ID X tg iter δ xs) (h : Comp X scope elt tg ifs δ (own.map (·.2)) xs ys) (hl : xs.length ≤ 40000) (k : BD X rest (δ.set i (some (.lst ys))) O)
    (hsw : swapsWith (.ListComp elt [⟨tg, iter, ifs, 0⟩] scope lpos) (some (.Name x pos')) pos.line X.env = pure true) (hi : X.N[i]? = some x := by rfl) (hx : X.env.scope.names.lookup x = some .local := by rfl) (hc : X.calm = true := by rfl) (hs : ∀ x, foldedSetIterable iter X.env x = pure x := by intro _; rfl) :
    BD X (.Assign [.Name x pos'] (.ListComp elt [⟨tg, iter, ifs, 0⟩] scope lpos) pos :: rest) δ O :=
  bd_seq (M := fun δ' => δ' = δ.set i (some (.lst ys))) (sd_setLc i own ok hN hI h hl rfl hsw hi hx hc hs) fun δ' q => by
    rw [q]
    exact k
theorem SEnv.stored {K : PySem.W.Frag} {σ σ' : L2.St} {H0 G H : Hp} {δ δ' : Dv} {js : List Nat} (a : SEnv K σ H0 G H δ) (s : Stored δ δ' js) (e : DEnv K σ' G δ') (same : ∀ i, i ∉ js → σ'[i]? = σ[i]?) : SEnv K σ' H0 G H δ' := by
  have back : ∀ (j : Nat) (ds : List D), δ'[j]? = some (some (.own ds)) → j ∉ js ∧ δ[j]? = some (some (.own ds)) := fun j ds q => by
    by_cases hj : j ∈ js
    · exact absurd q (s.no j hj ds)
    · exact ⟨hj, by rw [← s.same j hj]; exact q⟩
  refine ⟨e, fun j ds q => ?_, fun j k ds es q1 q2 => a.one j k ds es (back j ds q1).2 (back k es q2).2⟩
  obtain ⟨hj, q⟩ := back j ds q
  obtain ⟨p, vs, b, c⟩ := a.own j ds q
  exact ⟨p, vs, by rw [same j hj]; exact b, c⟩
theorem sd_tg {tg : Expr} {δ' : Dv} {js : List Nat} (h : PD X e δ d) (hg : GD X tg δ d δ' js) (k : O.nx δ') (hs : swapsWithSole [tg] e pos.line X.env = pure false := by rfl) (hw : swappedStores [tg] e X.env = pure none := by rfl)
    (h1 : (assignEach [tg] X.env).map (·.2) = [assign tg X.env] := by rfl) : SD X (.Assign [tg] e pos) δ O :=
  ps_weak (ps_asg h hg.run hs hw h1) fun D₀ σ H ⟨G0, H0, G, g, a, f⟩ => ⟨G, g.sub, a.env, fun v G2 H2 z e r p => by
    subst p
    exact ⟨G2, e.sub, a.env.mono e.gx, r, fun σ' a' l' s' => f.nx _ G2 H2 _ (g.trans e) ((a.grow e).stored hg.st a' s') k⟩⟩
theorem bd_tg {tg : Expr} {δ' : Dv} {js : List Nat} (h : PD X e δ d) (hg : GD X tg δ d δ' js) (k : BD X rest δ' O) (hs : swapsWithSole [tg] e pos.line X.env = pure false := by rfl) (hw : swappedStores [tg] e X.env = pure none := by rfl)
    (h1 : (assignEach [tg] X.env).map (·.2) = [assign tg X.env] := by rfl) : BD X (.Assign [tg] e pos :: rest) δ O :=
  bd_seq (M := fun z => z = δ') (sd_tg h hg rfl hs hw h1) fun z q => by
    rw [q]
    exact k
/-- a, b = e1, e2 -/
theorem sd_par (i j : Nat) {y : Str} {a b : Expr} {px py pt : Pos} {kt k2 pt2} {d1 d2 : D} (hN : X.N.Nodup) (hij : i ≠ j) (ha : PD X a δ d1) (hb : PD X b δ d2) (k : O.nx ((δ.set i (some d1)).set j (some d2)))
    (hw : swappedStores [.Tuple [.Name x px, .Name y py] kt pt] (.Tuple [a, b] k2 pt2) X.env = pure (some [x, y])) (hi : X.N[i]? = some x := by rfl) (hj : X.N[j]? = some y := by rfl) (hx : X.env.scope.names.lookup x = some .local := by rfl) (hy : X.env.scope.names.lookup y = some .local := by rfl) (hc : X.calm = true := by rfl)
    (hs : swapsWithSole [.Tuple [.Name x px, .Name y py] kt pt] (.Tuple [a, b] k2 pt2) pos.line X.env = pure false := by rfl) (hs1 : starEach (a :: [b]) X.env = (false, eval a X.env) :: starEach [b] X.env := by rfl) (hs2 : starEach (b :: []) X.env = (false, eval b X.env) :: starEach [] X.env := by rfl) :
    SD X (.Assign [.Tuple [.Name x px, .Name y py] kt pt] (.Tuple [a, b] k2 pt2) pos) δ O :=
  ps_weak (ps_par hc hN hi hj hij hx hy (ad_cons ha (ad_cons hb ad_nil hs2) hs1) hw hs) fun D₀ σ H ⟨G0, H0, G, g, a, f⟩ => ⟨G, g.sub, a.env, fun vs G2 H2 ds e r p => by
    subst p
    cases r with
    | cons r1 r2 =>
      cases r2 with
      | cons r2 r3 =>
        cases r3
        exact ⟨_, _, rfl, f.nx _ G2 H2 _ (g.trans e) (((a.grow e).set r1).set r2) k⟩⟩
theorem sd_ret (h : PR X e δ P) (k : ∀ d, P d → O.rt d) : SD X (.Return (some e) pos) δ O :=
  ps_weak (ps_ret h) fun D₀ σ H ⟨G0, H0, G, g, a, f⟩ => ⟨G, g.sub, a.env, fun v G2 H2 d e r p => f.rt v G2 H2 d (g.trans e) r (k d p)⟩
theorem bd_ret (h : PD X e δ d) (k : O.rt d) : BD X (.Return (some e) pos :: rest) δ O :=
  bd_seq (M := fun _ => False) (sd_ret h fun z q => by rw [q]; exact k) fun _ z => z.elim
theorem bd_retR (h : PR X e δ P) (k : ∀ d, P d → O.rt d) : BD X (.Return (some e) pos :: rest) δ O :=
  bd_seq (M := fun _ => False) (sd_ret h k) fun _ z => z.elim
theorem sd_expr (h : PR X e δ P) (k : O.nx δ) (hs : swapsWith e none pos.line X.env = pure false := by rfl) : SD X (.Expr e pos) δ O :=
  ps_weak (ps_expr h hs) fun D₀ σ H ⟨G0, H0, G, g, a, f⟩ => ⟨G, g.sub, a.env, fun v G2 H2 d e r p => f.nx _ G2 H2 _ (g.trans e) (a.grow e) k⟩
theorem bd_expr (h : PR X e δ P) (k : BD X rest δ O) (hs : swapsWith e none pos.line X.env = pure false := by rfl) : BD X (.Expr e pos :: rest) δ O :=
  bd_seq (M := fun z => z = δ) (sd_expr h rfl hs) fun z q => by
    rw [q]
    exact k
theorem sd_break (k : O.bk δ) : SD X (.Break pos) δ O := ps_weak ps_break fun D₀ σ H ⟨G0, H0, G, g, a, f⟩ => f.bk σ G H δ g a k
end
section
variable {c : Expr} {tb eb : List Stmt} {pos : Pos} {b : Bool} {rest : List Stmt}
theorem sd_if (hc : TD X c δ b) (h1 : b = true → BD X tb δ O) (h2 : b = false → BD X eb δ O) : SD X (.If c tb eb pos) δ O :=
  ps_weak (ps_if hc pss_u pss_u) fun D₀ σ H ⟨G0, H0, G, g, a, f⟩ => ⟨G, g.sub, a.env, fun G2 H2 e => by
    cases b with
    | true =>
      show uSs X tb D₀ σ H2
      exact ⟨tSD X.K δ O, h1 rfl, G0, H0, G2, g.trans e, a.grow e, f⟩
    | false =>
      show uSs X eb D₀ σ H2
      exact ⟨tSD X.K δ O, h2 rfl, G0, H0, G2, g.trans e, a.grow e, f⟩⟩
/-- an if that is not taken (its branch raises) -/
theorem bd_skip (hc : TD X c δ false) (k : BD X rest δ O) : BD X (.If c tb [] pos :: rest) δ O :=
  bd_seq (M := fun z => z = δ) (sd_if hc (fun z => Bool.noConfusion z) fun _ => bd_nil rfl) fun z q => by
    rw [q]
    exact k
/-- an if without else that returns -/
theorem bd_when (hc : TD X c δ b) (h1 : b = true → BD X tb δ { O with nx := fun _ => False }) (k : b = false → BD X rest δ O) : BD X (.If c tb [] pos :: rest) δ O :=
  bd_seq (M := fun z => z = δ ∧ b = false) (sd_if hc (fun z => pss_weak (h1 z) fun D₀ σ H ⟨G0, H0, G, g, a, f⟩ => ⟨G0, H0, G, g, a, ⟨fun _ _ _ _ _ _ z => z.elim, f.rt, f.bk, f.ct⟩⟩) fun z => bd_nil ⟨rfl, z⟩) fun z q => by
    rw [q.1]
    exact k q.2
end

/-! ### lists that are still being made -/
/-- to read such a list: as it stands -/
def Froz (δ δf : Dv) : Prop := δf = δ ∨ ∃ i ds, δ[i]? = some (some (.own ds)) ∧ δf = δ.set i (some (.lst ds))
theorem Froz.env {K : PySem.W.Frag} {σ : L2.St} {H0 G H : Hp} {δ δf : Dv} (h : Froz δ δf) (a : SEnv K σ H0 G H δ) (s : Ex G H) : ∃ Gf, Ex Gf H ∧ Ex G Gf ∧ (∀ b o, Gf b = some o → G b = some o ∨ H0 b = none) ∧ DEnv K σ Gf δf ∧ (δf ≠ δ → SEnv K σ H0 Gf H δf) := by
  rcases h with rfl | ⟨i, ds, hi, rfl⟩
  · exact ⟨G, s, Ex.refl G, fun _ _ q => .inl q, a.env, fun z => absurd rfl z⟩
  · obtain ⟨p, vs, h1, h2, h3, h4, h5⟩ := a.own i ds hi
    have x1 : Ex G (upd G p (.lst vs)) := Ex.new h3
    have x2 : Ex (upd G p (.lst vs)) H := fun b o q => by
      by_cases hb : b = p
      · subst hb
        rw [upd_same] at q
        rw [h4]
        exact q
      · rw [upd_ne hb] at q
        exact s b o q
    have r : Rp K (upd G p (.lst vs)) (.lst ds) (.ref p) := .lst upd_same (h5.mono x1)
    have hil : i < δ.length := (List.getElem?_eq_some_iff.mp hi).1
    have es : σ.set i (some (.ref p)) = σ := by
      refine List.ext_getElem? fun j => ?_
      by_cases hj : j = i
      · subst hj
        rw [List.getElem?_set_self (by rw [a.env.len]; exact hil), h1]
      · rw [List.getElem?_set_ne (Ne.symm hj)]
    have d1 : DEnv K σ (upd G p (.lst vs)) (δ.set i (some (.lst ds))) := by
      have q := (a.env.mono x1).set (i := i) r
      rw [es] at q
      exact q
    refine ⟨upd G p (.lst vs), x2, x1, fun b o q => ?_, d1, fun _ => ⟨d1, fun j fs q => ?_, fun j k fs es q1 q2 => ?_⟩⟩
    · by_cases hb : b = p
      · subst hb
        exact .inr h2
      · rw [upd_ne hb] at q
        exact .inl q
    all_goals
      have hno : ∀ (j : Nat) (fs : List D), (δ.set i (some (.lst ds)))[j]? ≠ some (some (.own fs)) := fun j fs q => by
        by_cases hj : j = i
        · subst hj
          rw [List.getElem?_set_self hil] at q
          cases q
        · rw [List.getElem?_set_ne (Ne.symm hj)] at q
          exact hj (a.one j i fs ds q hi)
    · exact absurd q (hno j fs)
    · exact absurd q1 (hno j fs)
/-- from now on it is not changed any more -/
theorem bd_freeze (i : Nat) {ds : List D} {sts : List Stmt} (h : BD X sts (δ.set i (some (.lst ds))) O) (hi : δ[i]? = some (some (.own ds)) := by rfl) : BD X sts δ O :=
  pss_weak h fun D₀ σ H ⟨G0, H0, G, g, a, f⟩ => by
    have fz : Froz δ (δ.set i (some (.lst ds))) := .inr ⟨i, ds, hi, rfl⟩
    obtain ⟨Gf, x2, x1, xn, _, d2⟩ := fz.env a g.sub
    have ne : δ.set i (some (.lst ds)) ≠ δ := fun z => by
      have q : (δ.set i (some (.lst ds)))[i]? = δ[i]? := by rw [z]
      rw [List.getElem?_set_self (List.getElem?_eq_some_iff.mp hi).1, hi] at q
      cases q
    exact ⟨G0, H0, Gf, ⟨g.ex, g.gx.trans x1, x2, fun b o q => (xn b o q).elim (g.new b o) .inr⟩, d2 ne, f⟩
theorem SEnv.newOwn {K : PySem.W.Frag} {σ : L2.St} {H0 G H : Hp} {p : Addr} {vs : List V} {ds : List D} {i : Nat} (a : SEnv K σ H0 G H δ) (hno : ∀ (j : Nat) (fs : List D), δ[j]? ≠ some (some (.own fs))) (hil : i < δ.length) (h0 : Ex H0 H) (s : Ex G H) (hp : H p = none) (r : Rps K G ds vs) :
    SEnv K (σ.set i (some (.ref p))) H0 G (upd H p (.lst vs)) (δ.set i (some (.own ds))) := by
  have only : ∀ (j : Nat) (fs : List D), (δ.set i (some (.own ds)))[j]? = some (some (.own fs)) → j = i ∧ fs = ds := fun j fs q => by
    by_cases hj : j = i
    · subst hj
      rw [List.getElem?_set_self hil] at q
      cases q
      exact ⟨rfl, rfl⟩
    · rw [List.getElem?_set_ne (Ne.symm hj)] at q
      exact absurd q (hno j fs)
  refine ⟨⟨by simpa using a.env.len, fun j d q n => ?_⟩, fun j fs q => ?_, fun j k fs es q1 q2 => (only j fs q1).1.trans (only k es q2).1.symm⟩
  · by_cases hj : j = i
    · subst hj
      rw [List.getElem?_set_self hil] at q
      cases q
      cases n
    · rw [List.getElem?_set_ne (Ne.symm hj)] at q ⊢
      exact a.env.at_ j d q n
  · obtain ⟨rfl, rfl⟩ := only j fs q
    exact ⟨p, vs, List.getElem?_set_self (by rw [a.env.len]; exact hil), fresh_back h0 hp, fresh_back s hp, upd_same, r⟩
theorem SEnv.upOwn {K : PySem.W.Frag} {σ : L2.St} {H0 G H : Hp} {p : Addr} {vs : List V} {ds ds' : List D} {i : Nat} (a : SEnv K σ H0 G H δ) (hi : δ[i]? = some (some (.own ds))) (hs : σ[i]? = some (some (.ref p))) (h0 : H0 p = none) (hg : G p = none) (r : Rps K G ds' vs) :
    SEnv K σ H0 G (upd H p (.lst vs)) (δ.set i (some (.own ds'))) := by
  have hil : i < δ.length := (List.getElem?_eq_some_iff.mp hi).1
  have only : ∀ (j : Nat) (fs : List D), (δ.set i (some (.own ds')))[j]? = some (some (.own fs)) → j = i ∧ fs = ds' := fun j fs q => by
    by_cases hj : j = i
    · subst hj
      rw [List.getElem?_set_self hil] at q
      cases q
      exact ⟨rfl, rfl⟩
    · rw [List.getElem?_set_ne (Ne.symm hj)] at q
      exact absurd (a.one j i fs ds q hi) hj
  refine ⟨⟨by simpa using a.env.len, fun j d q n => ?_⟩, fun j fs q => ?_, fun j k fs es q1 q2 => (only j fs q1).1.trans (only k es q2).1.symm⟩
  · by_cases hj : j = i
    · subst hj
      rw [List.getElem?_set_self hil] at q
      cases q
      cases n
    · rw [List.getElem?_set_ne (Ne.symm hj)] at q
      exact a.env.at_ j d q n
  · obtain ⟨rfl, rfl⟩ := only j fs q
    exact ⟨p, vs, hs, h0, hg, upd_same, r⟩
theorem Gr.mutate {G0 H0 G H : Hp} {p : Addr} {o : HO} (g : Gr G0 H0 G H) (h0 : H0 p = none) (hg : G p = none) : Gr G0 H0 G (upd H p o) := ⟨Ex.mut g.ex h0, g.gx, fun b u q => by
  rw [upd_ne fun z => by rw [z, hg] at q; cases q]
  exact g.sub b u q, g.new⟩
section
variable {es : List Expr} {e : Expr} {d : D} {pos pos' lpos : Pos} {ds ys : List D} {x : Str} {rest : List Stmt}
/-- x = [a, b, ..]: a list that will be changed -/
theorem bd_newOwn (i : Nat) (hN : X.N.Nodup) (h : AD X es δ ds) (hl : ds.length ≤ 100000) (hno : ∀ (j : Nat) (fs : List D), δ[j]? ≠ some (some (.own fs))) (k : BD X rest (δ.set i (some (.own ds))) O) (hil : i < δ.length := by exact Nat.le_of_ble_eq_true rfl) (hi : X.N[i]? = some x := by rfl) (hx : Loc X.env.scope x := by first | exact Or.inl rfl | exact Or.inr rfl)
    (hs : swapsWith (.List es lpos) (some (.Name x pos')) pos.line X.env = pure false := by rfl) (hf : X.fn x = true ∨ X.env.scope.names.lookup x = some .local := by first | exact .inl rfl | exact .inr rfl) : BD X (.Assign [.Name x pos'] (.List es lpos) pos :: rest) δ O :=
  bd_seq (M := fun z => z = δ.set i (some (.own ds))) (ps_weak (ps_set hN hi hx (pe_lst h) hs hf) fun D₀ σ H ⟨G0, H0, G, g, a, f⟩ => ⟨G, g.sub, a.env, fun vs G2 H2 zs e r p => by
    subst p
    refine ⟨sz_of (by rw [← r.length]; exact hl), fun q hq => ?_⟩
    have gq := g.trans e
    exact f.nx _ G2 _ _ (gq.mutate (fresh_back gq.ex hq) (fresh_back gq.sub hq)) ((a.grow e).newOwn hno hil gq.ex gq.sub hq r) rfl⟩) fun z q => by
      rw [q]
      exact k
/-- x.append(e) of such a list -/
theorem sd_append (i : Nat) {p1 p2 : Pos} (h : PD X e δ d) (hl : ds.length < 100000) (hi : δ[i]? = some (some (.own ds))) (k : O.nx (δ.set i (some (.own (ds ++ [d]))))) (hN : X.N[i]? = some x := by rfl) (hv : Vis X.env.scope x := by first | exact Or.inl rfl | exact Or.inr (Or.inl rfl) | exact Or.inr (Or.inr rfl)) (hd : (x == ("__debug__" : Str)) = false := by decide)
    (hcd : (x == ("__classdict__" : Str)) = false := by decide) (hs1 : starEach (e :: []) X.env = (false, eval e X.env) :: starEach [] X.env := by rfl)
    (hps : PS X (.Expr (.Call (.Attribute (.Name x p1) "append" p2) [e] [] lpos) pos) (tDrop (tBM X.K "list" rAppend (tVar i) (tCons (tD X.K δ (fun z => z = d)) tNil)))) : SD X (.Expr (.Call (.Attribute (.Name x p1) "append" p2) [e] [] lpos) pos) δ O :=
  ps_weak hps fun D₀ σ H ⟨G0, H0, G, g, a, f⟩ => by
    obtain ⟨p, vs, h1, h2, h3, h4, h5⟩ := a.own i ds hi
    refine ⟨.ref p, h1, .inl ⟨rfl, _, SqL.of h4⟩, G, g.sub, a.env, fun u G2 H2 z e r q => ?_⟩
    subst q
    have g2 := e.out h3 h4
    refine ⟨p, vs, u, rfl, rfl, e.ex _ _ h4, sz_lt (by rw [← h5.length]; exact hl), ?_⟩
    exact f.nx _ G2 _ _ ((g.trans e).mutate h2 g2) ((a.grow e).upOwn hi h1 h2 g2 ((h5.mono e.gx).snoc r)) k
/-- x += e of such a list, e a list -/
theorem sd_extend (i : Nat) (h : PD X e δ (.lst ys)) (hl : ds.length + ys.length ≤ 100000) (hi : δ[i]? = some (some (.own ds))) (k : O.nx (δ.set i (some (.own (ds ++ ys))))) (hN : X.N.Nodup) (hn : X.N[i]? = some x := by rfl) (hx : Loc X.env.scope x := by first | exact Or.inl rfl | exact Or.inr rfl)
    (hf : X.fn x = true ∨ X.env.scope.names.lookup x = some .local := by first | exact .inl rfl | exact .inr rfl) : SD X (.AugAssign (.Name x pos') .Add e pos) δ O :=
  ps_weak (ps_aug hN hn hx h (iop_ext : PIp X .Add rExt2) hf) fun D₀ σ H ⟨G0, H0, G, g, a, f⟩ => by
    obtain ⟨p, vs, h1, h2, h3, h4, h5⟩ := a.own i ds hi
    refine ⟨.ref p, h1, G, g.sub, a.env, fun u G2 H2 z e r q => ?_⟩
    subst q
    have g2 := e.out h3 h4
    cases r with
    | lst hb rb =>
      refine ⟨p, _, vs, _, rfl, rfl, e.ex _ _ h4, e.sub _ _ hb, sz_of (by rw [← h5.length, ← rb.length]; exact hl), ?_⟩
      have es : σ.set i (some (.ref p)) = σ := by
        refine List.ext_getElem? fun j => ?_
        by_cases hj : j = i
        · subst hj
          rw [List.getElem?_set_self (by rw [a.env.len]; exact (List.getElem?_eq_some_iff.mp hi).1), h1]
        · rw [List.getElem?_set_ne (Ne.symm hj)]
      show D₀.nx (List.set σ i (some (V.ref p))) _
      rw [es]
      exact f.nx _ G2 _ _ ((g.trans e).mutate h2 g2) ((a.grow e).upOwn hi h1 h2 g2 ((h5.mono e.gx).append rb)) k
end

/-! ### loops -/
/-- for tg in xs: body -/
def ForD (X : Cx) (tg : Expr) (body : List Stmt) (O : Out) : List D → Dv → Prop
  | [], δ => O.nx δ
  | x :: xs, δ => ∃ δ' js, GD X tg δ x δ' js ∧ BD X body δ' { nx := fun δ2 => ForD X tg body O xs δ2, ct := fun δ2 => ForD X tg body O xs δ2, bk := O.nx, rt := O.rt }
theorem sd_for {tg iter : Expr} {body : List Stmt} {pos : Pos} {xs : List D} (hi : ID X tg iter δ xs) (h : ForD X tg body O xs δ) (hp : PassesOwn (model X.prog X.w) X.A X.env X.xe := by exact PassesOwn.never) (hc : X.calm = true := by rfl) (hs : ∀ x, foldedSetIterable iter X.env x = pure x := by intro _; rfl) : SD X (.For tg iter body [] pos) δ O :=
  ps_weak (ps_for hp hc hi pg_u pss_u hs) fun D₀ σ H ⟨G0, H0, G, g, a, f⟩ => ⟨G, g.sub, a.env, fun J G1 H1 e1 src => by
    refine ⟨fun i m σ' H' => ∃ G' δ', m = xs.length - i ∧ i ≤ xs.length ∧ Ex G1 G' ∧ Gr G0 H0 G' H' ∧ SEnv X.K σ' H0 G' H' δ' ∧ ForD X tg body O (xs.drop i) δ', ⟨xs.length, G1, δ, by simp, Nat.zero_le _, Ex.refl _, g.trans e1, a.grow e1, by simpa using h⟩, ?_⟩
    rintro i m σ' H' ⟨G', δ', em, hi', x1, g', a', fd⟩
    obtain ⟨s1, s2⟩ := src i G' H' x1 g'.sub
    by_cases hlt : i < xs.length
    · rw [List.drop_eq_getElem_cons hlt] at fd
      obtain ⟨δ2, js, hg, hb⟩ := fd
      obtain ⟨go, y⟩ := s1 xs[i] (List.getElem?_eq_getElem hlt)
      refine .inr ⟨go, fun σ3 H3 => ∃ G3 δ3, Ex G1 G3 ∧ Gr G0 H0 G3 H3 ∧ SEnv X.K σ3 H0 G3 H3 δ3 ∧ ForD X tg body O (xs.drop (i + 1)) δ3, fun σ3 H3 ⟨G3, δ3, y1, y2, y3, y4⟩ => ⟨xs.length - (i + 1), by rw [em]; omega, G3, δ3, rfl, hlt, y1, y2, y3, y4⟩, fun v H'' yv => ?_⟩
      obtain ⟨G'', e3, rx⟩ := y v H'' yv
      refine ⟨gD X.K δ' xs[i] δ2 js, hg.run, G'', e3.sub, a'.env.mono e3.gx, rx, fun σ3 a3 l3 same => ?_⟩
      have a4 : SEnv X.K σ3 H0 G'' H'' δ2 := (a'.grow e3).stored hg.st a3 same
      have keep : ∀ {G3 H3}, Gr G'' H'' G3 H3 → True := fun _ => trivial
      -- the body is run from the loop's own entry: G'' takes the part of G0, so that what it leaves extends G1 as well
      refine ⟨_, hb, G'', H0, G'', ⟨(g'.trans e3).ex, Ex.refl _, e3.sub, fun b o q => .inl q⟩, a4, ?_⟩
      have back : ∀ {G3 H3}, Gr G'' H0 G3 H3 → Gr G0 H0 G3 H3 := fun {G3 H3} q => ⟨q.ex, ((g'.trans e3).gx).trans q.gx, q.sub, fun b o z => (q.new b o z).elim (fun z2 => (g'.trans e3).new b o z2) .inr⟩
      exact ⟨fun σ4 G4 H4 δ4 q1 q2 q3 => ⟨G4, δ4, (x1.trans e3.gx).trans q1.gx, back q1, q2, q3⟩, fun v4 G4 H4 d4 q1 q2 q3 => f.rt v4 G4 H4 d4 (back q1) q2 q3, fun σ4 G4 H4 δ4 q1 q2 q3 => f.nx σ4 G4 H4 δ4 (back q1) q2 q3, fun σ4 G4 H4 δ4 q1 q2 q3 => ⟨G4, δ4, (x1.trans e3.gx).trans q1.gx, back q1, q2, q3⟩⟩
    · have ei : i = xs.length := Nat.le_antisymm hi' (Nat.le_of_not_lt hlt)
      rw [ei, List.drop_length] at fd
      exact .inl ⟨s2 (Nat.le_of_not_lt hlt), f.nx _ G' H' δ' g' a' fd⟩⟩
/-- while c: body -/
theorem sd_while {c : Expr} {body : List Stmt} {pos : Pos} (W : Nat → Dv → Prop) (m0 : Nat) (h0 : W m0 δ)
    (turn : ∀ m δ', W m δ' → ∃ δf b, Froz δ' δf ∧ TD X c δf b ∧ (b = true → BD X body δ' { nx := fun δ2 => ∃ m', m' < m ∧ W m' δ2, ct := fun δ2 => ∃ m', m' < m ∧ W m' δ2, bk := O.nx, rt := O.rt }) ∧ (b = false → O.nx δ'))
    (hp : PassesOwn (model X.prog X.w) X.A X.env X.xe := by exact PassesOwn.never) : SD X (.While c body [] pos) δ O :=
  ps_weak (ps_while hp (pt_u (e := c)) pss_u) fun D₀ σ H ⟨G0, H0, G, g, a, f⟩ => by
    refine ⟨fun m σ' H' => ∃ G' δ', Gr G0 H0 G' H' ∧ SEnv X.K σ' H0 G' H' δ' ∧ W m δ', ⟨m0, G, δ, g, a, h0⟩, ?_⟩
    rintro m σ' H' ⟨G', δ', g', a', w⟩
    obtain ⟨δf, b, fz, hc, ht, hf⟩ := turn m δ' w
    obtain ⟨Gf, x2, x1, xn, d1, _⟩ := fz.env a' g'.sub
    refine ⟨_, hc, Gf, x2, d1, fun G2 H2 e => ?_⟩
    have g2 : Gr G0 H0 G' H2 := ⟨g'.ex.trans e.ex, g'.gx, g'.sub.trans e.ex, g'.new⟩
    have a2 : SEnv X.K σ' H0 G' H2 δ' := ⟨a'.env, fun i ds q => by
      obtain ⟨p, vs, h1, h2, h3, h4, h5⟩ := a'.own i ds q
      exact ⟨p, vs, h1, h2, h3, e.ex _ _ h4, h5⟩, a'.one⟩
    cases b with
    | true =>
      refine iteT ?_
      exact ⟨fun σ3 H3 => ∃ m', m' < m ∧ ∃ G3 δ3, Gr G0 H0 G3 H3 ∧ SEnv X.K σ3 H0 G3 H3 δ3 ∧ W m' δ3, fun σ3 H3 q => q, _, ht rfl, G0, H0, G', g2, a2,
        ⟨fun σ4 G4 H4 δ4 q1 q2 ⟨m', q3, q4⟩ => ⟨m', q3, G4, δ4, q1, q2, q4⟩, f.rt, f.nx, fun σ4 G4 H4 δ4 q1 q2 ⟨m', q3, q4⟩ => ⟨m', q3, G4, δ4, q1, q2, q4⟩⟩⟩
    | false =>
      refine iteF ?_
      exact f.nx _ G' H2 δ' g2 a2 (hf rfl)
end

section
variable {X : Cx} {δ : Dv} {scope : Scope} {elt tg : Expr} {ifs : List Expr} {vs : List Nat} {I : Type}
/-- every item of a list gives one -/
theorem comp_all (l : List I) (f g : I → D) (h : ∀ i ∈ l, ∃ δ' js, Turn1 X scope elt tg ifs δ vs (f i) δ' js true (g i)) : Comp X scope elt tg ifs δ vs (l.map f) (l.map g) := by
  induction l with
  | nil => exact .nil
  | cons a r ih =>
    obtain ⟨δ', js, t⟩ := h a List.mem_cons_self
    exact .yes t (ih fun i hi => h i (List.mem_cons_of_mem _ hi))
/-- the items with p give one -/
theorem comp_some (l : List I) (p : I → Bool) (f g : I → D) (h : ∀ i ∈ l, ∃ δ' js, Turn1 X scope elt tg ifs δ vs (f i) δ' js (p i) (if p i = true then g i else .non)) : Comp X scope elt tg ifs δ vs (l.map f) ((l.filter p).map g) := by
  induction l with
  | nil => exact .nil
  | cons a r ih =>
    obtain ⟨δ', js, t⟩ := h a List.mem_cons_self
    have ih' := ih fun i hi => h i (List.mem_cons_of_mem _ hi)
    cases hp : p a with
    | true =>
      rw [hp, if_pos rfl] at t
      rw [List.filter_cons_of_pos hp]
      exact .yes t ih'
    | false =>
      rw [hp, if_neg Bool.false_ne_true] at t
      rw [List.filter_cons_of_neg (by rw [hp]; exact Bool.false_ne_true)]
      exact .no t ih'
end

/-! ### a def -/
section
variable {Pg : Program} {w : World} {K : PySem.W.Frag} {mg : Str → Option Value} {base : Heap} {x qual : Str} {st : Stmt} {f : Addr} {fd : FuncData} {N ps : List Str} {k : Nat} {α : Type} {arg : α → List D} {P : α → D → Prop}
theorem fn_d (F : Fun K x qual st f fd) (S : FnScope N ps (defScope st)) (hlen : ∀ a, (arg a).length = ps.length)
    (body : ∀ (a : α) (cdv : Value) (A : Around) (outer : List Env) (s : Shared) (H : Hp) (E : XK), Room k (A.deeper (PyProof.Rows.envOfC qual (defScope st) s.heap.objs.size f cdv)) →
      BD (cxOf CX0 Pg w K mg base N qual (defScope st) f cdv A outer s H E).nox (defBody st) ((arg a).map some ++ List.replicate (N.length - (arg a).length) none) { nx := fun _ => P a .non, rt := P a }) :
    FnOk Pg w K mg base CX0 (k + 1) f fd ps (spOf K arg P) := by
  refine F.ok S (fun vs H Q E h => ?_) (fun cdv A outer s H vs Q E hr h => ?_)
  · obtain ⟨G, a, _, r, _⟩ := h
    rw [← r.length, hlen a]
  · obtain ⟨G, a, e, r, q⟩ := h
    have d : DEnv K (start N vs) G ((arg a).map some ++ List.replicate (N.length - (arg a).length) none) := DEnv.start r
    have sd : SEnv K (start N vs) H G H ((arg a).map some ++ List.replicate (N.length - (arg a).length) none) := by
      have no : ∀ (i : Nat) (ds : List D), ((arg a).map some ++ List.replicate (N.length - (arg a).length) none)[i]? ≠ some (some (.own ds)) := fun i ds z => by
        by_cases hi : i < (arg a).length
        · rw [List.getElem?_append_left (by simpa using hi), List.getElem?_map] at z
          cases e : (arg a)[i]? with
          | none =>
            rw [e] at z
            cases z
          | some d' =>
            rw [e] at z
            cases z
            obtain ⟨v, _, r'⟩ := r.get e
            cases r'
        · rw [List.getElem?_append_right (by simpa using hi), List.getElem?_replicate] at z
          split at z <;> cases z
      exact ⟨d, fun i ds z => absurd z (no i ds), fun i j ds es z _ => absurd z (no i ds)⟩
    exact ⟨_, body a cdv A outer s H E hr, G, H, G, Gr.refl e, sd, ⟨fun σ' G' H' δ' g a' p => q _ G' H' _ g .non p, fun v G' H' z g r p => q v G' H' z g r p, fun _ _ _ _ _ _ z => z.elim, fun _ _ _ _ _ _ z => z.elim⟩⟩
end
end Pd
end

section
set_option Elab.async false
set_option linter.all false
set_option autoImplicit false
set_option maxRecDepth 100000
set_option maxHeartbeats 4000000
namespace Pd
open PySem L2 Evl
section
variable {X : Cx} {δ : Dv}
/-! ### cuts -/
theorem cutV_take (xs : List V) (k : Nat) : cutV xs none (some (k : Int)) = xs.take k := by
  unfold cutV
  rw [HT.sIx_none, HT.sIx_nat, List.drop_zero, Nat.sub_zero]
  by_cases h : k ≤ xs.length
  · rw [Nat.min_eq_left h]
  · rw [Nat.min_eq_right (by omega), List.take_of_length_le (Nat.le_refl _), List.take_of_length_le (by omega)]
theorem Rps.take {K : PySem.W.Frag} {H : Hp} : ∀ {ds : List D} {vs : List V} (k : Nat), Rps K H ds vs → Rps K H (ds.take k) (vs.take k)
  | _, _, 0, _ => .nil
  | _, _, k + 1, .nil => .nil
  | _, _, k + 1, .cons h r => .cons h (Rps.take k r)
theorem pd_cutS {e hi : Expr} {pos p2 : Pos} {ns : List Int} (k : Nat) (he : PD X e δ (.scr ns)) (hh : PD X hi δ (.int (k : Int))) : PD X (.Subscript e (.Slice none (some hi) none p2) pos) δ (.lst ((ns.take k).map D.int)) :=
  pe_weak (pe_slice sl_list he po_none (po_some hh)) fun σ H Q ⟨G, s, a, q⟩ => ⟨G, s, a, fun v G1 H1 d e1 r1 p1 => by
    subst p1
    cases r1 with
    | scr h =>
      refine ⟨G1, e1.sub, a.mono e1.gx, fun v2 G2 H2 d2 e2 r2 p2 => ?_⟩
      subst p2
      cases r2
      refine ⟨(k : Int), rfl, _, _, rfl, ex_l (e2.gx.trans e2.sub) h, fun p hp => ?_⟩
      rw [cutV_take, ← List.map_take]
      exact q _ _ _ _ ((e1.trans e2).trans (Gr.laid e2.sub hp)) (.lst upd_same Rps.ints) rfl⟩
theorem pd_cutL {e hi : Expr} {pos p2 : Pos} {xs : List D} (k : Nat) (he : PD X e δ (.lst xs)) (hh : PD X hi δ (.int (k : Int))) : PD X (.Subscript e (.Slice none (some hi) none p2) pos) δ (.lst (xs.take k)) :=
  pe_weak (pe_slice sl_list he po_none (po_some hh)) fun σ H Q ⟨G, s, a, q⟩ => ⟨G, s, a, fun v G1 H1 d e1 r1 p1 => by
    subst p1
    cases r1 with
    | lst h r =>
      refine ⟨G1, e1.sub, a.mono e1.gx, fun v2 G2 H2 d2 e2 r2 p2 => ?_⟩
      subst p2
      cases r2
      refine ⟨(k : Int), rfl, _, _, rfl, SqL.of ((e2.gx.trans e2.sub) _ _ h), fun p hp => ?_⟩
      rw [cutV_take]
      exact q _ _ _ _ ((e1.trans e2).trans (Gr.laid e2.sub hp)) (.lst upd_same ((r.take k).mono (e2.gx.trans (Gr.laid e2.sub hp).gx))) rfl⟩

/-! ### {e: True for ..}, one key in all -/
structure TurnD (X : Cx) (scope : Scope) (kx vx tg : Expr) (δ : Dv) (vs : List Nat) (x : D) (k : Int) (δ' : Dv) (js : List Nat) : Prop where
  tg : ∀ s H C cl fp, GD (CEnv X scope s H C cl fp) tg (wipeD δ vs) x δ' js
  js : ∀ j ∈ js, j ∈ vs
  key : ∀ s H C cl fp, PD (CEnv X scope s H C cl fp) kx δ' (.int k)
  val : ∀ s H C cl fp, PD (CEnv X scope s H C cl fp) vx δ' (.bl true)
structure Dcw (X : Cx) (xs : List D) (k : Int) (G1 H1 : Hp) (Dl : Addr) (i m : Nat) (H' G' : Hp) (kvs : List (Key × V)) : Prop where
  em : m = xs.length - i
  hi : i ≤ xs.length
  gr : Gr G1 H1 G' H'
  out : G' Dl = none
  at_ : H' Dl = some (.dK kvs)
  kv : (i = 0 ∧ kvs = []) ∨ kvs = [(Sum.inl k, .bl true)]
theorem putK_one {k : Int} {kvs : List (Key × V)} (h : kvs = [] ∨ kvs = [(Sum.inl k, V.bl true)]) : putK kvs (Sum.inl k : Key) (V.bl true) = [(Sum.inl k, V.bl true)] := by
  rcases h with rfl | rfl <;> simp [putK]
theorem pd_dc1 {kx vx tg iter : Expr} {scope : Scope} (own : List (Str × Nat)) {pos : Pos} {xs : List D} {k : Int} (ok : BlkOk X.N X.env.scope scope own) (hN : X.N.Nodup) (hi : ID X tg iter δ xs) (h0 : xs ≠ []) (h : ∀ x ∈ xs, ∃ δ' js, TurnD X scope kx vx tg δ (own.map (·.2)) x k δ' js) (hc : X.calm = true := by rfl) (hs : ∀ x, foldedSetIterable iter X.env x = pure x := by intro _; rfl) :
    PD X (.DictComp kx vx [⟨tg, iter, [], 0⟩] scope pos) δ (.dk [k]) := by
  refine pe_weak (pe_dc hc hN hi ok pg_us pts_us pe_us pe_us hs) fun σ H Q ⟨G, s, a, q⟩ => ⟨G, s, a, fun J G1 H1 e1 src Dl hD => ?_⟩
  have hG1 : G1 Dl = none := fresh_back e1.sub hD
  have e0 : Gr G1 H1 G1 (upd H1 Dl (.dK [])) := ⟨Ex.new hD, Ex.refl _, e1.sub.trans (Ex.new hD), fun _ _ q => .inl q⟩
  refine ⟨fun i m H' => ∃ G' kvs, Dcw X xs k G1 H1 Dl i m H' G' kvs, ⟨xs.length, G1, [], rfl, Nat.zero_le _, e0, hG1, upd_same, .inl ⟨rfl, rfl⟩⟩, ?_⟩
  rintro i m H' ⟨G', kvs, w⟩
  obtain ⟨s1, s2⟩ := src i G' H' w.gr.gx w.gr.sub
  by_cases hlt : i < xs.length
  · obtain ⟨g, y⟩ := s1 xs[i] (List.getElem?_eq_getElem hlt)
    obtain ⟨δ', js, t⟩ := h xs[i] (List.getElem_mem hlt)
    refine .inr ⟨g, fun H'' => ∃ G'' kvs, Dcw X xs k G1 H1 Dl (i + 1) (xs.length - (i + 1)) H'' G'' kvs, fun H'' ⟨G'', k2, w2⟩ => ⟨xs.length - (i + 1), by rw [w.em]; omega, G'', k2, w2⟩, fun v H'' yv => ?_⟩
    obtain ⟨G'', e3, rx⟩ := y v H'' yv
    have a1 : DEnv X.K σ G'' δ := a.mono ((e1.gx.trans w.gr.gx).trans e3.gx)
    refine ⟨gD X.K (wipeD δ (own.map (·.2))) xs[i] δ' js, fun s H C cl fp => (t.tg s H C cl fp).run, G'', e3.sub, a1.wipe _, rx, fun σ2 a2 l2 same => ⟨?_, tTD X.K δ' true, fun s H C cl fp => tsd_nil, G'', e3.sub, a2, fun G4 H4 e4 => ?_⟩⟩
    · exact (wipe_same l2 fun j hj => same j fun z => hj (t.js j z)).trans (wipe_wipe σ _)
    · show uEs X scope kx σ2 H4 _
      refine ⟨tD X.K δ' (fun z => z = .int k), fun s H C cl fp => t.key s H C cl fp, G4, e4.sub, a2.mono e4.gx, fun u G5 H5 d e5 r5 q5 => ?_⟩
      subst q5
      cases r5
      refine ⟨tD X.K δ' (fun z => z = .bl true), fun s H C cl fp => t.val s H C cl fp, G5, e5.sub, (a2.mono e4.gx).mono e5.gx, fun u G6 H6 d e6 r6 q6 => ?_⟩
      subst q6
      cases r6
      have g35 := ((e3.trans e4).trans e5).trans e6
      have o5 : G6 Dl = none := g35.out w.out w.at_
      have h5 : H6 Dl = some (.dK kvs) := g35.ex _ _ w.at_
      have gg := w.gr.trans g35
      have hk : kvs = [] ∨ kvs = [(Sum.inl k, .bl true)] := w.kv.imp (·.2) id
      have hl : kvs.length ≤ 1 := by rcases hk with e | e <;> rw [e] <;> simp
      refine ⟨kvs, Sum.inl k, rfl, h5, sz_lt (by omega), G6, [(Sum.inl k, .bl true)], rfl, hlt, ⟨Ex.mut gg.ex hD, gg.gx, ?_, gg.new⟩, o5, by rw [putK_one hk]; exact upd_same, .inr rfl⟩
      intro b u' z
      have nb : b ≠ Dl := fun z2 => by
        rw [z2, o5] at z
        cases z
      rw [upd_ne nb]
      exact gg.sub b u' z
  · have ei : i = xs.length := Nat.le_antisymm w.hi (Nat.le_of_not_lt hlt)
    have hp : 0 < xs.length := by
      cases xs with
      | nil => exact absurd rfl h0
      | cons _ _ => exact Nat.succ_pos _
    have hk : kvs = [(Sum.inl k, .bl true)] := w.kv.resolve_left fun z => by omega
    refine .inl ⟨s2 (Nat.le_of_not_lt hlt), ?_⟩
    refine q _ (upd G' Dl (.dK kvs)) H' _ (e1.trans ⟨w.gr.ex, w.gr.gx.trans fun b u q => ?_, fun b u q => ?_, fun b u q => ?_⟩) (.dk upd_same (by rw [hk]; rfl)) rfl
    · rw [upd_ne fun z => by rw [z, w.out] at q; cases q]
      exact q
    · by_cases hb : b = Dl
      · subst hb
        rw [upd_same] at q
        rw [w.at_]
        exact q
      · rw [upd_ne hb] at q
        exact w.gr.sub b u q
    · by_cases hb : b = Dl
      · subst hb
        exact .inr hD
      · rw [upd_ne hb] at q
        exact w.gr.new b u q
theorem pd_lenDk {e : Expr} {p pos : Pos} {ks : List Int} (hm : X.mg "len" = none) (ha : PD X e δ (.dk ks)) (hg : Gl X "len" := by rfl) (he : starEach (e :: []) X.env = (false, eval e X.env) :: starEach [] X.env := by rfl) : PD X (.Call (.Name "len" p) [e] [] pos) δ (.int ks.length) :=
  pd_callB call_lenD (fun vs G H Q s r k => by
    cases r with
    | cons h t =>
      cases t
      cases h with
      | dk h q =>
        have e2 := congrArg List.length q
        rw [List.length_map, List.length_map] at e2
        refine ⟨_, _, rfl, s _ _ h, ?_⟩
        rw [e2]
        exact k _ G H (Gr.refl s) (.int _)) hm PySem.boot_len (ad_cons ha ad_nil he) hg (by decide) (by decide) he (by rfl)

theorem PI_to {tg e : Expr} {xs ys : List D} (h : ID X tg e δ xs) (q : xs = ys) : ID X tg e δ ys := by rw [← q]; exact h
/-! ### loops by an invariant -/
theorem BD.imp {sts : List Stmt} {O O' : Out} (h : BD X sts δ O) (n : ∀ δ', O.nx δ' → O'.nx δ') (r : ∀ d, O.rt d → O'.rt d) (b : ∀ δ', O.bk δ' → O'.bk δ') (c : ∀ δ', O.ct δ' → O'.ct δ') : BD X sts δ O' :=
  pss_weak h fun D₀ σ H ⟨G0, H0, G, g, a, f⟩ => ⟨G0, H0, G, g, a, ⟨fun σ' G' H' δ' g' a' m => f.nx σ' G' H' δ' g' a' (n _ m), fun v G' H' d g' r' m => f.rt v G' H' d g' r' (r _ m), fun σ' G' H' δ' g' a' m => f.bk σ' G' H' δ' g' a' (b _ m), fun σ' G' H' δ' g' a' m => f.ct σ' G' H' δ' g' a' (c _ m)⟩⟩
theorem forD_of {tg : Expr} {body : List Stmt} {O : Out} {xs : List D} (J : Nat → Dv → Prop) (h0 : J 0 δ) (step : ∀ i x δ, xs[i]? = some x → J i δ → ∃ δ' js, GD X tg δ x δ' js ∧ BD X body δ' { nx := J (i + 1), ct := J (i + 1), bk := O.nx, rt := O.rt }) (fin : ∀ δ, J xs.length δ → O.nx δ) : ForD X tg body O xs δ := by
  have key : ∀ n i δ, xs.length - i = n → i ≤ xs.length → J i δ → ForD X tg body O (xs.drop i) δ := fun n => by
    induction n with
    | zero =>
      intro i δ e hi hJ
      have ei : i = xs.length := by omega
      rw [ei, List.drop_length]
      exact fin δ (by rw [← ei]; exact hJ)
    | succ n ih =>
      intro i δ e hi hJ
      have hlt : i < xs.length := by omega
      rw [List.drop_eq_getElem_cons hlt]
      obtain ⟨δ', js, hg, hb⟩ := step i xs[i] δ (List.getElem?_eq_getElem hlt) hJ
      exact ⟨δ', js, hg, hb.imp (fun δ2 q => ih (i + 1) δ2 (by omega) hlt q) (fun _ q => q) (fun _ q => q) (fun δ2 q => ih (i + 1) δ2 (by omega) hlt q)⟩
  have := key xs.length 0 δ (by omega) (Nat.zero_le _) h0
  rwa [List.drop_zero] at this
/-- .. for x in l.map f -/
theorem forD_map {I : Type} {tg : Expr} {body : List Stmt} {O : Out} {l : List I} {f : I → D} (J : List I → List I → Dv → Prop) (h0 : J [] l δ) (step : ∀ pre i post δ, l = pre ++ i :: post → J pre (i :: post) δ → ∃ δ' js, GD X tg δ (f i) δ' js ∧ BD X body δ' { nx := J (pre ++ [i]) post, ct := J (pre ++ [i]) post, bk := O.nx, rt := O.rt }) (fin : ∀ δ, J l [] δ → O.nx δ) : ForD X tg body O (l.map f) δ := by
  have key : ∀ post pre δ, l = pre ++ post → J pre post δ → ForD X tg body O (post.map f) δ := fun post => by
    induction post with
    | nil =>
      intro pre δ e hJ
      rw [List.append_nil] at e
      exact fin δ (by rw [e]; exact hJ)
    | cons i post ih =>
      intro pre δ e hJ
      obtain ⟨δ', js, hg, hb⟩ := step pre i post δ e hJ
      exact ⟨δ', js, hg, hb.imp (fun δ2 q => ih (pre ++ [i]) δ2 (by rw [e]; simp) q) (fun _ q => q) (fun _ q => q) (fun δ2 q => ih (pre ++ [i]) δ2 (by rw [e]; simp) q)⟩
  exact key l [] δ rfl h0
end

/-! ### defs by name -/
/-- the text's def of that name -/
structure FunAt (K : PySem.W.Frag) (mg : Str → Option Value) (x : Str) (st : Stmt) : Prop where
  ex : ∃ f fd, mg x = some (.ref f) ∧ Fun K x x st f fd
structure At (P : Program) (w : World) (K : PySem.W.Frag) (mg : Str → Option Value) (base : Heap) (x : Str) (k : Nat) (ps : List Str) (sp : Sp) : Prop where
  ex : ∃ f fd, mg x = some (.ref f) ∧ PySem.W.keepIn K (.ref f) = true ∧ Binds K fd ps [] ∧ FnOk P w K mg base CX0 k f fd ps sp
section
variable {X : Cx} {δ : Dv} {x : Str} {p pos : Pos} {e : Expr} {es : List Expr} {ps : List Str} {k : Nat} {α : Type} {arg : α → List D} {P : α → D → Prop}
theorem pr_at (F : At X.prog X.w X.K X.mg X.base x k ps (spOf X.K arg P)) (hr : Room k X.A) (a : α) (ha : AD X (e :: es) δ (arg a)) (hg : Gl X x := by rfl)
    (hdb : (x == ("__debug__" : Str)) = false := by decide) (he : starEach (e :: es) X.env = (false, eval e X.env) :: starEach es X.env := by rfl) (hpl : (backTo pos (starEach es X.env)).any (·.1) = false := by rfl) : PR X (.Call (.Name x p) (e :: es) [] pos) δ (P a) := by
  obtain ⟨f, fd, h1, h2, h3, h4⟩ := F.ex
  exact pr_call h4 hr h1 h2 h3 a ha hg hdb he hpl
theorem pd_at {d : D} (F : At X.prog X.w X.K X.mg X.base x k ps (spOf X.K arg P)) (hr : Room k X.A) (a : α) (ha : AD X (e :: es) δ (arg a)) (hd : ∀ z, P a z → z = d := by intro z h; exact h) (hg : Gl X x := by rfl)
    (hdb : (x == ("__debug__" : Str)) = false := by decide) (he : starEach (e :: es) X.env = (false, eval e X.env) :: starEach es X.env := by rfl) (hpl : (backTo pos (starEach es X.env)).any (·.1) = false := by rfl) : PD X (.Call (.Name x p) (e :: es) [] pos) δ d :=
  PR.imp (pr_at F hr a ha hg hdb he hpl) hd
theorem PR.weak {e : Expr} {P Q : D → Prop} (h : PR X e δ P) (w : ∀ d, P d → Q d) : PR X e δ Q := pe_weak h fun σ H R ⟨G, s, a, q⟩ => ⟨G, s, a, fun v G' H' d g r p => q v G' H' d g r (w d p)⟩
theorem prR_at {Pa : List D → Prop} {Po : D → Prop} (F : At X.prog X.w X.K X.mg X.base x k ps (spOf X.K arg P)) (hr : Room k X.A) (ha : AR X (e :: es) δ Pa)
    (hp : ∀ ds, Pa ds → ∃ a, ds = arg a ∧ ∀ d, P a d → Po d) (hg : Gl X x := by rfl)
    (hdb : (x == ("__debug__" : Str)) = false := by decide) (he : starEach (e :: es) X.env = (false, eval e X.env) :: starEach es X.env := by rfl) (hpl : (backTo pos (starEach es X.env)).any (·.1) = false := by rfl) : PR X (.Call (.Name x p) (e :: es) [] pos) δ Po := by
  obtain ⟨f, fd, h1, h2, h3, h4⟩ := F.ex
  exact prR_call h4 hr h1 h2 h3 ha hp hg hdb he hpl
end
section
variable {Pg : Program} {w : World} {K : PySem.W.Frag} {mg : Str → Option Value} {base : Heap} {x : Str} {st : Stmt} {N ps : List Str} {k : Nat} {α : Type} {arg : α → List D} {P : α → D → Prop}
theorem at_d (F : FunAt K mg x st) (S : FnScope N ps (defScope st)) (hlen : ∀ a, (arg a).length = ps.length)
    (hb : ∀ (kV doc pm : Value) (an : Option Addr) (cdv ct : Value) (us : List Value), us.length = ps.length → bindArgs (PySem.W.fnOf x x (defArgs st) (defBody st) (defScope st) .none kV doc pm an cdv ct) ⟨us, []⟩ = pure (ps.zip us))
    (body : ∀ (a : α) (f : Addr) (cdv : Value) (A : Around) (outer : List Env) (s : Shared) (H : Hp) (E : XK), Room k (A.deeper (PyProof.Rows.envOfC x (defScope st) s.heap.objs.size f cdv)) →
      BD (cxOf CX0 Pg w K mg base N x (defScope st) f cdv A outer s H E).nox (defBody st) ((arg a).map some ++ List.replicate (N.length - (arg a).length) none) { nx := fun _ => P a .non, rt := P a }) :
    At Pg w K mg base x (k + 1) ps (spOf K arg P) := by
  obtain ⟨f, fd, h1, h2⟩ := F.ex
  exact ⟨f, fd, h1, h2.kp, h2.binds hb, fn_d h2 S hlen fun a cdv A outer s H E hr => body a f cdv A outer s H E hr⟩
end
end Pd
end

section
set_option Elab.async false
set_option linter.all false
set_option autoImplicit false
set_option maxRecDepth 100000
set_option maxHeartbeats 4000000
namespace Pd
open PySem L2 Evl
section
variable {X : Cx} {δ : Dv} {O : Out}
/-! ### loops over a list that is known by a property alone -/
def iR (K : PySem.W.Frag) (δ : Dv) (P : D → Prop) : TI := fun σ H R => ∃ G, Ex G H ∧ DEnv K σ G δ ∧ ∀ J G1 H1 xs, Gr G H G1 H1 → Src J K G1 xs → P (.lst xs) → R J H1
theorem ir_lst {tg e : Expr} {P : D → Prop} (h : PR X e δ P) (hP : ∀ d, P d → ∃ xs, d = .lst xs) : PI X tg e (iR X.K δ P) := pi_weak (pi_list h) fun σ H R ⟨G, s, a, k⟩ => ⟨G, s, a, fun v G1 H1 d e1 r q => by
  obtain ⟨xs, rfl⟩ := hP d q
  cases r with
  | lst h1 r1 =>
    refine ⟨_, rfl, ⟨_, SqL.of (e1.sub _ _ h1)⟩, k _ G1 H1 xs e1 (fun i G' H' e2 e3 => ⟨fun x hx => ?_, fun hn => ?_⟩) q⟩
    · obtain ⟨w, hw, rw'⟩ := r1.get hx
      have s := SqL.of (K := X.K) (e3 _ _ (e2 _ _ h1))
      refine ⟨⟨_, w, s, hw⟩, fun v H'' y => ?_⟩
      obtain ⟨rfl, y⟩ := y
      have q := y _ s
      rw [hw] at q
      cases q
      exact ⟨G', Gr.refl e3, rw'.mono e2⟩
    · exact ⟨_, SqL.of (e3 _ _ (e2 _ _ h1)), by rw [← r1.length]; exact hn⟩⟩
theorem sd_forR {tg iter : Expr} {body : List Stmt} {pos : Pos} {P : D → Prop} (hi : PR X iter δ P) (hP : ∀ d, P d → ∃ xs, d = .lst xs) (h : ∀ xs, P (.lst xs) → ForD X tg body O xs δ) (hp : PassesOwn (model X.prog X.w) X.A X.env X.xe := by exact PassesOwn.never) (hc : X.calm = true := by rfl) (hs : ∀ x, foldedSetIterable iter X.env x = pure x := by intro _; rfl) : SD X (.For tg iter body [] pos) δ O :=
  ps_weak (ps_for hp hc (ir_lst hi hP) pg_u pss_u hs) fun D₀ σ H ⟨G0, H0, G, g, a, f⟩ => ⟨G, g.sub, a.env, fun J G1 H1 xs e1 src px => by
    have h := h xs px
    refine ⟨fun i m σ' H' => ∃ G' δ', m = xs.length - i ∧ i ≤ xs.length ∧ Ex G1 G' ∧ Gr G0 H0 G' H' ∧ SEnv X.K σ' H0 G' H' δ' ∧ ForD X tg body O (xs.drop i) δ', ⟨xs.length, G1, δ, by simp, Nat.zero_le _, Ex.refl _, g.trans e1, a.grow e1, by simpa using h⟩, ?_⟩
    rintro i m σ' H' ⟨G', δ', em, hi', x1, g', a', fd⟩
    obtain ⟨s1, s2⟩ := src i G' H' x1 g'.sub
    by_cases hlt : i < xs.length
    · rw [List.drop_eq_getElem_cons hlt] at fd
      obtain ⟨δ2, js, hg, hb⟩ := fd
      obtain ⟨go, y⟩ := s1 xs[i] (List.getElem?_eq_getElem hlt)
      refine .inr ⟨go, fun σ3 H3 => ∃ G3 δ3, Ex G1 G3 ∧ Gr G0 H0 G3 H3 ∧ SEnv X.K σ3 H0 G3 H3 δ3 ∧ ForD X tg body O (xs.drop (i + 1)) δ3, fun σ3 H3 ⟨G3, δ3, y1, y2, y3, y4⟩ => ⟨xs.length - (i + 1), by rw [em]; omega, G3, δ3, rfl, hlt, y1, y2, y3, y4⟩, fun v H'' yv => ?_⟩
      obtain ⟨G'', e3, rx⟩ := y v H'' yv
      refine ⟨gD X.K δ' xs[i] δ2 js, hg.run, G'', e3.sub, a'.env.mono e3.gx, rx, fun σ3 a3 l3 same => ?_⟩
      have a4 : SEnv X.K σ3 H0 G'' H'' δ2 := (a'.grow e3).stored hg.st a3 same
      have keep : ∀ {G3 H3}, Gr G'' H'' G3 H3 → True := fun _ => trivial
      -- the body is run from the loop's own entry: G'' takes the part of G0, so that what it leaves extends G1 as well
      refine ⟨_, hb, G'', H0, G'', ⟨(g'.trans e3).ex, Ex.refl _, e3.sub, fun b o q => .inl q⟩, a4, ?_⟩
      have back : ∀ {G3 H3}, Gr G'' H0 G3 H3 → Gr G0 H0 G3 H3 := fun {G3 H3} q => ⟨q.ex, ((g'.trans e3).gx).trans q.gx, q.sub, fun b o z => (q.new b o z).elim (fun z2 => (g'.trans e3).new b o z2) .inr⟩
      exact ⟨fun σ4 G4 H4 δ4 q1 q2 q3 => ⟨G4, δ4, (x1.trans e3.gx).trans q1.gx, back q1, q2, q3⟩, fun v4 G4 H4 d4 q1 q2 q3 => f.rt v4 G4 H4 d4 (back q1) q2 q3, fun σ4 G4 H4 δ4 q1 q2 q3 => f.nx σ4 G4 H4 δ4 (back q1) q2 q3, fun σ4 G4 H4 δ4 q1 q2 q3 => ⟨G4, δ4, (x1.trans e3.gx).trans q1.gx, back q1, q2, q3⟩⟩
    · have ei : i = xs.length := Nat.le_antisymm hi' (Nat.le_of_not_lt hlt)
      rw [ei, List.drop_length] at fd
      exact .inl ⟨s2 (Nat.le_of_not_lt hlt), f.nx _ G' H' δ' g' a' fd⟩⟩
def noOwnB (δ : Dv) : Bool := δ.all fun o => match o with
  | some d => !d.isOwn
  | none => true
theorem noOwn (h : noOwnB δ = true) : ∀ (j : Nat) (fs : List D), δ[j]? ≠ some (some (.own fs)) := fun j fs z => by
  have q := List.all_eq_true.mp h _ (List.mem_of_getElem? z)
  cases q
/-- x.append(e) of a list that is being made -/
theorem sd_app (i : Nat) {e : Expr} {d : D} {pos lpos : Pos} {ds : List D} {x : Str} {p1 p2 : Pos} (h : PD X e δ d) (hl : ds.length < 100000) (hi : δ[i]? = some (some (.own ds))) (k : O.nx (δ.set i (some (.own (ds ++ [d]))))) (hN : X.N[i]? = some x := by rfl) (hv : Vis X.env.scope x := by first | exact Or.inl rfl | exact Or.inr (Or.inl rfl) | exact Or.inr (Or.inr rfl)) (hd : (x == ("__debug__" : Str)) = false := by decide)
    (hcd : (x == ("__classdict__" : Str)) = false := by decide) (hs1 : starEach (e :: []) X.env = (false, eval e X.env) :: starEach [] X.env := by rfl) (hs : swapsWith (.Call (.Attribute (.Name x p1) "append" p2) [e] [] lpos) none pos.line X.env = pure false := by rfl)
    (hfew : ((((backTo lpos (starEach [e] X.env)).all fun x => !x.fst) && (backToKw lpos (keywordEach [] X.env)).all fun x => x.fst.isSome) && decide (([e].length + ([] : List PySem.Keyword).length + if ([] : List PySem.Keyword).isEmpty = true then 0 else 1) < 30)) = true := by rfl) (hline : (p2.endLine == lpos.line) = true := by rfl) : SD X (.Expr (.Call (.Attribute (.Name x p1) "append" p2) [e] [] lpos) pos) δ O :=
  sd_append i h hl hi k hN hv hd hcd hs1 (ps_expr (pe_bm PySem.F.plainAttrs_list PySem.F.slot_list_append PySem.F.type_list_append mt_append (pv i hN hv hd hcd) (pa_cons h pa_nil hs1) (hfew := hfew) (hline := hline) (hs := hs1)) hs)
end
end Pd
end

section
set_option Elab.async false
set_option linter.all false
set_option autoImplicit false
set_option maxRecDepth 100000
set_option maxHeartbeats 4000000
namespace Tp
open PySem L2 Evl Pd
/-- the text by places -/
def topS (i : Nat) : Stmt := PySem.Challenge.pw_turnprimes_k45_whole_sizes_and_norms.main.body.getD i (.Pass ⟨0, 0, 0, 0⟩)
abbrev v3 (r : V3) : D := .lst [.int r.x, .int r.y, .int r.z]
abbrev t3 (r : V3) : D := .tup [.int r.x, .int r.y, .int r.z]
abbrev tm3 (m : M3) : D := .tup [t3 m.a, t3 m.b, t3 m.c]
abbrev vm3 (m : M3) : D := .lst [v3 m.a, v3 m.b, v3 m.c]
abbrev t4 (q : Q4) : D := .tup [.int q.a, .int q.b, .int q.c, .int q.d]
abbrev turnD (s : Int) (m : M3) : D := .tup [.int s, tm3 m]
/-- what the names of the text and the built-in names stand for -/
structure Tx (K : PySem.W.Frag) (mg : Str → Option Value) : Prop where
  abs : mg "abs" = none
  all : mg "all" = none
  any : mg "any" = none
  bool : mg "bool" = none
  enumerate : mg "enumerate" = none
  int : mg "int" = none
  isinstance : mg "isinstance" = none
  len : mg "len" = none
  list : mg "list" = none
  max : mg "max" = none
  min : mg "min" = none
  range : mg "range" = none
  sum : mg "sum" = none
  tuple : mg "tuple" = none
  zip : mg "zip" = none
  gcd : mg "gcd" = some (.builtin "math.gcd")
  lcm : mg "lcm" = some (.builtin "math.lcm")
  parts : ∃ u, mg "PARTS" = some u ∧ RelV (V.int 4) u
  most : ∃ u, mg "MOST_TURNS" = some u ∧ RelV (V.int 6) u
  zero : ∃ v u, mg "ZERO" = some u ∧ RelV v u ∧ ∀ G, Rp K G (t4 ⟨0, 0, 0, 0⟩) v
/-! ### bounds -/
theorem mulOk {i j : Int} {a b : Nat} (ha : i.natAbs ≤ 2 ^ a) (hb : j.natAbs ≤ 2 ^ b) (h : a + b + 2 ≤ 1000000) : IntMulOk i j := by
  have h1 : i.natAbs < 2 ^ (a + 1) := Nat.lt_of_le_of_lt ha (Nat.pow_lt_pow_right (by decide) (Nat.lt_succ_self a))
  have h2 : j.natAbs < 2 ^ (b + 1) := Nat.lt_of_le_of_lt hb (Nat.pow_lt_pow_right (by decide) (Nat.lt_succ_self b))
  exact (wide_mul h1 h2 (Nat.succ_pos _) (Nat.succ_pos _) (by omega)).ok
theorem divOk {i j : Int} {b : Nat} (h0 : j ≠ 0) (hb : j.natAbs ≤ 2 ^ b) (h : b + 1 ≤ 9000) : CDivA i j := by
  have h2 : j.natAbs < 2 ^ (b + 1) := Nat.lt_of_le_of_lt hb (Nat.pow_lt_pow_right (by decide) (Nat.lt_succ_self b))
  exact ⟨h0, Nat.lt_of_lt_of_le (PySem.Flt.log2_lt_of (Nat.succ_pos _) h2) h⟩
/-- a number of the law: parts of one parity, not zero, of few bits -/
structure Num (q : Q4) : Prop where
  par : ∃ k, ∀ n ∈ q.list, n.fmod 2 = k
  ne : q ≠ ⟨0, 0, 0, 0⟩
  small : ∀ n ∈ q.list, n.natAbs ≤ 2 ^ 42
theorem Q4.fa (q : Q4) : q.a ∈ q.list := by simp [Q4.list]
theorem Q4.fb (q : Q4) : q.b ∈ q.list := by simp [Q4.list]
theorem Q4.fc (q : Q4) : q.c ∈ q.list := by simp [Q4.list]
theorem Q4.fd (q : Q4) : q.d ∈ q.list := by simp [Q4.list]
/-! ### == of data -/
theorem eqv_tup (l m : List Int) : PyData.eqv (D.py (.tup (l.map D.int))) (D.py (.tup (m.map D.int))) = decide (l = m) := by
  show PyData.eqv (.tuple (D.pys _)) (.tuple (D.pys _)) = _
  rw [pys_ints, pys_ints, PyData.eqv]
  exact PySem.W.eqvAll_map l m
theorem eqv_lst (l m : List Int) : PyData.eqv (D.py (.lst (l.map D.int))) (D.py (.lst (m.map D.int))) = decide (l = m) := by
  show PyData.eqv (.list (D.pys _)) (.list (D.pys _)) = _
  rw [pys_ints, pys_ints, PyData.eqv]
  exact PySem.W.eqvAll_map l m
end Tp
end

section
set_option Elab.async false
set_option linter.all false
set_option autoImplicit false
set_option maxRecDepth 100000
set_option maxHeartbeats 4000000
namespace Tp
open PySem L2 Evl Pd
abbrev sIsNumber : Stmt := topS 9
abbrev sCheckNumber : Stmt := topS 10
abbrev sCheckNotZero : Stmt := topS 11
abbrev sNorm : Stmt := topS 12
abbrev sDivisorOf : Stmt := topS 14
abbrev sLowest : Stmt := topS 15
theorem sc_is_number : FnScope ["number", "part"] ["number"] (defScope sIsNumber) := ⟨rfl, rfl, rfl, by decide +kernel, rfl, by decide +kernel, by decide +kernel⟩
theorem sc_check_number : FnScope ["number"] ["number"] (defScope sCheckNumber) := ⟨rfl, rfl, rfl, by decide +kernel, rfl, by decide +kernel, by decide +kernel⟩
theorem sc_check_not_zero : FnScope ["number"] ["number"] (defScope sCheckNotZero) := ⟨rfl, rfl, rfl, by decide +kernel, rfl, by decide +kernel, by decide +kernel⟩
theorem sc_norm : FnScope ["number", "part"] ["number"] (defScope sNorm) := ⟨rfl, rfl, rfl, by decide +kernel, rfl, by decide +kernel, by decide +kernel⟩
theorem sc_divisor_of : FnScope ["parts", "found", "part"] ["parts"] (defScope sDivisorOf) := ⟨rfl, rfl, rfl, by decide +kernel, rfl, by decide +kernel, by decide +kernel⟩
theorem sc_lowest : FnScope ["size", "rows", "common", "row", "entry"] ["size", "rows"] (defScope sLowest) := ⟨rfl, rfl, rfl, by decide +kernel, rfl, by decide +kernel, by decide +kernel⟩
abbrev ANum : Type := { q : Q4 // Num q }
section
variable {P : Program} {w : World} {K : PySem.W.Frag} {mg : Str → Option Value} {base : Heap}
theorem at_is_number (T : Tx K mg) (F : FunAt K mg "is_number" sIsNumber) : At P w K mg base "is_number" 1 ["number"] (spOf K (fun a : ANum => [t4 a.1]) (fun a d => d = .bl true)) := by
  refine at_d F sc_is_number (fun _ => rfl) (fun _ _ _ _ _ _ us hl => match us, hl with | [_], _ => rfl) fun a f cdv A outer s H E hr => ?_
  show BD _ (defBody sIsNumber) [some (t4 a.1), none] _
  obtain ⟨u, hu1, hu2⟩ := T.parts
  obtain ⟨k, hk⟩ := a.2.par
  refine bd_ret (pd_and (pd_eq (pd_lenT T.len (pd_var 0)) (pd_glob hu1 hu2 fun _ => .int 4)) fun _ => pd_and1 (pd_eq (pd_lenDk T.len
    (pd_dc1 (k := k) [("part", 1)] (blkOk_by (N := ["number", "part"]) (sc := defScope sIsNumber) (by decide +kernel)) sc_is_number.nd (id_tup (pd_var 0)) (List.cons_ne_nil _ _) fun x hx => ?_)) pd_int)) rfl
  obtain ⟨n, hn, rfl⟩ : ∃ n, n.fmod 2 = k ∧ x = .int n := by
    simp at hx
    rcases hx with rfl | rfl | rfl | rfl
    · exact ⟨_, hk _ a.1.fa, rfl⟩
    · exact ⟨_, hk _ a.1.fb, rfl⟩
    · exact ⟨_, hk _ a.1.fc, rfl⟩
    · exact ⟨_, hk _ a.1.fd, rfl⟩
  exact ⟨_, _, fun _ _ _ _ _ => gd_name 1 sc_is_number.nd, by decide, fun _ _ _ _ _ => (pd_mod (pd_var 1) pd_int (by decide)).to (by rw [← hn]), fun _ _ _ _ _ => pd_bl⟩
theorem at_check_number (T : Tx K mg) (F : FunAt K mg "check_number" sCheckNumber) (c : At P w K mg base "is_number" 1 ["number"] (spOf K (fun a : ANum => [t4 a.1]) (fun a d => d = .bl true))) :
    At P w K mg base "check_number" 2 ["number"] (spOf K (fun a : ANum => [t4 a.1]) (fun a d => d = .non)) := by
  refine at_d F sc_check_number (fun _ => rfl) (fun _ _ _ _ _ _ us hl => match us, hl with | [_], _ => rfl) fun a f cdv A outer s H E hr => ?_
  show BD _ (defBody sCheckNumber) [some (t4 a.1)] _
  exact bd_skip (td_not (k := true) (td_val (pd_at c (hr.mono (by decide)) a (ad_cons (pd_var 0) ad_nil)))) (bd_nil rfl)
theorem at_check_not_zero (T : Tx K mg) (F : FunAt K mg "check_not_zero" sCheckNotZero) (c : At P w K mg base "check_number" 2 ["number"] (spOf K (fun a : ANum => [t4 a.1]) (fun a d => d = .non))) :
    At P w K mg base "check_not_zero" 3 ["number"] (spOf K (fun a : ANum => [t4 a.1]) (fun a d => d = .non)) := by
  refine at_d F sc_check_not_zero (fun _ => rfl) (fun _ _ _ _ _ _ us hl => match us, hl with | [_], _ => rfl) fun a f cdv A outer s H E hr => ?_
  show BD _ (defBody sCheckNotZero) [some (t4 a.1)] _
  obtain ⟨v, u, hu1, hu2, hu3⟩ := T.zero
  have hne : PyData.eqv (D.py (t4 a.1)) (D.py (t4 ⟨0, 0, 0, 0⟩)) = false := by
    refine (eqv_tup a.1.list [0, 0, 0, 0]).trans (decide_eq_false fun z => a.2.ne ?_)
    obtain ⟨⟨x, y, z1, z2⟩, h⟩ := a
    simp [Q4.list] at z
    obtain ⟨rfl, rfl, rfl, rfl⟩ := z
    rfl
  refine bd_expr (pr_at c (hr.mono (by decide)) a (ad_cons (pd_var 0) ad_nil)) (bd_skip ((td_cmp (op_eqD hr.units) (rd_eqD rfl rfl rfl rfl) (pd_tupT T.tuple (pd_var 0)) (pd_glob hu1 hu2 hu3) (nomark _)).to hne) (bd_nil rfl))
theorem Num.sq42 {q : Q4} (h : Num q) {n : Int} (hn : n ∈ q.list) : IntMulOk n n := mulOk (h.small n hn) (h.small n hn) (by decide)
theorem at_norm (T : Tx K mg) (F : FunAt K mg "norm" sNorm) (c : At P w K mg base "check_number" 2 ["number"] (spOf K (fun a : ANum => [t4 a.1]) (fun a d => d = .non))) :
    At P w K mg base "norm" 3 ["number"] (spOf K (fun a : ANum => [t4 a.1]) (fun a d => d = .int (a.1.sq.fdiv 4))) := by
  refine at_d F sc_norm (fun _ => rfl) (fun _ _ _ _ _ _ us hl => match us, hl with | [_], _ => rfl) fun a f cdv A outer s H E hr => ?_
  show BD _ (defBody sNorm) [some (t4 a.1), none] _
  refine bd_expr (pr_at c (hr.mono (by decide)) a (ad_cons (pd_var 0) ad_nil)) (bd_ret (pd_fdiv (pd_sum (l := [a.1.a * a.1.a, a.1.b * a.1.b, a.1.c * a.1.c, a.1.d * a.1.d]) T.sum
    (pd_lc [("part", 1)] (blkOk_by (N := ["number", "part"]) (sc := defScope sNorm) (by decide +kernel)) sc_norm.nd (id_tup (pd_var 0))
      (comp_all [a.1.a, a.1.b, a.1.c, a.1.d] D.int (fun n => .int (n * n)) fun n hn => ⟨_, _, fun _ _ _ _ _ => gd_name 1 sc_norm.nd, by decide, fun _ _ _ _ _ => tsd_nil, fun _ _ _ _ _ _ => pd_mul (pd_var 1) (pd_var 1) (a.2.sq42 hn)⟩) (Nat.le_of_ble_eq_true rfl))) pd_int (divOk (b := 2) (by decide) (by decide) (by decide))) ?_)
  show D.int _ = D.int _
  congr 2
  simp only [List.sum_cons, List.sum_nil, Q4.sq]
  omega
theorem at_divisor_of (T : Tx K mg) (F : FunAt K mg "divisor_of" sDivisorOf) : At P w K mg base "divisor_of" 1 ["parts"] (spOf K (fun l : List Int => [.lst (l.map D.int)]) (fun l d => d = .int (gcdL l))) := by
  refine at_d F sc_divisor_of (fun _ => rfl) (fun _ _ _ _ _ _ us hl => match us, hl with | [_], _ => rfl) fun l f cdv A outer s H E hr => ?_
  show BD _ (defBody sDivisorOf) [some (.lst (l.map D.int)), none, none] _
  refine bd_set 1 sc_divisor_of.nd pd_int (bd_seq (M := fun δ => ∃ z, δ = [some (.lst (l.map D.int)), some (.int (gcdL l)), z])
    (sd_for (id_lst (pd_var 0)) (forD_map (fun pre _ δ => ∃ z, δ = [some (.lst (l.map D.int)), some (.int (gcdL pre)), z]) ⟨none, rfl⟩ (fun pre i post δ e hJ => ?_) fun δ h => h)) fun δ ⟨z, e⟩ => ?_)
  · obtain ⟨z, rfl⟩ := hJ
    refine ⟨_, _, gd_name 2 sc_divisor_of.nd, bd_set 1 sc_divisor_of.nd (pd_gcd T.gcd (pd_var 1) (pd_var 2)) (bd_nil ⟨some (.int i), ?_⟩)⟩
    unfold gcdL
    rw [List.foldl_append]
    rfl
  · subst e
    exact bd_ret (pd_var 1) rfl
structure ALow where
  s : Int
  m : M3
  ne : gcdL (s :: m.list) ≠ 0
  small : (gcdL (s :: m.list)).natAbs ≤ 2 ^ 8000
theorem at_lowest (T : Tx K mg) (F : FunAt K mg "lowest" sLowest) (c : At P w K mg base "divisor_of" 1 ["parts"] (spOf K (fun l : List Int => [.lst (l.map D.int)]) (fun l d => d = .int (gcdL l)))) :
    At P w K mg base "lowest" 2 ["size", "rows"] (spOf K (fun a : ALow => [.int a.s, tm3 a.m]) (fun a d => d = turnD (a.s.fdiv (gcdL (a.s :: a.m.list))) (a.m.fdiv (gcdL (a.s :: a.m.list))))) := by
  refine at_d F sc_lowest (fun _ => rfl) (fun _ _ _ _ _ _ us hl => match us, hl with | [_, _], _ => rfl) fun a f cdv A outer s H E hr => ?_
  show BD _ (defBody sLowest) [some (.int a.s), some (tm3 a.m), none, none, none] _
  have hok : ∀ n : Int, CDivA n (gcdL (a.s :: a.m.list)) := fun n => divOk a.ne a.small (by decide)
  refine bd_set 2 sc_lowest.nd (pd_at c (hr.mono (by decide)) (a.s :: a.m.list) (AD.to (ad_cons (pd_lst (ad_cons (pd_var 0) (ad_starT (pd_ixT 0 (pd_var 1) pd_int rfl) (ad_starT (pd_ixT 1 (pd_var 1) pd_int rfl) (ad_starT (pd_ixT 2 (pd_var 1) pd_int rfl) ad_nil)))) (Nat.le_of_ble_eq_true rfl)) ad_nil) (by rfl))) ?_
  generalize gcdL (a.s :: a.m.list) = g at hok ⊢
  refine bd_ret (pd_tup (ad_cons (pd_fdiv (pd_var 0) (pd_var 2) (hok _)) (ad_cons (pd_tupL T.tuple
    (pd_lc [("row", 3)] (blkOk_by (N := ["size", "rows", "common", "row", "entry"]) (sc := defScope sLowest) (by decide +kernel)) sc_lowest.nd (id_tup (pd_var 1))
      (comp_all [a.m.a, a.m.b, a.m.c] t3 (fun r => t3 ⟨r.x.fdiv g, r.y.fdiv g, r.z.fdiv g⟩) fun r hr => ⟨_, _, fun _ _ _ _ _ => gd_name 3 sc_lowest.nd, by decide, fun _ _ _ _ _ => tsd_nil, fun _ _ _ _ _ _ => pd_tupL T.tuple
        (pd_lc [("entry", 4)] (blkOk_by (N := ["size", "rows", "common", "row", "entry"]) (sc := relS _ (defScope sLowest)) (by decide +kernel)) sc_lowest.nd (id_tup (pd_var 3))
          (comp_all [r.x, r.y, r.z] D.int (fun n => .int (n.fdiv g)) fun n hn => ⟨_, _, fun _ _ _ _ _ => gd_name 4 sc_lowest.nd, by decide, fun _ _ _ _ _ => tsd_nil, fun _ _ _ _ _ _ => pd_fdiv (pd_var 4) (pd_var 2) (hok _)⟩) (Nat.le_of_ble_eq_true rfl))⟩) (Nat.le_of_ble_eq_true rfl))) ad_nil)) (Nat.le_of_ble_eq_true rfl)) rfl
end
end Tp
end

section
set_option Elab.async false
set_option linter.all false
set_option autoImplicit false
set_option maxRecDepth 100000
set_option maxHeartbeats 4000000
namespace Tp
open PySem L2 Evl Pd
abbrev sTimes : Stmt := topS 16
abbrev sSwapped : Stmt := topS 17
abbrev sDeterminant : Stmt := topS 18
abbrev sIsRow : Stmt := topS 19
abbrev nTimes : List Str := ["rows", "others", "row", "j", "k"]
abbrev nSwapped : List Str := ["rows", "j", "row"]
abbrev nDeterminant : List Str := ["rows", "one", "two", "three", "first", "second"]
abbrev nIsRow : List Str := ["row", "many", "entry"]
theorem sc_times : FnScope nTimes ["rows", "others"] (defScope sTimes) := ⟨rfl, rfl, rfl, by decide +kernel, rfl, by decide +kernel, by decide +kernel⟩
theorem sc_swapped : FnScope nSwapped ["rows"] (defScope sSwapped) := ⟨rfl, rfl, rfl, by decide +kernel, rfl, by decide +kernel, by decide +kernel⟩
theorem sc_determinant : FnScope nDeterminant ["rows"] (defScope sDeterminant) := ⟨rfl, rfl, rfl, by decide +kernel, rfl, by decide +kernel, by decide +kernel⟩
theorem sc_is_row : FnScope nIsRow ["row", "many"] (defScope sIsRow) := ⟨rfl, rfl, rfl, by decide +kernel, rfl, by decide +kernel, by decide +kernel⟩
def M3.row (m : M3) : Nat → V3
  | 0 => m.a
  | 1 => m.b
  | _ => m.c
theorem get3 (r : V3) {i : Nat} (h : i < 3) : [D.int r.x, D.int r.y, D.int r.z][i]? = some (D.int (r.get i)) := match i, h with
  | 0, _ => rfl
  | 1, _ => rfl
  | 2, _ => rfl
theorem row3 (f : V3 → D) (m : M3) {i : Nat} (h : i < 3) : [f m.a, f m.b, f m.c][i]? = some (f (m.row i)) := match i, h with
  | 0, _ => rfl
  | 1, _ => rfl
  | 2, _ => rfl
def SmallV (e : Nat) (r : V3) : Prop := ∀ j, (r.get j).natAbs ≤ 2 ^ e
def SmallM (e : Nat) (m : M3) : Prop := SmallV e m.a ∧ SmallV e m.b ∧ SmallV e m.c
theorem SmallM.row {e : Nat} {m : M3} (h : SmallM e m) (i : Nat) : SmallV e (m.row i) := match i with
  | 0 => h.1
  | 1 => h.2.1
  | _ + 2 => h.2.2
def V3.by_ (r : V3) (n : M3) : V3 := ⟨r.x * n.a.x + r.y * n.b.x + r.z * n.c.x, r.x * n.a.y + r.y * n.b.y + r.z * n.c.y, r.x * n.a.z + r.y * n.b.z + r.z * n.c.z⟩
theorem sum3 (a b c : Int) : [a, b, c].sum = a + b + c := by simp only [List.sum_cons, List.sum_nil]; omega
structure ATimes where
  m : M3
  n : M3
  sm : SmallM 1000 m
  sn : SmallM 1000 n
section
variable {P : Program} {w : World} {K : PySem.W.Frag} {mg : Str → Option Value} {base : Heap}
theorem at_times (T : Tx K mg) (F : FunAt K mg "times" sTimes) : At P w K mg base "times" 1 ["rows", "others"] (spOf K (fun a : ATimes => [tm3 a.m, vm3 a.n]) (fun a d => d = vm3 ⟨a.m.a.by_ a.n, a.m.b.by_ a.n, a.m.c.by_ a.n⟩)) := by
  refine at_d F sc_times (fun _ => rfl) (fun _ _ _ _ _ _ us hl => match us, hl with | [_, _], _ => rfl) fun a f cdv A outer s H E hr => ?_
  show BD _ (defBody sTimes) [some (tm3 a.m), some (vm3 a.n), none, none, none] _
  refine bd_ret (pd_lc [("row", 2)] (blkOk_by (N := nTimes) (sc := defScope sTimes) (by decide +kernel)) sc_times.nd (id_tup (pd_var 0))
      (comp_all [a.m.a, a.m.b, a.m.c] t3 (fun r => v3 (r.by_ a.n)) fun r hr => ⟨_, _, fun _ _ _ _ _ => gd_name 2 sc_times.nd, by decide, fun _ _ _ _ _ => tsd_nil, fun _ _ _ _ _ _ => PD.to
        (pd_lc [("j", 3)] (blkOk_by (N := nTimes) (sc := relS _ (defScope sTimes)) (by decide +kernel)) sc_times.nd (id_range (n := 3) T.range pd_int (by decide))
          (comp_all [0, 1, 2] (fun j : Nat => D.int j) (fun j => .int ([r.x * a.n.a.get j, r.y * a.n.b.get j, r.z * a.n.c.get j].sum)) fun j hj => ⟨_, _, fun _ _ _ _ _ => gd_name 3 sc_times.nd, by decide, fun _ _ _ _ _ => tsd_nil, fun _ _ _ _ _ _ => pd_sum T.sum
            (pd_lc [("k", 4)] (blkOk_by (N := nTimes) (sc := relS _ (relS _ (defScope sTimes))) (by decide +kernel)) sc_times.nd (id_range (n := 3) T.range pd_int (by decide))
              (comp_all [0, 1, 2] (fun k : Nat => D.int k) (fun k => .int (r.get k * (a.n.row k).get j)) fun k hk => ⟨_, _, fun _ _ _ _ _ => gd_name 4 sc_times.nd, by decide, fun _ _ _ _ _ => tsd_nil, fun _ _ _ _ _ _ =>
                pd_mul (pd_ixT k (pd_var 2) (pd_var 4) (get3 r ?_)) (pd_ixL j (pd_ixL k (pd_var 1) (pd_var 4) (row3 v3 a.n ?_)) (pd_var 3) (get3 _ ?_)) (mulOk (a := 1000) (b := 1000) ?_ (a.sn.row k j) (by decide))⟩)
              (Nat.le_of_ble_eq_true rfl))⟩) (Nat.le_of_ble_eq_true rfl)) ?_⟩) (Nat.le_of_ble_eq_true rfl)) rfl
  · simp at hk; omega
  · simp at hk; omega
  · simp at hj; omega
  · simp at hr
    rcases hr with rfl | rfl | rfl
    · exact a.sm.1 k
    · exact a.sm.2.1 k
    · exact a.sm.2.2 k
  · show D.lst [.int _, .int _, .int _] = D.lst [.int _, .int _, .int _]
    rw [sum3, sum3, sum3]
    rfl
theorem at_swapped (T : Tx K mg) (F : FunAt K mg "swapped" sSwapped) : At P w K mg base "swapped" 1 ["rows"] (spOf K (fun m : M3 => [tm3 m]) (fun m d => d = vm3 m.tr)) := by
  refine at_d F sc_swapped (fun _ => rfl) (fun _ _ _ _ _ _ us hl => match us, hl with | [_], _ => rfl) fun m f cdv A outer s H E hr => ?_
  show BD _ (defBody sSwapped) [some (tm3 m), none, none] _
  refine bd_ret (pd_lc [("j", 1)] (blkOk_by (N := nSwapped) (sc := defScope sSwapped) (by decide +kernel)) sc_swapped.nd (id_range (n := 3) T.range pd_int (by decide))
      (comp_all [0, 1, 2] (fun j : Nat => D.int j) (fun j => .lst [.int (m.a.get j), .int (m.b.get j), .int (m.c.get j)]) fun j hj => ⟨_, _, fun _ _ _ _ _ => gd_name 1 sc_swapped.nd, by decide, fun _ _ _ _ _ => tsd_nil, fun _ _ _ _ _ _ =>
        (pd_lc [("row", 2)] (blkOk_by (N := nSwapped) (sc := relS _ (defScope sSwapped)) (by decide +kernel)) sc_swapped.nd (id_tup (pd_var 0))
          (comp_all [m.a, m.b, m.c] t3 (fun r => .int (r.get j)) fun r hr => ⟨_, _, fun _ _ _ _ _ => gd_name 2 sc_swapped.nd, by decide, fun _ _ _ _ _ => tsd_nil, fun _ _ _ _ _ _ => pd_ixT j (pd_var 2) (pd_var 1) (get3 r ?_)⟩) (Nat.le_of_ble_eq_true rfl))⟩) (Nat.le_of_ble_eq_true rfl)) rfl
  simp at hj; omega
theorem mul2Ok {a b c d : Int} {e : Nat} (ha : a.natAbs ≤ 2 ^ e) (hb : b.natAbs ≤ 2 ^ e) (hc : c.natAbs ≤ 2 ^ e) (hd : d.natAbs ≤ 2 ^ e) : (a * b - c * d).natAbs ≤ 2 ^ (2 * e + 1) := by
  have h1 : (a * b).natAbs ≤ 2 ^ e * 2 ^ e := by rw [Int.natAbs_mul]; exact Nat.mul_le_mul ha hb
  have h2 : (c * d).natAbs ≤ 2 ^ e * 2 ^ e := by rw [Int.natAbs_mul]; exact Nat.mul_le_mul hc hd
  have e2 : 2 ^ (2 * e + 1) = 2 ^ e * 2 ^ e + 2 ^ e * 2 ^ e := by rw [Nat.pow_succ, Nat.two_mul e, Nat.pow_add]; omega
  omega
abbrev AMat : Type := { m : M3 // SmallM 1000 m }
theorem at_determinant (F : FunAt K mg "determinant" sDeterminant) : At P w K mg base "determinant" 1 ["rows"] (spOf K (fun m : AMat => [tm3 m.1]) (fun m d => d = .int m.1.det)) := by
  refine at_d F sc_determinant (fun _ => rfl) (fun _ _ _ _ _ _ us hl => match us, hl with | [_], _ => rfl) fun m f cdv A outer s H E hr => ?_
  show BD _ (defBody sDeterminant) [some (tm3 m.1), none, none, none, none, none] _
  obtain ⟨m, h1, h2, h3⟩ := m
  have ok : ∀ {i j : Int}, i.natAbs ≤ 2 ^ 1000 → j.natAbs ≤ 2 ^ 1000 → IntMulOk i j := fun a b => mulOk a b (by decide)
  have ok2 : ∀ {i a b c d : Int}, i.natAbs ≤ 2 ^ 1000 → a.natAbs ≤ 2 ^ 1000 → b.natAbs ≤ 2 ^ 1000 → c.natAbs ≤ 2 ^ 1000 → d.natAbs ≤ 2 ^ 1000 → IntMulOk i (a * b - c * d) := fun hi a b c d => mulOk hi (mul2Ok a b c d) (by decide)
  refine bd_tg (pd_var 0) (gd_tup (gds_cons (gd_name 1 sc_determinant.nd) (gds_cons (gd_name 2 sc_determinant.nd) (gds_cons (gd_name 3 sc_determinant.nd) gds_nil)))) ?_
  refine bd_set 4 sc_determinant.nd (pd_mul (pd_ixT 0 (pd_var 1) pd_int rfl) (pd_sub (pd_mul (pd_ixT 1 (pd_var 2) pd_int rfl) (pd_ixT 2 (pd_var 3) pd_int rfl) (ok (h2 1) (h3 2))) (pd_mul (pd_ixT 2 (pd_var 2) pd_int rfl) (pd_ixT 1 (pd_var 3) pd_int rfl) (ok (h2 2) (h3 1)))) (ok2 (h1 0) (h2 1) (h3 2) (h2 2) (h3 1))) ?_
  refine bd_set 5 sc_determinant.nd (pd_mul (pd_ixT 1 (pd_var 1) pd_int rfl) (pd_sub (pd_mul (pd_ixT 0 (pd_var 2) pd_int rfl) (pd_ixT 2 (pd_var 3) pd_int rfl) (ok (h2 0) (h3 2))) (pd_mul (pd_ixT 2 (pd_var 2) pd_int rfl) (pd_ixT 0 (pd_var 3) pd_int rfl) (ok (h2 2) (h3 0)))) (ok2 (h1 1) (h2 0) (h3 2) (h2 2) (h3 0))) ?_
  refine bd_ret (pd_add (pd_sub (pd_var 4) (pd_var 5)) (pd_mul (pd_ixT 2 (pd_var 1) pd_int rfl) (pd_sub (pd_mul (pd_ixT 0 (pd_var 2) pd_int rfl) (pd_ixT 1 (pd_var 3) pd_int rfl) (ok (h2 0) (h3 1))) (pd_mul (pd_ixT 1 (pd_var 2) pd_int rfl) (pd_ixT 0 (pd_var 3) pd_int rfl) (ok (h2 1) (h3 0)))) (ok2 (h1 2) (h2 0) (h3 1) (h2 1) (h3 0)))) rfl
theorem at_is_row1 (T : Tx K mg) (F : FunAt K mg "is_row" sIsRow) : At P w K mg base "is_row" 1 ["row", "many"] (spOf K (fun i : Int => [.lst [.int i], .int 1]) (fun i d => d = .bl true)) := by
  refine at_d F sc_is_row (fun _ => rfl) (fun _ _ _ _ _ _ us hl => match us, hl with | [_, _], _ => rfl) fun i f cdv A outer s H E hr => ?_
  show BD _ (defBody sIsRow) [some (.lst [.int i]), some (.int 1), none] _
  refine bd_skip (WD.to (wd_or (td_not (td_val (pd_isi2 (b1 := false) (b2 := true) T.isinstance rfl (by rfl) (by rfl) (pd_var 0) (pd_type (n := "tuple") T.tuple (by decide +kernel)) (pd_type (n := "list") T.list (by decide +kernel))))) fun _ => wd_or1 (td_ne (pd_lenL T.len (pd_var 0)) (pd_var 1))) (by rfl)).pt ?_
  refine bd_ret (pd_all (l := [true]) T.all (pd_lc [("entry", 2)] (blkOk_by (N := nIsRow) (sc := defScope sIsRow) (by decide +kernel)) sc_is_row.nd (id_lst (pd_var 0))
      (comp_all [i] D.int (fun _ => .bl true) fun j hj => ⟨_, _, fun _ _ _ _ _ => gd_name 2 sc_is_row.nd, by decide, fun _ _ _ _ _ => tsd_nil, fun _ _ _ _ _ _ =>
        PD.to (pd_and (pd_isi (b := true) T.isinstance rfl (by rfl) (pd_var 2) (pd_type (n := "int") T.int (by decide +kernel))) fun _ => pd_and1 (pd_not (pd_isi (b := false) T.isinstance rfl (by rfl) (pd_var 2) (pd_type (n := "bool") T.bool (by decide +kernel))))) (by rfl)⟩) (Nat.le_of_ble_eq_true rfl))) rfl
theorem at_is_row3 (T : Tx K mg) (F : FunAt K mg "is_row" sIsRow) : At P w K mg base "is_row" 1 ["row", "many"] (spOf K (fun v : V3 => [t3 v, .int 3]) (fun v d => d = .bl true)) := by
  refine at_d F sc_is_row (fun _ => rfl) (fun _ _ _ _ _ _ us hl => match us, hl with | [_, _], _ => rfl) fun v f cdv A outer s H E hr => ?_
  show BD _ (defBody sIsRow) [some (t3 v), some (.int 3), none] _
  refine bd_skip (WD.to (wd_or (td_not (td_val (pd_isi2 (b1 := true) (b2 := false) T.isinstance rfl (by rfl) (by rfl) (pd_var 0) (pd_type (n := "tuple") T.tuple (by decide +kernel)) (pd_type (n := "list") T.list (by decide +kernel))))) fun _ => wd_or1 (td_ne (pd_lenT T.len (pd_var 0)) (pd_var 1))) (by rfl)).pt ?_
  refine bd_ret (pd_all (l := [true, true, true]) T.all (pd_lc [("entry", 2)] (blkOk_by (N := nIsRow) (sc := defScope sIsRow) (by decide +kernel)) sc_is_row.nd (id_tup (pd_var 0))
      (comp_all [v.x, v.y, v.z] D.int (fun _ => .bl true) fun j hj => ⟨_, _, fun _ _ _ _ _ => gd_name 2 sc_is_row.nd, by decide, fun _ _ _ _ _ => tsd_nil, fun _ _ _ _ _ _ =>
        PD.to (pd_and (pd_isi (b := true) T.isinstance rfl (by rfl) (pd_var 2) (pd_type (n := "int") T.int (by decide +kernel))) fun _ => pd_and1 (pd_not (pd_isi (b := false) T.isinstance rfl (by rfl) (pd_var 2) (pd_type (n := "bool") T.bool (by decide +kernel))))) (by rfl)⟩) (Nat.le_of_ble_eq_true rfl))) rfl
end
end Tp
end

section
set_option Elab.async false
set_option linter.all false
set_option autoImplicit false
set_option maxRecDepth 100000
set_option maxHeartbeats 4000000
namespace Tp
open PySem L2 Evl Pd
abbrev sCheckTurn : Stmt := topS 20
abbrev sTurnOf : Stmt := topS 21
abbrev sInverse : Stmt := topS 22
abbrev sWithout : Stmt := topS 25
abbrev sCheckTurns : Stmt := topS 29
abbrev nCheckTurn : List Str := ["turn", "row", "size", "rows", "k", "j", "square"]
abbrev nTurnOf : List Str := ["number", "a", "b", "c", "d", "rows"]
abbrev nInverse : List Str := ["turn", "row"]
abbrev nWithout : List Str := ["row", "other", "many", "part", "far"]
abbrev nCheckTurns : List Str := ["turns", "turn"]
theorem sc_check_turn : FnScope nCheckTurn ["turn"] (defScope sCheckTurn) := ⟨rfl, rfl, rfl, by decide +kernel, rfl, by decide +kernel, by decide +kernel⟩
theorem sc_turn_of : FnScope nTurnOf ["number"] (defScope sTurnOf) := ⟨rfl, rfl, rfl, by decide +kernel, rfl, by decide +kernel, by decide +kernel⟩
theorem sc_inverse : FnScope nInverse ["turn"] (defScope sInverse) := ⟨rfl, rfl, rfl, by decide +kernel, rfl, by decide +kernel, by decide +kernel⟩
theorem sc_without : FnScope nWithout ["row", "other", "many"] (defScope sWithout) := ⟨rfl, rfl, rfl, by decide +kernel, rfl, by decide +kernel, by decide +kernel⟩
theorem sc_check_turns : FnScope nCheckTurns ["turns"] (defScope sCheckTurns) := ⟨rfl, rfl, rfl, by decide +kernel, rfl, by decide +kernel, by decide +kernel⟩
/-- a turn in lowest terms, of few bits -/
structure Turn (s : Int) (m : M3) : Prop where
  rot : Rot s m
  low : gcdL (s :: m.list) = 1
  bits : s ≤ 2 ^ 86
abbrev ATurn : Type := { p : Int × M3 // Turn p.1 p.2 }
abbrev ATurn.s (a : ATurn) : Int := a.1.1
abbrev ATurn.m (a : ATurn) : M3 := a.1.2
theorem sq_nonneg (x : Int) : 0 ≤ x * x := by
  rcases Int.le_total 0 x with h | h
  · exact Int.mul_nonneg h h
  · have := Int.mul_nonneg (show 0 ≤ -x by omega) (show 0 ≤ -x by omega)
    rwa [Int.neg_mul_neg] at this
theorem abs_le_sq {x s : Int} (hs : 0 < s) (h : x * x ≤ s * s) : x.natAbs ≤ s.natAbs := by
  refine Classical.byContradiction fun z => ?_
  have h1 : s.natAbs * s.natAbs < x.natAbs * x.natAbs := Nat.mul_lt_mul'' (by omega) (by omega)
  rw [← Int.natAbs_mul, ← Int.natAbs_mul] at h1
  have := sq_nonneg x
  have := sq_nonneg s
  omega
theorem dot_small {v : V3} {s : Int} (hs : 0 < s) (h : v.dot v = s * s) : ∀ j, (v.get j).natAbs ≤ s.natAbs := by
  have h1 := sq_nonneg v.x
  have h2 := sq_nonneg v.y
  have h3 := sq_nonneg v.z
  simp only [V3.dot] at h
  intro j
  match j with
  | 0 => exact abs_le_sq hs (show v.x * v.x ≤ s * s by omega)
  | 1 => exact abs_le_sq hs (show v.y * v.y ≤ s * s by omega)
  | _ + 2 => exact abs_le_sq hs (show v.z * v.z ≤ s * s by omega)
theorem pow_le {a b : Nat} (h : a ≤ b) {n : Nat} (hn : n ≤ 2 ^ a) : n ≤ 2 ^ b := Nat.le_trans hn (Nat.pow_le_pow_right (by decide) h)
theorem SmallV.mono {a b : Nat} (h : a ≤ b) {v : V3} (q : SmallV a v) : SmallV b v := fun j => pow_le h (q j)
theorem SmallM.mono {a b : Nat} (h : a ≤ b) {m : M3} (q : SmallM a m) : SmallM b m := ⟨q.1.mono h, q.2.1.mono h, q.2.2.mono h⟩
section
variable {s : Int} {m : M3}
theorem Turn.s90 (h : Turn s m) : s.natAbs ≤ 2 ^ 90 := by
  have h1 := h.bits
  have h2 := h.rot.pos
  omega
theorem Turn.small (h : Turn s m) : SmallM 90 m := ⟨fun j => Nat.le_trans (dot_small h.rot.pos h.rot.aa j) h.s90, fun j => Nat.le_trans (dot_small h.rot.pos h.rot.bb j) h.s90, fun j => Nat.le_trans (dot_small h.rot.pos h.rot.cc j) h.s90⟩
theorem SmallV.tr {e : Nat} {m : M3} (h : SmallM e m) : SmallM e m.tr := ⟨fun j => match j with
  | 0 => h.1 0
  | 1 => h.2.1 0
  | _ + 2 => h.2.2 0, fun j => match j with
  | 0 => h.1 1
  | 1 => h.2.1 1
  | _ + 2 => h.2.2 1, fun j => match j with
  | 0 => h.1 2
  | 1 => h.2.1 2
  | _ + 2 => h.2.2 2⟩
theorem dot_comm (u v : V3) : u.dot v = v.dot u := by simp only [V3.dot, Int.mul_comm]
theorem Turn.square (h : Turn s m) : (⟨m.a.by_ m.tr, m.b.by_ m.tr, m.c.by_ m.tr⟩ : M3) = ⟨⟨s * s, 0, 0⟩, ⟨0, s * s, 0⟩, ⟨0, 0, s * s⟩⟩ := by
  have e : (⟨m.a.by_ m.tr, m.b.by_ m.tr, m.c.by_ m.tr⟩ : M3) = ⟨⟨m.a.dot m.a, m.a.dot m.b, m.a.dot m.c⟩, ⟨m.b.dot m.a, m.b.dot m.b, m.b.dot m.c⟩, ⟨m.c.dot m.a, m.c.dot m.b, m.c.dot m.c⟩⟩ := rfl
  rw [e, h.rot.aa, h.rot.bb, h.rot.cc, dot_comm m.b m.a, dot_comm m.c m.a, dot_comm m.c m.b, h.rot.ab, h.rot.ac, h.rot.bc]
end
theorem gcdL_perm {l l' : List Int} (h : ∀ n, n ∈ l ↔ n ∈ l') : gcdL l = gcdL l' := by
  have le : ∀ {l l' : List Int}, (∀ n, n ∈ l' → n ∈ l) → gcdL l ∣ gcdL l' := fun {l l'} h => by
    have q := gcdL_greatest (ns := l') (k := 1) (d := gcdL l) fun n hn => by
      rw [Int.one_mul]
      exact gcdL_dvd (h n hn)
    rwa [Int.one_mul] at q
  exact Int.dvd_antisymm (gcdL_nonneg l) (gcdL_nonneg l') (le fun n hn => (h n).mpr hn) (le fun n hn => (h n).mp hn)
theorem Turn.back {s : Int} {m : M3} (h : Turn s m) : Turn s m.tr := ⟨h.rot.back, by
  rw [← h.low]
  refine gcdL_perm fun n => ?_
  simp only [M3.list, M3.tr, List.mem_cons, List.not_mem_nil, or_false]
  constructor <;> (rintro (h | h | h | h | h | h | h | h | h | h) <;> simp [h]), h.bits⟩
theorem pow3Ok {s : Int} (h : s.natAbs ≤ 2 ^ 90) : CPowA s 3 := by
  refine ⟨by decide, ?_⟩
  unfold Builtin.Int.intTooBig Builtin.Int.intBits
  have h2 := PySem.Flt.log2_lt_of (n := s.natAbs) (k := 91) (by decide) (Nat.lt_of_le_of_lt h (by decide))
  have e : bitsLine = 134217728 := by decide
  rw [e]
  simp only [decide_eq_true_eq]
  split <;> omega
section
variable {P : Program} {w : World} {K : PySem.W.Frag} {mg : Str → Option Value} {base : Heap}
theorem at_check_turn (T : Tx K mg) (F : FunAt K mg "check_turn" sCheckTurn)
    (c1 : At P w K mg base "is_row" 1 ["row", "many"] (spOf K (fun i : Int => [.lst [.int i], .int 1]) (fun i d => d = .bl true)))
    (c3 : At P w K mg base "is_row" 1 ["row", "many"] (spOf K (fun v : V3 => [t3 v, .int 3]) (fun v d => d = .bl true)))
    (ct : At P w K mg base "times" 1 ["rows", "others"] (spOf K (fun a : ATimes => [tm3 a.m, vm3 a.n]) (fun a d => d = vm3 ⟨a.m.a.by_ a.n, a.m.b.by_ a.n, a.m.c.by_ a.n⟩)))
    (cs : At P w K mg base "swapped" 1 ["rows"] (spOf K (fun m : M3 => [tm3 m]) (fun m d => d = vm3 m.tr)))
    (cd : At P w K mg base "determinant" 1 ["rows"] (spOf K (fun m : AMat => [tm3 m.1]) (fun m d => d = .int m.1.det)))
    (cl : At P w K mg base "lowest" 2 ["size", "rows"] (spOf K (fun a : ALow => [.int a.s, tm3 a.m]) (fun a d => d = turnD (a.s.fdiv (gcdL (a.s :: a.m.list))) (a.m.fdiv (gcdL (a.s :: a.m.list)))))) :
    At P w K mg base "check_turn" 3 ["turn"] (spOf K (fun a : ATurn => [turnD a.s a.m]) (fun a d => d = .non)) := by
  refine at_d F sc_check_turn (fun _ => rfl) (fun _ _ _ _ _ _ us hl => match us, hl with | [_], _ => rfl) fun a f cdv A outer s H E hr => ?_
  obtain ⟨⟨s, m⟩, h⟩ := a
  show BD _ (defBody sCheckTurn) [some (turnD s m), none, none, none, none, none, none] _
  have h : Turn s m := h
  have hpos := h.rot.pos
  have nd := sc_check_turn.nd
  refine bd_skip (PW.pt (WD.to (wd_or (td_not (td_val (pd_isi2 (b1 := true) (b2 := false) T.isinstance rfl (by rfl) (by rfl) (pd_var 0) (pd_type (n := "tuple") T.tuple (by decide +kernel)) (pd_type (n := "list") T.list (by decide +kernel))))) fun _ =>
    wd_or (td_ne (pd_lenT T.len (pd_var 0)) pd_int) fun _ => wd_or (td_not (td_val (k := true) (pd_at c1 (hr.mono (by decide)) s (AD.to (ad_cons (pd_lst (ad_cons (pd_ixT 0 (pd_var 0) pd_int rfl) ad_nil) (Nat.le_of_ble_eq_true rfl)) (ad_cons pd_int ad_nil)) (by rfl))))) fun _ => wd_or1 (td_lt (i := s) (pd_ixT 0 (pd_var 0) pd_int rfl) pd_int)) ?_)) ?_
  · show (decide (s < 1)) = false
    exact decide_eq_false (by omega)
  refine bd_skip (PW.pt (WD.to (wd_or (td_not (td_val (pd_isi2 (b1 := true) (b2 := false) (T := "tuple") T.isinstance rfl (by rfl) (by rfl) (pd_ixT (d := tm3 m) 1 (pd_var 0) pd_int rfl) (pd_type (n := "tuple") T.tuple (by decide +kernel)) (pd_type (n := "list") T.list (by decide +kernel))))) fun _ =>
    wd_or (td_ne (pd_lenT (xs := [t3 m.a, t3 m.b, t3 m.c]) T.len (pd_ixT 1 (pd_var 0) pd_int rfl)) pd_int) fun _ => wd_or1 (td_not (td_val (k := true) (PD.to (pd_all (l := [true, true, true]) T.all
      (pd_lc [("row", 1)] (blkOk_by (N := nCheckTurn) (sc := defScope sCheckTurn) (by decide +kernel)) nd (id_tup (pd_ixT 1 (pd_var 0) pd_int rfl)) (comp_all [m.a, m.b, m.c] t3 (fun _ => .bl true) fun v hv => ⟨_, _, fun _ _ _ _ _ => gd_name 1 nd, by decide, fun _ _ _ _ _ => tsd_nil, fun _ _ _ _ _ _ =>
        pd_at c3 (hr.mono (by decide)) v (ad_cons (pd_var 1) (ad_cons pd_int ad_nil))⟩) (Nat.le_of_ble_eq_true rfl))) (by rfl))))) (by rfl))) ?_
  refine bd_tg (pd_var 0) (gd_tup (gds_cons (gd_name 2 nd) (gds_cons (gd_name 3 nd) gds_nil))) ?_
  refine bd_setLc 6 [("k", 4)] (blkOk_by (N := nCheckTurn) (sc := defScope sCheckTurn) (by decide +kernel)) nd (id_range (n := 3) T.range pd_int (by decide))
    (comp_all [0, 1, 2] (fun k : Nat => D.int k) (fun k => .lst ([0, 1, 2].map fun j : Nat => .int (if j = k then s * s else 0))) fun k hk => ⟨_, _, fun _ _ _ _ _ => gd_name 4 nd, by decide, fun _ _ _ _ _ => tsd_nil, fun _ _ _ _ _ _ =>
      pd_lc [("j", 5)] (blkOk_by (N := nCheckTurn) (sc := relS _ (defScope sCheckTurn)) (by decide +kernel)) nd (id_range (n := 3) T.range pd_int (by decide))
        (comp_all [0, 1, 2] (fun j : Nat => D.int j) (fun j => .int (if j = k then s * s else 0)) fun j hj => ⟨_, _, fun _ _ _ _ _ => gd_name 5 nd, by decide, fun _ _ _ _ _ => tsd_nil, fun _ _ _ _ _ _ =>
          pd_if (td_eq (i := (j : Int)) (j := (k : Int)) (pd_var 5) (pd_var 4)) (fun e => PD.to (pd_mul (i := s) (j := s) (pd_var 2) (pd_var 2) (mulOk h.s90 h.s90 (by decide))) (by rw [if_pos (by have := of_decide_eq_true e; omega)])) (fun e => PD.to pd_int (by rw [if_neg (by have := of_decide_eq_false e; omega)]))⟩) (Nat.le_of_ble_eq_true rfl)⟩) (Nat.le_of_ble_eq_true rfl) ?_ (sw_true rfl rfl rfl (by decide +kernel))
  refine bd_skip (PW.pt (WD.to (wd_or (td_cmp (op_neD hr.units) (rd_neD (x := vm3 ⟨⟨s * s, 0, 0⟩, ⟨0, s * s, 0⟩, ⟨0, 0, s * s⟩⟩) (y := vm3 ⟨⟨s * s, 0, 0⟩, ⟨0, s * s, 0⟩, ⟨0, 0, s * s⟩⟩) rfl rfl rfl rfl)
    (PD.to (pd_at ct (hr.mono (by decide)) ⟨m, m.tr, h.small.mono (by decide), (SmallV.tr h.small).mono (by decide)⟩ (ad_cons (pd_var 3) (ad_cons (pd_at cs (hr.mono (by decide)) m (ad_cons (pd_var 3) ad_nil)) ad_nil))) (by rw [← h.square])) (pd_var 6) (nomark _)) fun _ =>
    wd_or1 (td_ne (i := m.det) (j := s ^ 3) (pd_at cd (hr.mono (by decide)) ⟨m, h.small.mono (by decide)⟩ (ad_cons (pd_var 3) ad_nil)) (pd_pow (i := s) (pd_var 2) pd_int (pow3Ok h.s90)))) ?_)) ?_
  · rw [PySem.SeqAt.eqv_refl_plain _ rfl, h.rot.det, show s ^ 3 = s * s * s by rw [Int.pow_succ, Int.pow_succ, Int.pow_succ, Int.pow_zero, Int.one_mul]]
    simp
  refine bd_skip (TD.to (td_ne (i := s.fdiv (gcdL (s :: m.list))) (j := s) (pd_ixT 0 (pd_at cl (hr.mono (by decide)) ⟨s, m, by rw [h.low]; decide, by rw [h.low]; exact Nat.two_pow_pos _⟩ (ad_cons (pd_var 2) (ad_cons (pd_var 3) ad_nil))) pd_int rfl) (pd_var 2)) ?_) (bd_nil rfl)
  rw [h.low, Int.fdiv_one]
  simp
theorem Num.sqpos {q : Q4} (h : Num q) : 0 < q.sq := sq_pos h.ne
theorem Num.four {q : Q4} (h : Num q) : 4 * q.sq.fdiv 4 = q.sq := by
  obtain ⟨k, hk⟩ := h.par
  have ha := hk _ q.fa
  have hb := hk _ q.fb
  have hc := hk _ q.fc
  have hd := hk _ q.fd
  simp only [Int.fmod_eq_emod_of_nonneg _ (show (0 : Int) ≤ 2 by decide)] at ha hb hc hd
  have e : q.sq % 4 = 0 := by
    rcases par2 k with h2 | h2
    · have hk0 : k = 0 := by omega
      rw [hk0] at ha hb hc hd
      obtain ⟨a, ea⟩ := sq_even ha
      obtain ⟨b, eb⟩ := sq_even hb
      obtain ⟨c, ec⟩ := sq_even hc
      obtain ⟨d, ed⟩ := sq_even hd
      simp only [Q4.sq]
      omega
    · have hk0 : k = 1 := by omega
      rw [hk0] at ha hb hc hd
      obtain ⟨a, ea⟩ := sq_odd ha
      obtain ⟨b, eb⟩ := sq_odd hb
      obtain ⟨c, ec⟩ := sq_odd hc
      obtain ⟨d, ed⟩ := sq_odd hd
      simp only [Q4.sq]
      omega
  rw [Int.fdiv_eq_ediv_of_nonneg _ (by decide)]
  omega
theorem Num.sq86 {q : Q4} (h : Num q) : q.sq ≤ 2 ^ 86 := by
  have s : ∀ n ∈ q.list, n * n ≤ 2 ^ 84 := fun n hn => by
    have h1 := h.small n hn
    have h2 := Nat.mul_le_mul h1 h1
    rw [← Int.natAbs_mul] at h2
    have := sq_nonneg n
    omega
  have h1 := s _ q.fa
  have h2 := s _ q.fb
  have h3 := s _ q.fc
  have h4 := s _ q.fd
  simp only [Q4.sq]
  omega
theorem Num.mul {q : Q4} (h : Num q) {a b : Int} (ha : a ∈ q.list) (hb : b ∈ q.list) : (a * b).natAbs ≤ 2 ^ 84 := by
  have h2 := Nat.mul_le_mul (h.small a ha) (h.small b hb)
  rw [← Int.natAbs_mul] at h2
  exact Nat.le_trans h2 (by decide)
theorem gcdL_le {ns : List Int} {n : Int} (h : n ∈ ns) (h0 : n ≠ 0) : (gcdL ns).natAbs ≤ n.natAbs := by
  have h1 := Int.natAbs_dvd_natAbs.mpr (gcdL_dvd h)
  exact Nat.le_of_dvd (by omega) h1
/-- what turn_of answers -/
abbrev sizeOf (q : Q4) : Int := q.sq.fdiv (turnGcd q)
abbrev rowsOf (q : Q4) : M3 := q.rot.fdiv (turnGcd q)
theorem Num.turn {q : Q4} (h : Num q) : Turn (sizeOf q) (rowsOf q) := by
  obtain ⟨h1, h2⟩ := turn_rot h.ne
  refine ⟨h1, h2, ?_⟩
  have h3 := fdiv_abs q.sq (b := turnGcd q) (by have := turnGcd_pos h.ne; omega)
  have h4 := h.sq86
  have h5 := h.sqpos
  have h6 := h1.pos
  unfold sizeOf
  omega
theorem at_turn_of (F : FunAt K mg "turn_of" sTurnOf)
    (cz : At P w K mg base "check_not_zero" 3 ["number"] (spOf K (fun a : ANum => [t4 a.1]) (fun a d => d = .non)))
    (cn : At P w K mg base "norm" 3 ["number"] (spOf K (fun a : ANum => [t4 a.1]) (fun a d => d = .int (a.1.sq.fdiv 4))))
    (cl : At P w K mg base "lowest" 2 ["size", "rows"] (spOf K (fun a : ALow => [.int a.s, tm3 a.m]) (fun a d => d = turnD (a.s.fdiv (gcdL (a.s :: a.m.list))) (a.m.fdiv (gcdL (a.s :: a.m.list)))))) :
    At P w K mg base "turn_of" 4 ["number"] (spOf K (fun a : ANum => [t4 a.1]) (fun a d => d = turnD (sizeOf a.1) (rowsOf a.1))) := by
  refine at_d F sc_turn_of (fun _ => rfl) (fun _ _ _ _ _ _ us hl => match us, hl with | [_], _ => rfl) fun a f cdv A outer s H E hr => ?_
  obtain ⟨q, h⟩ := a
  show BD _ (defBody sTurnOf) [some (t4 q), none, none, none, none, none] _
  have nd := sc_turn_of.nd
  have ok : ∀ {a b : Int}, a ∈ q.list → b ∈ q.list → IntMulOk a b := fun ha hb => mulOk (h.small _ ha) (h.small _ hb) (by decide)
  have ok2 : ∀ {n : Int}, IntMulOk 2 n ∧ IntMulOk 4 n := fun {n} => ⟨.of_left (by decide), .of_left (by decide)⟩
  refine bd_expr (pr_at cz (hr.mono (by decide)) (⟨q, h⟩ : ANum) (ad_cons (pd_var 0) ad_nil)) ?_
  refine bd_tg (pd_var 0) (gd_tup (gds_cons (gd_name 1 nd) (gds_cons (gd_name 2 nd) (gds_cons (gd_name 3 nd) (gds_cons (gd_name 4 nd) gds_nil))))) ?_
  have fa := q.fa
  have fb := q.fb
  have fc := q.fc
  have fd := q.fd
  refine bd_set 5 (d := tm3 q.rot) nd (pd_tup (ad_cons (pd_tup (ad_cons
      (pd_sub (pd_sub (pd_add (pd_mul (pd_var 1) (pd_var 1) (ok fa fa)) (pd_mul (pd_var 2) (pd_var 2) (ok fb fb))) (pd_mul (pd_var 3) (pd_var 3) (ok fc fc))) (pd_mul (pd_var 4) (pd_var 4) (ok fd fd))) (ad_cons
      (pd_mul pd_int (pd_sub (pd_mul (pd_var 2) (pd_var 3) (ok fb fc)) (pd_mul (pd_var 1) (pd_var 4) (ok fa fd))) ok2.1) (ad_cons
      (pd_mul pd_int (pd_add (pd_mul (pd_var 2) (pd_var 4) (ok fb fd)) (pd_mul (pd_var 1) (pd_var 3) (ok fa fc))) ok2.1) ad_nil))) (Nat.le_of_ble_eq_true rfl)) (ad_cons (pd_tup (ad_cons
      (pd_mul pd_int (pd_add (pd_mul (pd_var 2) (pd_var 3) (ok fb fc)) (pd_mul (pd_var 1) (pd_var 4) (ok fa fd))) ok2.1) (ad_cons
      (pd_sub (pd_add (pd_sub (pd_mul (pd_var 1) (pd_var 1) (ok fa fa)) (pd_mul (pd_var 2) (pd_var 2) (ok fb fb))) (pd_mul (pd_var 3) (pd_var 3) (ok fc fc))) (pd_mul (pd_var 4) (pd_var 4) (ok fd fd))) (ad_cons
      (pd_mul pd_int (pd_sub (pd_mul (pd_var 3) (pd_var 4) (ok fc fd)) (pd_mul (pd_var 1) (pd_var 2) (ok fa fb))) ok2.1) ad_nil))) (Nat.le_of_ble_eq_true rfl)) (ad_cons (pd_tup (ad_cons
      (pd_mul pd_int (pd_sub (pd_mul (pd_var 2) (pd_var 4) (ok fb fd)) (pd_mul (pd_var 1) (pd_var 3) (ok fa fc))) ok2.1) (ad_cons
      (pd_mul pd_int (pd_add (pd_mul (pd_var 3) (pd_var 4) (ok fc fd)) (pd_mul (pd_var 1) (pd_var 2) (ok fa fb))) ok2.1) (ad_cons
      (pd_add (pd_sub (pd_sub (pd_mul (pd_var 1) (pd_var 1) (ok fa fa)) (pd_mul (pd_var 2) (pd_var 2) (ok fb fb))) (pd_mul (pd_var 3) (pd_var 3) (ok fc fc))) (pd_mul (pd_var 4) (pd_var 4) (ok fd fd))) ad_nil))) (Nat.le_of_ble_eq_true rfl)) ad_nil))) (Nat.le_of_ble_eq_true rfl)) ?_
  refine bd_ret (pd_at cl (hr.mono (by decide)) ⟨q.sq, q.rot, by have := turnGcd_pos h.ne; unfold turnGcd at this; omega, ?_⟩ (ad_cons (PD.to (pd_mul (i := 4) (j := q.sq.fdiv 4) pd_int (pd_at cn (hr.mono (by decide)) (⟨q, h⟩ : ANum) (ad_cons (pd_var 0) ad_nil)) ok2.2) (by rw [h.four])) (ad_cons (pd_var 5) ad_nil))) rfl
  have h1 := gcdL_le (ns := q.sq :: q.rot.list) (n := q.sq) List.mem_cons_self (by have := h.sqpos; omega)
  have h2 := h.sq86
  have h3 := h.sqpos
  exact pow_le (a := 86) (by decide) (by omega)
theorem at_inverse (T : Tx K mg) (F : FunAt K mg "inverse" sInverse)
    (cc : At P w K mg base "check_turn" 3 ["turn"] (spOf K (fun a : ATurn => [turnD a.s a.m]) (fun a d => d = .non)))
    (cs : At P w K mg base "swapped" 1 ["rows"] (spOf K (fun m : M3 => [tm3 m]) (fun m d => d = vm3 m.tr))) :
    At P w K mg base "inverse" 4 ["turn"] (spOf K (fun a : ATurn => [turnD a.s a.m]) (fun a d => d = turnD a.s a.m.tr)) := by
  refine at_d F sc_inverse (fun _ => rfl) (fun _ _ _ _ _ _ us hl => match us, hl with | [_], _ => rfl) fun a f cdv A outer s H E hr => ?_
  show BD _ (defBody sInverse) [some (turnD a.s a.m), none] _
  have nd := sc_inverse.nd
  refine bd_expr (pr_at cc (hr.mono (by decide)) a (ad_cons (pd_var 0) ad_nil)) ?_
  refine bd_ret (pd_tup (ad_cons (pd_ixT 0 (pd_var 0) pd_int rfl) (ad_cons (pd_tupL T.tuple
    (pd_lc [("row", 1)] (blkOk_by (N := nInverse) (sc := defScope sInverse) (by decide +kernel)) nd (id_lst (pd_at cs (d := vm3 a.m.tr) (hr.mono (by decide)) a.m (ad_cons (pd_ixT 1 (pd_var 0) pd_int rfl) ad_nil)))
      (comp_all [a.m.tr.a, a.m.tr.b, a.m.tr.c] v3 t3 fun r hr => ⟨_, _, fun _ _ _ _ _ => gd_name 1 nd, by decide, fun _ _ _ _ _ => tsd_nil, fun _ _ _ _ _ _ => pd_tupL T.tuple (pd_var 1)⟩) (Nat.le_of_ble_eq_true rfl))) ad_nil)) (Nat.le_of_ble_eq_true rfl)) rfl
structure AWithout where
  r : V3
  o : V3
  m : Int
  ok : ∀ j, IntMulOk m (o.get j)
theorem at_without (T : Tx K mg) (F : FunAt K mg "without" sWithout) : At P w K mg base "without" 1 ["row", "other", "many"] (spOf K (fun a : AWithout => [v3 a.r, v3 a.o, .int a.m]) (fun a d => d = v3 (a.r.less a.o a.m))) := by
  refine at_d F sc_without (fun _ => rfl) (fun _ _ _ _ _ _ us hl => match us, hl with | [_, _, _], _ => rfl) fun a f cdv A outer s H E hr => ?_
  show BD _ (defBody sWithout) [some (v3 a.r), some (v3 a.o), some (.int a.m), none, none] _
  refine bd_ret (pd_lc [("part", 3), ("far", 4)] (blkOk_by (N := nWithout) (sc := defScope sWithout) (by decide +kernel)) sc_without.nd
    (id_zipL T.zip (pd_var 0) (pd_var 1))
    (comp_all [(a.r.x, a.o.x), (a.r.y, a.o.y), (a.r.z, a.o.z)] (fun i => .tup [.int i.1, .int i.2]) (fun i => .int (i.1 - a.m * i.2)) fun i hi =>
      ⟨_, _, fun _ _ _ _ _ => gd_tup (gds_cons (gd_name 3 sc_without.nd) (gds_cons (gd_name 4 sc_without.nd) gds_nil)), by decide, fun _ _ _ _ _ => tsd_nil, fun _ _ _ _ _ _ => pd_sub (pd_var 3) (pd_mul (pd_var 2) (pd_var 4) ?_)⟩)
    (Nat.le_of_ble_eq_true rfl)) rfl
  simp at hi
  rcases hi with rfl | rfl | rfl
  · exact a.ok 0
  · exact a.ok 1
  · exact a.ok 2
theorem at_check_turns (T : Tx K mg) (F : FunAt K mg "check_turns" sCheckTurns)
    (cc : At P w K mg base "check_turn" 3 ["turn"] (spOf K (fun a : ATurn => [turnD a.s a.m]) (fun a d => d = .non))) :
    At P w K mg base "check_turns" 4 ["turns"] (spOf K (fun a : ATurn => [.lst [turnD a.s a.m]]) (fun a d => d = .non)) := by
  refine at_d F sc_check_turns (fun _ => rfl) (fun _ _ _ _ _ _ us hl => match us, hl with | [_], _ => rfl) fun a f cdv A outer s H E hr => ?_
  show BD _ (defBody sCheckTurns) [some (.lst [turnD a.s a.m]), none] _
  have nd := sc_check_turns.nd
  obtain ⟨u, hu1, hu2⟩ := T.most
  refine bd_seq (M := fun δ => δ = [some (.lst [turnD a.s a.m]), some (turnD a.s a.m)]) (sd_for (xs := [turnD a.s a.m]) (id_lst (pd_var 0)) ⟨_, _, gd_name 1 nd, BD.imp (bd_expr (O := { nx := fun δ => δ = [some (.lst [turnD a.s a.m]), some (turnD a.s a.m)], rt := fun _ => False }) (pr_at cc (hr.mono (by decide)) a (ad_cons (pd_var 1) ad_nil)) (bd_nil rfl)) (fun _ q => q) (fun _ q => q.elim) (fun _ q => q.elim) (fun _ q => q.elim)⟩) fun δ e => ?_
  rw [e]
  exact bd_skip (td_not (k := true) (td_chain (i := 1) (m := 1) (n := 6) op_le op_le pd_int (pd_lenL (xs := [turnD a.s a.m]) T.len (pd_var 0)) (pd_glob hu1 hu2 fun _ => .int 6))) (bd_nil rfl)
end
end Tp
end

section
set_option Elab.async false
set_option linter.all false
set_option autoImplicit false
set_option maxRecDepth 100000
set_option maxHeartbeats 4000000
namespace Tp
open PySem L2 Evl Pd
open PySem.W (minOf DatumOrd)
abbrev sLowered : Stmt := topS 26
abbrev nLowered : List Str := ["rows", "place", "number", "row", "at", "least", "others"]
theorem sc_lowered : FnScope nLowered ["rows", "place"] (defScope sLowered) := ⟨rfl, rfl, rfl, by decide +kernel, rfl, by decide +kernel, by decide +kernel⟩
theorem minOf_props : ∀ (xs : List (Int × Int)) (x : Int × Int), minOf x xs ∈ x :: xs ∧ ∀ y ∈ x :: xs, (minOf x xs).1 ≤ y.1
  | [], x => ⟨List.mem_cons_self, fun y hy => by
    have e : y = x := by simpa using hy
    rw [e]
    exact Int.le_refl _⟩
  | z :: zs, x => by
    have e : minOf x (z :: zs) = minOf (if DatumOrd.lt z x = true then z else x) zs := rfl
    obtain ⟨h1, h2⟩ := minOf_props zs (if DatumOrd.lt z x = true then z else x)
    rw [e]
    have hlt : DatumOrd.lt z x = if z.1 = x.1 then decide (z.2 < x.2) else decide (z.1 < x.1) := rfl
    have h3 := h2 _ List.mem_cons_self
    by_cases hz : DatumOrd.lt z x = true
    · rw [if_pos hz] at h1 h2 h3 ⊢
      have hzx : z.1 ≤ x.1 := by
        rw [hlt] at hz
        split at hz
        · omega
        · have := of_decide_eq_true hz
          omega
      refine ⟨List.mem_cons_of_mem _ h1, fun y hy => ?_⟩
      rcases List.mem_cons.mp hy with rfl | hy
      · omega
      · exact h2 y hy
    · rw [if_neg hz] at h1 h2 h3 ⊢
      have hzx : x.1 ≤ z.1 := by
        rw [hlt] at hz
        split at hz
        · omega
        · have : ¬ z.1 < x.1 := fun q => hz (decide_eq_true q)
          omega
      refine ⟨?_, fun y hy => ?_⟩
      · rcases List.mem_cons.mp h1 with h1 | h1
        · rw [h1]
          exact List.mem_cons_self
        · exact List.mem_cons_of_mem _ (List.mem_cons_of_mem _ h1)
      · rcases List.mem_cons.mp hy with rfl | hy
        · exact h3
        · rcases List.mem_cons.mp hy with rfl | hy
          · omega
          · exact h2 y (List.mem_cons_of_mem _ hy)
theorem enum_zip : ∀ (L : List V3) (k : Nat), enumD k (L.map v3) = (L.zipIdx k).map fun i => .tup [.int (i.2 : Int), v3 i.1]
  | [], _ => rfl
  | r :: L, k => by
    show D.tup [.int (k : Int), v3 r] :: enumD (k + 1) (L.map v3) = _
    rw [enum_zip L (k + 1)]
    rfl
theorem zip_mem {L : List V3} {i : V3 × Nat} (h : i ∈ L.zipIdx) : L[i.2]? = some i.1 := by
  have := List.mem_zipIdx_iff_getElem?.mp h
  simpa using this
structure ALowd where
  L : List V3
  p : Nat
  hp : p < 3
  ex : ∃ r ∈ L, r.get p ≠ 0
  ent : ∀ r ∈ L, ∀ j, (r.get j).natAbs ≤ 2 ^ 20000
  lead : ∀ r ∈ L, (r.get p).natAbs ≤ 2 ^ 8000
  len : L.length ≤ 1000
section
variable {P : Program} {w : World} {K : PySem.W.Frag} {mg : Str → Option Value} {base : Heap}
theorem at_lowered (T : Tx K mg) (F : FunAt K mg "lowered" sLowered)
    (cw : At P w K mg base "without" 1 ["row", "other", "many"] (spOf K (fun a : AWithout => [v3 a.r, v3 a.o, .int a.m]) (fun a d => d = v3 (a.r.less a.o a.m)))) :
    At P w K mg base "lowered" 2 ["rows", "place"] (spOf K (fun a : ALowd => [.lst (a.L.map v3), .int (a.p : Int)]) (fun a d => ∃ L' o O, Lowered a.p a.L L' o O ∧ d = .lst (L'.map v3))) := by
  refine at_d F sc_lowered (fun _ => rfl) (fun _ _ _ _ _ _ us hl => match us, hl with | [_, _], _ => rfl) fun a f cdv A outer s H E hr => ?_
  obtain ⟨L, p, hp, ex, ent, lead, len⟩ := a
  show BD _ (defBody sLowered) [some (.lst (L.map v3)), some (.int (p : Int)), none, none, none, none, none] _
  have nd := sc_lowered.nd
  -- the keys
  have hne : (L.zipIdx.filter fun i => !decide (i.1.get p = 0)).map (fun i => ((if i.1.get p < 0 then -i.1.get p else i.1.get p), (i.2 : Int))) ≠ [] := by
    obtain ⟨r, hr1, hr2⟩ := ex
    obtain ⟨n, hn⟩ := List.getElem?_of_mem hr1
    have hm : (r, n) ∈ L.zipIdx := List.mem_zipIdx_iff_getElem?.mpr (by simpa using hn)
    intro z
    rw [List.map_eq_nil_iff, List.filter_eq_nil_iff] at z
    exact z _ hm (by simpa using hr2)
  obtain ⟨q, l, eql⟩ := List.exists_cons_of_ne_nil hne
  obtain ⟨m1, m2⟩ := minOf_props l q
  rw [← eql] at m1 m2
  obtain ⟨⟨o, n⟩, hi, ei⟩ := List.mem_map.mp m1
  obtain ⟨hi1, hi2⟩ := List.mem_filter.mp hi
  have ho0 : o.get p ≠ 0 := by simpa using hi2
  have hLn : L[n]? = some o := zip_mem hi1
  have hoL : o ∈ L := List.mem_of_getElem? hLn
  have hmin : ∀ r ∈ L, r.get p ≠ 0 → (o.get p).natAbs ≤ (r.get p).natAbs := fun r hr1 hr2 => by
    obtain ⟨k, hk⟩ := List.getElem?_of_mem hr1
    have hm : (r, k) ∈ L.zipIdx := List.mem_zipIdx_iff_getElem?.mpr (by simpa using hk)
    have h := m2 _ (List.mem_map.mpr ⟨(r, k), List.mem_filter.mpr ⟨hm, by simpa using hr2⟩, rfl⟩)
    rw [← ei] at h
    simp only at h
    omega
  have e2 : (minOf q l).2 = (n : Int) := by rw [← ei]
  refine bd_set 4 nd (d := .int (n : Int)) (PD.to (pd_ixT 1 (pd_minP (q := q) (l := l) T.min hr.units (PD.to (pd_lc [("number", 2), ("row", 3)] (blkOk_by (N := nLowered) (sc := defScope sLowered) (by decide +kernel)) nd
    (PI_to (id_enum T.enumerate (pd_var 0)) (enum_zip L 0)) (comp_some L.zipIdx (fun i => !decide (i.1.get p = 0)) (fun i => .tup [.int (i.2 : Int), v3 i.1]) (fun i => pairD ((if i.1.get p < 0 then -i.1.get p else i.1.get p), (i.2 : Int))) fun i hi =>
      ⟨_, _, fun _ _ _ _ _ => gd_tup (gds_cons (gd_name 2 nd) (gds_cons (gd_name 3 nd) gds_nil)), by decide, fun _ _ _ _ _ => tsd_one (td_ne (i := i.1.get p) (j := 0) (pd_ixL p (pd_var 3) (pd_var 1) (get3 _ hp)) pd_int), fun e _ _ _ _ _ => PD.to (pd_tup (ad_cons (pd_abs (i := i.1.get p) T.abs (pd_ixL p (pd_var 3) (pd_var 1) (get3 _ hp))) (ad_cons (pd_var 2) ad_nil)) (Nat.le_of_ble_eq_true rfl)) (by rw [if_pos e]; rfl)⟩) (by rw [List.length_map, List.length_zipIdx]; omega))
    (by rw [← eql, List.map_map]; rfl))) pd_int rfl) (by rw [e2])) ?_
  refine bd_set 5 nd (d := v3 o) (pd_ixL n (pd_var 0) (pd_var 4) (by rw [List.getElem?_map, hLn]; rfl)) ?_
  generalize hO : (L.zipIdx.filter fun i => !decide (((i.2 : Nat) : Int) = (n : Int))).map (·.1) = O
  refine bd_setLc 6 [("number", 2), ("row", 3)] (ys := O.map v3) (blkOk_by (N := nLowered) (sc := defScope sLowered) (by decide +kernel)) nd (PI_to (id_enum T.enumerate (pd_var 0)) (enum_zip L 0))
    (by
      rw [← hO, List.map_map]
      exact comp_some L.zipIdx (fun i => !decide (((i.2 : Nat) : Int) = (n : Int))) (fun i => .tup [.int (i.2 : Int), v3 i.1]) (fun i => v3 i.1) fun i hi =>
        ⟨_, _, fun _ _ _ _ _ => gd_tup (gds_cons (gd_name 2 nd) (gds_cons (gd_name 3 nd) gds_nil)), by decide, fun _ _ _ _ _ => tsd_one (td_ne (i := ((i.2 : Nat) : Int)) (j := (n : Int)) (pd_var 2) (pd_var 4)), fun e _ _ _ _ _ => PD.to (pd_var 3) (by rw [if_pos e]; rfl)⟩) (by rw [List.length_map, List.length_zipIdx]; omega) ?_ (sw_true rfl rfl rfl (by decide +kernel))
  have hsub : ∀ r ∈ O, r ∈ L := fun r hr1 => by
    rw [← hO] at hr1
    obtain ⟨i, hi, rfl⟩ := List.mem_map.mp hr1
    exact List.mem_of_getElem? (zip_mem (List.mem_filter.mp hi).1)
  have hall : ∀ r ∈ L, r = o ∨ r ∈ O := fun r hr1 => by
    obtain ⟨k, hk⟩ := List.getElem?_of_mem hr1
    by_cases hkn : k = n
    · subst hkn
      rw [hLn] at hk
      exact .inl (Option.some.inj hk).symm
    · refine .inr ?_
      rw [← hO]
      exact List.mem_map.mpr ⟨(r, k), List.mem_filter.mpr ⟨List.mem_zipIdx_iff_getElem?.mpr (by simpa using hk), by rw [Bool.not_eq_true', decide_eq_false_iff_not]; show ¬ ((k : Int) = (n : Int)); omega⟩, rfl⟩
  have hlen : O.length + 1 = L.length := by
    have hn : n < L.length := (List.getElem?_eq_some_iff.mp hLn).1
    have key : ∀ (L : List V3) (k n : Nat), k ≤ n → n < k + L.length → (((L.zipIdx k).filter fun i => !decide (((i.2 : Nat) : Int) = (n : Int))).map (·.1)).length + 1 = L.length := fun L => by
      induction L with
      | nil => intro k n h1 h2; simp at h2; omega
      | cons r L ih =>
        intro k n h1 h2
        rw [List.zipIdx_cons]
        by_cases hk : k = n
        · subst hk
          rw [List.filter_cons_of_neg (by simp)]
          have all : (L.zipIdx (k + 1)).filter (fun i => !decide (((i.2 : Nat) : Int) = (k : Int))) = L.zipIdx (k + 1) := by
            rw [List.filter_eq_self]
            intro i hi
            have := List.le_snd_of_mem_zipIdx hi
            simp
            omega
          rw [all, List.length_map, List.length_zipIdx, List.length_cons]
        · rw [List.filter_cons_of_pos (by simp; omega), List.map_cons, List.length_cons, List.length_cons]
          have := ih (k + 1) n (by omega) (by rw [List.length_cons] at h2; omega)
          omega
    have := key L 0 n (by omega) (by omega)
    rw [hO] at this
    exact this
  refine bd_ret (pd_cat (xs := [v3 o]) (pd_lst (ad_cons (pd_var 5) ad_nil) (Nat.le_of_ble_eq_true rfl))
    (pd_lc [("row", 3)] (blkOk_by (N := nLowered) (sc := defScope sLowered) (by decide +kernel)) nd (id_lst (pd_var 6))
      (comp_all O v3 (fun r => v3 (r.less o ((r.get p).fdiv (o.get p)))) fun r hr1 => ⟨_, _, fun _ _ _ _ _ => gd_name 3 nd, by decide, fun _ _ _ _ _ => tsd_nil, fun _ _ _ _ _ _ =>
        pd_at cw (hr.mono (by decide)) ⟨r, o, (r.get p).fdiv (o.get p), fun j => mulOk (Nat.le_trans (fdiv_abs _ ho0) (lead r (hsub r hr1))) (ent o hoL j) (by decide)⟩ (ad_cons (pd_var 3) (ad_cons (pd_var 5) (ad_cons (pd_fdiv (i := r.get p) (j := o.get p) (pd_ixL p (pd_var 3) (pd_var 1) (get3 _ hp)) (pd_ixL p (pd_var 5) (pd_var 1) (get3 _ hp)) (divOk ho0 (lead o hoL) (by decide))) ad_nil)))⟩) (by rw [List.length_map]; omega)) (by rw [List.length_map]; show 1 + O.length ≤ _; omega)) ?_
  refine ⟨o :: O.map (fun r => r.less o ((r.get p).fdiv (o.get p))), o, O, ⟨hoL, ho0, hmin, hall, hsub, hlen, rfl⟩, ?_⟩
  rw [List.map_cons, List.map_map]
  rfl
end
end Tp
end

section
set_option Elab.async false
set_option linter.all false
set_option autoImplicit false
set_option maxRecDepth 100000
set_option maxHeartbeats 4000000
namespace Tp
open PySem L2 Evl Pd
abbrev sBaseForm : Stmt := topS 27
abbrev nBaseForm : List Str := ["rows", "row", "left", "base", "place", "step", "part"]
theorem sc_base_form : FnScope nBaseForm ["rows"] (defScope sBaseForm) := ⟨rfl, rfl, rfl, by decide +kernel, rfl, by decide +kernel, by decide +kernel⟩
/-- bits of the rows behind i places; of the base -/
def eL : Nat → Nat
  | 0 => 90
  | i + 1 => 6 * eL i + 4
def eB : Nat → Nat
  | 0 => 0
  | i + 1 => eB i + (6 * eL i + 4) + 1
structure ABase where
  L0 : List V3
  s : Int
  s0 : s ≠ 0
  full : ∀ j, j < 3 → Span L0 (unitv s j)
  ent : Ent (2 ^ 90) L0
  len : L0.length ≤ 1000
theorem eL_le {i : Nat} (h : i < 3) : eL i ≤ 3300 ∧ eB i ≤ 4000 := match i, h with
  | 0, _ => by decide
  | 1, _ => by decide
  | 2, _ => by decide
theorem shape_len : ∀ {p : Nat} {b : List V3}, p < 3 → Shape p b → b.length ≤ 3
  | 0, b, _, sh => by
    rw [show b = [] from sh]
    decide
  | 1, b, _, ⟨u, e, _⟩ => by
    rw [e]
    exact Nat.le_of_ble_eq_true rfl
  | 2, b, _, ⟨u, v, e, _⟩ => by
    rw [e]
    exact Nat.le_of_ble_eq_true rfl
theorem atMost_iff {p : Nat} {L : List V3} : AtMost p L ↔ (L.filter fun r => !decide (r.get p = 0)).length ≤ 1 := by
  unfold AtMost
  have e : (fun r : V3 => decide (r.get p ≠ 0)) = fun r => !decide (r.get p = 0) := by
    funext r
    simp
  rw [e]
theorem ent_pow {e p m : Nat} {L0 L : List V3} (w : St p (2 ^ e) L0 m L) : ∀ r ∈ L, ∀ j, (r.get j).natAbs ≤ 2 ^ (6 * e + 4) := fun r hr j => Nat.le_trans (w.ent r hr j) (pow9 e)
section
variable {P : Program} {w : World} {K : PySem.W.Frag} {mg : Str → Option Value} {base : Heap}
theorem at_base_form (T : Tx K mg) (F : FunAt K mg "base_form" sBaseForm)
    (cw : At P w K mg base "without" 1 ["row", "other", "many"] (spOf K (fun a : AWithout => [v3 a.r, v3 a.o, .int a.m]) (fun a d => d = v3 (a.r.less a.o a.m))))
    (cl : At P w K mg base "lowered" 2 ["rows", "place"] (spOf K (fun a : ALowd => [.lst (a.L.map v3), .int (a.p : Int)]) (fun a d => ∃ L' o O, Lowered a.p a.L L' o O ∧ d = .lst (L'.map v3)))) :
    At P w K mg base "base_form" 3 ["rows"] (spOf K (fun a : ABase => [.lst (a.L0.map v3)]) (fun a d => ∃ B, Hnf B ∧ SpanEq B.rows a.L0 ∧ d = tm3 B)) := by
  refine at_d F sc_base_form (fun _ => rfl) (fun _ _ _ _ _ _ us hl => match us, hl with | [_], _ => rfl) fun a f cdv A outer s H E hr => ?_
  obtain ⟨L0, s, s0, full, ent, len⟩ := a
  show BD _ (defBody sBaseForm) [some (.lst (L0.map v3)), none, none, none, none, none, none] _
  have nd := sc_base_form.nd
  refine bd_setLc 2 [("row", 1)] (ys := L0.map v3) (blkOk_by (N := nBaseForm) (sc := defScope sBaseForm) (by decide +kernel)) nd (id_lst (pd_var 0))
    (comp_all L0 v3 v3 fun r hr => ⟨_, _, fun _ _ _ _ _ => gd_name 1 nd, by decide, fun _ _ _ _ _ => tsd_nil, fun _ _ _ _ _ _ => pd_list T.list (pd_var 1)⟩) (by rw [List.length_map]; omega) ?_ (sw_true rfl rfl rfl (by decide +kernel))
  refine bd_set 3 (d := .lst (([] : List V3).map v3)) nd (pd_lst ad_nil (Nat.zero_le _)) ?_
  refine bd_seq (M := fun δ => ∃ base left z4 z5, δ = [some (.lst (L0.map v3)), none, some (.lst (left.map v3)), some (.lst (base.map v3)), z4, z5, none] ∧ Place s L0 1000 3 (eL 3) (eB 3) base left)
    (sd_for (id_range (n := 3) T.range pd_int (by decide)) (forD_map (l := [0, 1, 2]) (f := fun i : Nat => D.int i)
      (fun pre _ δ => ∃ base left z4 z5, δ = [some (.lst (L0.map v3)), none, some (.lst (left.map v3)), some (.lst (base.map v3)), z4, z5, none] ∧ Place s L0 1000 pre.length (eL pre.length) (eB pre.length) base left)
      ⟨[], L0, none, none, rfl, Place.start full ent len⟩ (fun pre p post δ e hJ => ?_) fun δ h => h)) fun δ hJ => ?_
  · have hp : pre.length = p ∧ p < 3 := by
      match pre, e with
      | [], e => cases e; exact ⟨rfl, by decide⟩
      | [_], e => cases e; exact ⟨rfl, by decide⟩
      | [_, _], e => cases e; exact ⟨rfl, by decide⟩
      | _ :: _ :: _ :: pre, e => have := congrArg List.length e; simp at this
    obtain ⟨hp1, hp3⟩ := hp
    obtain ⟨bs, left, z4, z5, rfl, pl⟩ := hJ
    rw [hp1] at pl
    rw [List.length_append, List.length_singleton, hp1]
    obtain ⟨hE, hF⟩ := eL_le hp3
    have hE' : eL (p + 1) = 6 * eL p + 4 := rfl
    have hF' : eB (p + 1) = eB p + (6 * eL p + 4) + 1 := rfl
    rw [hE', hF']
    generalize eL p = e1 at pl hE
    generalize eB p = e2 at pl hF
    clear hE' hF'
    refine ⟨_, _, gd_name 4 nd, ?_⟩
    show BD _ _ [some (.lst (L0.map v3)), none, some (.lst (left.map v3)), some (.lst (bs.map v3)), some (.int (p : Int)), z5, none] _
    obtain ⟨m0, st0⟩ := St.start (p := p) pl.ent (pl.some s0 hp3)
    have test : ∀ (LL : List V3) (z : Option D) {X : Cx} {δ : Dv}, True := fun _ _ => trivial
    refine bd_seq (M := fun δ => ∃ LL m, δ = [some (.lst (L0.map v3)), none, some (.lst (LL.map v3)), some (.lst (bs.map v3)), some (.int (p : Int)), z5, none] ∧ St p (2 ^ e1) left m LL ∧ AtMost p LL)
      (sd_while (fun m δ => ∃ LL, δ = [some (.lst (L0.map v3)), none, some (.lst (LL.map v3)), some (.lst (bs.map v3)), some (.int (p : Int)), z5, none] ∧ St p (2 ^ e1) left m LL) m0 ⟨left, rfl, st0⟩ fun m δ h => ?_) fun δ h => ?_
    · obtain ⟨LL, rfl, st⟩ := h
      have hlen : LL.length ≤ 1000 := Nat.le_trans st.len pl.len
      refine ⟨_, _, .inl rfl, td_gt (i := (((LL.filter fun r => !decide (r.get p = 0)).map v3).length : Int)) (pd_lenL T.len (pd_lc [("row", 1)] (blkOk_by (N := nBaseForm) (sc := defScope sBaseForm) (by decide +kernel)) nd (id_lst (pd_var 2))
        (comp_some LL (fun r => !decide (r.get p = 0)) v3 v3 fun r hr => ⟨_, _, fun _ _ _ _ _ => gd_name 1 nd, by decide, fun _ _ _ _ _ => tsd_one (td_ne (i := r.get p) (j := 0) (pd_ixL p (pd_var 1) (pd_var 4) (get3 _ hp3)) pd_int), fun e _ _ _ _ _ => PD.to (pd_var 1) (by rw [if_pos e]; rfl)⟩) (by rw [List.length_map]; omega))) pd_int, fun hb => ?_, fun hb => ?_⟩
      · have hn : ¬ AtMost p LL := fun z => by
          rw [atMost_iff] at z
          have := of_decide_eq_true hb
          rw [List.length_map] at this
          omega
        refine bd_setR 2 nd (pr_at cl (hr.mono (by decide)) (⟨LL, p, hp3, st.some, fun r hr j => pow_le (by omega) (ent_pow st r hr j), fun r hr => pow_le (by omega) (st.lead r hr), hlen⟩ : ALowd) (ad_cons (pd_var 2) (ad_cons (pd_var 4) ad_nil))) fun d hd => ?_
        obtain ⟨L', o, O, low, rfl⟩ := hd
        obtain ⟨m', hm, st'⟩ := st.next hn low
        exact bd_nil ⟨m', hm, L', rfl, st'⟩
      · refine ⟨LL, m, rfl, st, ?_⟩
        rw [atMost_iff]
        have := of_decide_eq_false hb
        rw [List.length_map] at this
        omega
    · obtain ⟨LL, m, rfl, st, am⟩ := h
      have hlen : LL.length ≤ 1000 := Nat.le_trans st.len pl.len
      obtain ⟨u, sp⟩ := stepped st.some am
      generalize hv : (if 0 < u.get p then u else u.flip) = v at sp
      have hpos := sp.pos
      have pl' := pl.next s0 hp3 st sp
      refine bd_set 5 nd (d := v3 u) (pd_ixL 0 (PD.to (pd_lc [("row", 1)] (blkOk_by (N := nBaseForm) (sc := defScope sBaseForm) (by decide +kernel)) nd (id_lst (pd_var 2))
        (comp_some LL (fun r => !decide (r.get p = 0)) v3 v3 fun r hr => ⟨_, _, fun _ _ _ _ _ => gd_name 1 nd, by decide, fun _ _ _ _ _ => tsd_one (td_ne (i := r.get p) (j := 0) (pd_ixL p (pd_var 1) (pd_var 4) (get3 _ hp3)) pd_int), fun e _ _ _ _ _ => PD.to (pd_var 1) (by rw [if_pos e]; rfl)⟩) (by rw [List.length_map]; omega))
        (show _ = D.lst [v3 u] from by
          have e : (fun r : V3 => !decide (r.get p = 0)) = fun r => decide (r.get p ≠ 0) := by
            funext r
            simp
          rw [e, sp.eq]
          rfl)) pd_int rfl) ?_
      refine bd_setLc 2 [("row", 1)] (ys := (LL.filter fun r => decide (r.get p = 0)).map v3) (blkOk_by (N := nBaseForm) (sc := defScope sBaseForm) (by decide +kernel)) nd (id_lst (pd_var 2))
        (comp_some LL (fun r => decide (r.get p = 0)) v3 v3 fun r hr => ⟨_, _, fun _ _ _ _ _ => gd_name 1 nd, by decide, fun _ _ _ _ _ => tsd_one (td_eq (i := r.get p) (j := 0) (pd_ixL p (pd_var 1) (pd_var 4) (get3 _ hp3)) pd_int), fun e _ _ _ _ _ => PD.to (pd_var 1) (by rw [if_pos e]; rfl)⟩) (by rw [List.length_map]; omega) ?_ (sw_true rfl rfl rfl (by decide +kernel))
      refine bd_set 5 nd (d := v3 v) (pd_if (td_gt (i := u.get p) (j := 0) (pd_ixL p (pd_var 5) (pd_var 4) (get3 _ hp3)) pd_int) (fun e => PD.to (pd_var 5) (by rw [← hv, if_pos (of_decide_eq_true e)]; rfl)) (fun e => PD.to
        (pd_lc [("part", 6)] (blkOk_by (N := nBaseForm) (sc := defScope sBaseForm) (by decide +kernel)) nd (id_lst (pd_var 5))
          (comp_all [u.x, u.y, u.z] D.int (fun n => .int (-n)) fun n hn => ⟨_, _, fun _ _ _ _ _ => gd_name 6 nd, by decide, fun _ _ _ _ _ => tsd_nil, fun _ _ _ _ _ _ => pd_neg (pd_var 6)⟩) (Nat.le_of_ble_eq_true rfl)) (by rw [← hv, if_neg (of_decide_eq_false e)]; rfl))) ?_
      have hbl : bs.length ≤ 3 := shape_len hp3 pl.shape
      have entS : ∀ j, (v.get j).natAbs ≤ 2 ^ (6 * e1 + 4) := fun j => by
        rw [sp.abs]
        exact ent_pow st u sp.mem.1 j
      have leadS : (v.get p).natAbs ≤ 2 ^ e1 := by
        rw [sp.abs]
        exact st.lead u sp.mem.1
      refine bd_set 3 nd (d := .lst ((bs.map (red p v) ++ [v]).map v3)) (PD.to (pd_cat (xs := bs.map fun r => v3 (red p v r)) (ys := [v3 v])
        (pd_lc [("row", 1)] (blkOk_by (N := nBaseForm) (sc := defScope sBaseForm) (by decide +kernel)) nd (id_lst (pd_var 3))
          (comp_all bs v3 (fun r => v3 (red p v r)) fun r hr1 => ⟨_, _, fun _ _ _ _ _ => gd_name 1 nd, by decide, fun _ _ _ _ _ => tsd_nil, fun _ _ _ _ _ _ =>
            pd_at cw (hr.mono (by decide)) (⟨r, v, (r.get p).fdiv (v.get p), fun j => mulOk (Nat.le_trans (fdiv_abs _ (by omega)) (pl.entB r hr1 p)) (entS j) (by omega)⟩ : AWithout) (ad_cons (pd_var 1) (ad_cons (pd_var 5) (ad_cons (pd_fdiv (i := r.get p) (j := v.get p) (pd_ixL p (pd_var 1) (pd_var 4) (get3 _ hp3)) (pd_ixL p (pd_var 5) (pd_var 4) (get3 _ hp3)) (divOk (by omega) leadS (by omega))) ad_nil)))⟩) (by rw [List.length_map]; omega))
        (pd_lst (ad_cons (pd_var 5) ad_nil) (Nat.le_of_ble_eq_true rfl)) (by rw [List.length_map]; show bs.length + 1 ≤ _; omega)) (by rw [List.map_append, List.map_map]; rfl)) ?_
      exact bd_nil ⟨_, _, _, _, rfl, pl'⟩
  · obtain ⟨bs, left, z4, z5, rfl, pl⟩ := hJ
    obtain ⟨m, rfl, hm, sq⟩ := pl.done
    refine bd_ret (pd_tupL T.tuple (pd_lc [("row", 1)] (blkOk_by (N := nBaseForm) (sc := defScope sBaseForm) (by decide +kernel)) nd (id_lst (pd_var 3))
      (comp_all m.rows v3 t3 fun r hr => ⟨_, _, fun _ _ _ _ _ => gd_name 1 nd, by decide, fun _ _ _ _ _ => tsd_nil, fun _ _ _ _ _ _ => pd_tupL T.tuple (pd_var 1)⟩) (Nat.le_of_ble_eq_true rfl))) ⟨m, hm, sq, rfl⟩
end
end Tp
end

section
set_option Elab.async false
set_option linter.all false
set_option autoImplicit false
set_option maxRecDepth 100000
set_option maxHeartbeats 4000000
namespace Tp
open PySem L2 Evl Pd
abbrev sTurnedRound : Stmt := topS 28
abbrev sCommonBase : Stmt := topS 30
abbrev sCommonIndex : Stmt := topS 31
abbrev sIsCommon : Stmt := topS 32
abbrev nTurnedRound : List Str := ["base", "size", "a", "b", "c", "_", "d", "e", "f", "whole", "rows", "row", "part"]
abbrev nCommonBase : List Str := ["turns", "size", "turn", "rows", "own", "others", "row", "part"]
abbrev nCommonIndex : List Str := ["turns"]
abbrev nIsCommon : List Str := ["turns", "point", "size", "rows", "row", "part", "far"]
theorem sc_turned_round : FnScope nTurnedRound ["base", "size"] (defScope sTurnedRound) := ⟨rfl, rfl, rfl, by decide +kernel, rfl, by decide +kernel, by decide +kernel⟩
theorem sc_common_base : FnScope nCommonBase ["turns"] (defScope sCommonBase) := ⟨rfl, rfl, rfl, by decide +kernel, rfl, by decide +kernel, by decide +kernel⟩
theorem sc_common_index : FnScope nCommonIndex ["turns"] (defScope sCommonIndex) := ⟨rfl, rfl, rfl, by decide +kernel, rfl, by decide +kernel, by decide +kernel⟩
theorem sc_is_common : FnScope nIsCommon ["turns", "point"] (defScope sIsCommon) := ⟨rfl, rfl, rfl, by decide +kernel, rfl, by decide +kernel, by decide +kernel⟩
theorem hnf_small {B : M3} {e : Nat} (h : Hnf B) (hd : B.det ≤ 2 ^ e) : SmallM e B := by
  have hd' := h.det
  have h1 := h.pa
  have h2 := h.pb
  have h3 := h.pc
  have p12 := Int.mul_pos h1 h2
  have b3 : B.c.z ≤ B.a.x * B.b.y * B.c.z := by
    have := Int.mul_le_mul_of_nonneg_right (show (1 : Int) ≤ B.a.x * B.b.y by omega) (Int.le_of_lt h3)
    omega
  have b12 : B.a.x * B.b.y ≤ B.a.x * B.b.y * B.c.z := by
    have := Int.mul_le_mul_of_nonneg_left (show (1 : Int) ≤ B.c.z by omega) (Int.le_of_lt p12)
    omega
  have b1 : B.a.x ≤ B.a.x * B.b.y := by
    have := Int.mul_le_mul_of_nonneg_left (show (1 : Int) ≤ B.b.y by omega) (Int.le_of_lt h1)
    omega
  have b2 : B.b.y ≤ B.a.x * B.b.y := by
    have := Int.mul_le_mul_of_nonneg_right (show (1 : Int) ≤ B.a.x by omega) (Int.le_of_lt h2)
    omega
  have ay := h.ay
  have az := h.az
  have bz := h.bz
  have bx := h.bx
  have cx := h.cx
  have cy := h.cy
  have hp : ((2 ^ e : Nat) : Int) = (2 : Int) ^ e := by rw [Int.natCast_pow]; rfl
  have hd2 : B.det ≤ ((2 ^ e : Nat) : Int) := by rw [hp]; exact hd
  clear hd hp
  unfold SmallM SmallV
  generalize (2 : Nat) ^ e = N at *
  refine ⟨fun j => ?_, fun j => ?_, fun j => ?_⟩
  · match j with
    | 0 => simp only [V3.get]; omega
    | 1 => simp only [V3.get]; omega
    | n + 2 => simp only [V3.get]; omega
  · match j with
    | 0 => simp only [V3.get]; omega
    | 1 => simp only [V3.get]; omega
    | n + 2 => simp only [V3.get]; omega
  · match j with
    | 0 => simp only [V3.get]; omega
    | 1 => simp only [V3.get]; omega
    | n + 2 => simp only [V3.get]; omega
theorem natMul {a b : Int} {e g : Nat} (ha : a.natAbs ≤ 2 ^ e) (hb : b.natAbs ≤ 2 ^ g) : (a * b).natAbs ≤ 2 ^ (e + g) := by
  rw [Int.natAbs_mul, Nat.pow_add]
  exact Nat.mul_le_mul ha hb
structure ATr where
  B : M3
  s : Int
  M : M3
  s0 : 0 < s
  s90 : s.natAbs ≤ 2 ^ 90
  hb : Hnf B
  small : SmallM 200 B
  dual : Dual s B M
theorem ATr.quot (a : ATr) : vm3 ⟨⟨(a.s * (a.B.b.y * a.B.c.z)).fdiv (a.B.a.x * a.B.b.y * a.B.c.z), (a.s * 0).fdiv (a.B.a.x * a.B.b.y * a.B.c.z), (a.s * 0).fdiv (a.B.a.x * a.B.b.y * a.B.c.z)⟩,
    ⟨(a.s * (-a.B.a.y * a.B.c.z)).fdiv (a.B.a.x * a.B.b.y * a.B.c.z), (a.s * (a.B.a.x * a.B.c.z)).fdiv (a.B.a.x * a.B.b.y * a.B.c.z), (a.s * 0).fdiv (a.B.a.x * a.B.b.y * a.B.c.z)⟩,
    ⟨(a.s * (a.B.a.y * a.B.b.z - a.B.a.z * a.B.b.y)).fdiv (a.B.a.x * a.B.b.y * a.B.c.z), (a.s * (-a.B.a.x * a.B.b.z)).fdiv (a.B.a.x * a.B.b.y * a.B.c.z), (a.s * (a.B.a.x * a.B.b.y)).fdiv (a.B.a.x * a.B.b.y * a.B.c.z)⟩⟩ = vm3 a.M := by
  obtain ⟨q1, q2, q3, q4, q5, q6⟩ := a.dual.quot
  have hw : a.B.a.x * a.B.b.y * a.B.c.z ≠ 0 := by
    have := Int.mul_pos (Int.mul_pos a.hb.pa a.hb.pb) a.hb.pc
    omega
  have k : ∀ n, (n * (a.B.a.x * a.B.b.y * a.B.c.z)).fdiv (a.B.a.x * a.B.b.y * a.B.c.z) = n := fun n => Int.mul_fdiv_cancel _ hw
  rw [q1, q2, q3, q4, q5, q6, Int.mul_zero, Int.zero_fdiv, k, k, k, k, k, k]
  show D.lst [.lst [_, .int 0, .int 0], .lst [_, _, .int 0], _] = _
  rw [show (0 : Int) = a.M.b.z from a.dual.bz.symm]
  show D.lst [.lst [_, .int _, .int _], _, _] = _
  have e1 : a.M.b.z = a.M.a.y := by rw [a.dual.bz, a.dual.ay]
  have e2 : a.M.b.z = a.M.a.z := by rw [a.dual.bz, a.dual.az]
  show vm3 ⟨⟨a.M.a.x, a.M.b.z, a.M.b.z⟩, ⟨a.M.b.x, a.M.b.y, a.M.b.z⟩, ⟨a.M.c.x, a.M.c.y, a.M.c.z⟩⟩ = vm3 ⟨⟨a.M.a.x, a.M.a.y, a.M.a.z⟩, ⟨a.M.b.x, a.M.b.y, a.M.b.z⟩, ⟨a.M.c.x, a.M.c.y, a.M.c.z⟩⟩
  rw [← e1, ← e2]
section
variable {P : Program} {w : World} {K : PySem.W.Frag} {mg : Str → Option Value} {base : Heap}
theorem at_turned_round (T : Tx K mg) (F : FunAt K mg "turned_round" sTurnedRound) : At P w K mg base "turned_round" 1 ["base", "size"] (spOf K (fun a : ATr => [tm3 a.B, .int a.s]) (fun a d => d = vm3 a.M)) := by
  refine at_d F sc_turned_round (fun _ => rfl) (fun _ _ _ _ _ _ us hl => match us, hl with | [_, _], _ => rfl) fun a f cdv A outer s H E hr => ?_
  show BD _ (defBody sTurnedRound) [some (tm3 a.B), some (.int a.s), none, none, none, none, none, none, none, none, none, none, none] _
  have nd := sc_turned_round.nd
  have hq := a.quot
  obtain ⟨⟨⟨xa, xb, xc⟩, ⟨xb1, xd, xe⟩, ⟨xc1, xc2, xf⟩⟩, s, M, s0, s90, hb, sm, dual⟩ := a
  have hw : xa * xd * xf ≠ 0 := by
    have := Int.mul_pos (Int.mul_pos hb.pa hb.pb) hb.pc
    have e : xa * xd * xf > 0 := this
    omega
  have na : xa.natAbs ≤ 2 ^ 200 := sm.1 0
  have nb : xb.natAbs ≤ 2 ^ 200 := sm.1 1
  have nc : xc.natAbs ≤ 2 ^ 200 := sm.1 2
  have n_d : xd.natAbs ≤ 2 ^ 200 := sm.2.1 1
  have ne : xe.natAbs ≤ 2 ^ 200 := sm.2.1 2
  have nf : xf.natAbs ≤ 2 ^ 200 := sm.2.2 2
  have nb' : (-xb).natAbs ≤ 2 ^ 200 := by rw [Int.natAbs_neg]; exact nb
  have na' : (-xa).natAbs ≤ 2 ^ 200 := by rw [Int.natAbs_neg]; exact na
  have ok : ∀ {i j : Int}, i.natAbs ≤ 2 ^ 200 → j.natAbs ≤ 2 ^ 200 → IntMulOk i j := fun a b => mulOk a b (by decide)
  refine bd_tg (pd_var 0) (gd_tup (gds_cons (gd_tup (gds_cons (gd_name 2 nd) (gds_cons (gd_name 3 nd) (gds_cons (gd_name 4 nd) gds_nil)))) (gds_cons (gd_tup (gds_cons (gd_name 5 nd) (gds_cons (gd_name 6 nd) (gds_cons (gd_name 7 nd) gds_nil)))) (gds_cons (gd_tup (gds_cons (gd_name 5 nd) (gds_cons (gd_name 5 nd) (gds_cons (gd_name 8 nd) gds_nil)))) gds_nil)))) ?_
  show BD _ _ [some (tm3 ⟨⟨xa, xb, xc⟩, ⟨xb1, xd, xe⟩, ⟨xc1, xc2, xf⟩⟩), some (.int s), some (.int xa), some (.int xb), some (.int xc), some (.int xc2), some (.int xd), some (.int xe), some (.int xf), none, none, none, none] _
  refine bd_set 9 nd (pd_mul (pd_mul (pd_var 2) (pd_var 6) (ok na n_d)) (pd_var 8) (mulOk (natMul na n_d) nf (by decide))) ?_
  refine bd_set 10 (d := .tup ([⟨xd * xf, 0, 0⟩, ⟨-xb * xf, xa * xf, 0⟩, ⟨xb * xe - xc * xd, -xa * xe, xa * xd⟩].map t3)) nd (pd_tup (ad_cons (pd_tup (ad_cons (pd_mul (pd_var 6) (pd_var 8) (ok n_d nf)) (ad_cons pd_int (ad_cons pd_int ad_nil))) (Nat.le_of_ble_eq_true rfl))
    (ad_cons (pd_tup (ad_cons (pd_mul (pd_neg (pd_var 3)) (pd_var 8) (ok nb' nf)) (ad_cons (pd_mul (pd_var 2) (pd_var 8) (ok na nf)) (ad_cons pd_int ad_nil))) (Nat.le_of_ble_eq_true rfl))
    (ad_cons (pd_tup (ad_cons (pd_sub (pd_mul (pd_var 3) (pd_var 7) (ok nb ne)) (pd_mul (pd_var 4) (pd_var 6) (ok nc n_d))) (ad_cons (pd_mul (pd_neg (pd_var 2)) (pd_var 7) (ok na' ne)) (ad_cons (pd_mul (pd_var 2) (pd_var 6) (ok na n_d)) ad_nil))) (Nat.le_of_ble_eq_true rfl)) ad_nil))) (Nat.le_of_ble_eq_true rfl)) ?_
  have sml : ∀ r ∈ [(⟨xd * xf, 0, 0⟩ : V3), ⟨-xb * xf, xa * xf, 0⟩, ⟨xb * xe - xc * xd, -xa * xe, xa * xd⟩], ∀ n ∈ [r.x, r.y, r.z], n.natAbs ≤ 2 ^ 401 := by
    have up : ∀ {n : Int}, n.natAbs ≤ 2 ^ (200 + 200) → n.natAbs ≤ 2 ^ 401 := fun h => pow_le (by decide) h
    have z : (0 : Int).natAbs ≤ 2 ^ 401 := Nat.zero_le _
    intro r hr n hn
    simp only [List.mem_cons, List.not_mem_nil, or_false] at hr
    rcases hr with rfl | rfl | rfl
    all_goals
      simp only [List.mem_cons, List.not_mem_nil, or_false] at hn
      rcases hn with rfl | rfl | rfl
    · exact up (natMul n_d nf)
    · exact z
    · exact z
    · exact up (natMul nb' nf)
    · exact up (natMul na nf)
    · exact z
    · exact mul2Ok (e := 200) nb ne nc n_d
    · exact up (natMul na' ne)
    · exact up (natMul na n_d)
  have wide : (xa * xd * xf).natAbs ≤ 2 ^ (200 + 200 + 200) := natMul (natMul na n_d) nf
  refine bd_ret (pd_lc [("row", 11)] (blkOk_by (N := nTurnedRound) (sc := defScope sTurnedRound) (by decide +kernel)) nd (id_tup (pd_var 10))
    (comp_all [(⟨xd * xf, 0, 0⟩ : V3), ⟨-xb * xf, xa * xf, 0⟩, ⟨xb * xe - xc * xd, -xa * xe, xa * xd⟩] t3 (fun r => v3 ⟨(s * r.x).fdiv (xa * xd * xf), (s * r.y).fdiv (xa * xd * xf), (s * r.z).fdiv (xa * xd * xf)⟩) fun r hr1 => ⟨_, _, fun _ _ _ _ _ => gd_name 11 nd, by decide, fun _ _ _ _ _ => tsd_nil, fun _ _ _ _ _ _ =>
      pd_lc [("part", 12)] (blkOk_by (N := nTurnedRound) (sc := relS _ (defScope sTurnedRound)) (by decide +kernel)) nd (id_tup (pd_var 11))
        (comp_all [r.x, r.y, r.z] D.int (fun n => .int ((s * n).fdiv (xa * xd * xf))) fun n hn => ⟨_, _, fun _ _ _ _ _ => gd_name 12 nd, by decide, fun _ _ _ _ _ => tsd_nil, fun _ _ _ _ _ _ =>
          pd_fdiv (pd_mul (i := s) (j := n) (pd_var 1) (pd_var 12) (mulOk s90 (sml r hr1 n hn) (by decide))) (pd_var 9) (divOk hw wide (by decide))⟩) (Nat.le_of_ble_eq_true rfl)⟩) (Nat.le_of_ble_eq_true rfl)) ?_
  exact hq
theorem Turn.ent {s : Int} {m : M3} (h : Turn s m) : Ent (2 ^ 90) (gens s m) := by
  have hs := h.s90
  obtain ⟨h1, h2, h3⟩ := h.small
  intro r hr j
  simp only [gens, List.mem_cons, List.not_mem_nil, or_false] at hr
  rcases hr with rfl | rfl | rfl | rfl | rfl | rfl
  · match j with
    | 0 => exact hs
    | 1 => exact Nat.zero_le _
    | _ + 2 => exact Nat.zero_le _
  · match j with
    | 0 => exact Nat.zero_le _
    | 1 => exact hs
    | _ + 2 => exact Nat.zero_le _
  · match j with
    | 0 => exact Nat.zero_le _
    | 1 => exact Nat.zero_le _
    | _ + 2 => exact hs
  · exact h1 j
  · exact h2 j
  · exact h3 j
theorem gens_full (s : Int) (m : M3) : ∀ j, j < 3 → Span (gens s m) (unitv s j) := fun j hj => match j, hj with
  | 0, _ => Span.mem (by simp [gens, unitv])
  | 1, _ => Span.mem (by simp [gens, unitv])
  | 2, _ => Span.mem (by simp [gens, unitv])
theorem dual_full {s : Int} {B M : M3} (hb : Hnf B) (d : Dual s B M) : ∀ j, j < 3 → Span M.rows (unitv s j) := fun j hj => match j, hj with
  | 0, _ => (d.full hb).1
  | 1, _ => (d.full hb).2.1
  | 2, _ => (d.full hb).2.2
theorem dual_ent {s : Int} {B M : M3} (hs : 0 < s) (h86 : s ≤ 2 ^ 86) (hb : Hnf B) (d : Dual s B M) : Ent (2 ^ 90) M.rows := fun r hr j => by
  have := d.small hs hb r hr j
  omega
/-- what common_base answers -/
structure Common (s : Int) (m B : M3) : Prop where
  hnf : Hnf B
  det : B.det = s
  dvd : ∀ r ∈ B.rows, ∀ v ∈ m.rows, s ∣ v.dot r
theorem at_common_base (T : Tx K mg) (F : FunAt K mg "common_base" sCommonBase)
    (cc : At P w K mg base "check_turns" 4 ["turns"] (spOf K (fun a : ATurn => [.lst [turnD a.s a.m]]) (fun a d => d = .non)))
    (cb : At P w K mg base "base_form" 3 ["rows"] (spOf K (fun a : ABase => [.lst (a.L0.map v3)]) (fun a d => ∃ B, Hnf B ∧ SpanEq B.rows a.L0 ∧ d = tm3 B)))
    (ct : At P w K mg base "turned_round" 1 ["base", "size"] (spOf K (fun a : ATr => [tm3 a.B, .int a.s]) (fun a d => d = vm3 a.M))) :
    At P w K mg base "common_base" 5 ["turns"] (spOf K (fun a : ATurn => [.lst [turnD a.s a.m]]) (fun a d => ∃ B, Common a.s a.m B ∧ d = tm3 B)) := by
  refine at_d F sc_common_base (fun _ => rfl) (fun _ _ _ _ _ _ us hl => match us, hl with | [_], _ => rfl) fun a f cdv A outer st H E hr => ?_
  obtain ⟨⟨s, m⟩, h⟩ := a
  have h : Turn s m := h
  have hs := h.rot.pos
  have h86 := h.bits
  have h90 := h.s90
  show BD _ (defBody sCommonBase) [some (.lst [turnD s m]), none, none, none, none, none, none, none] _
  have nd := sc_common_base.nd
  refine bd_expr (pr_at cc (hr.mono (by decide)) (⟨(s, m), h⟩ : ATurn) (ad_cons (pd_var 0) ad_nil)) ?_
  refine bd_set 1 nd pd_int ?_
  refine bd_seq (M := fun δ => δ = [some (.lst [turnD s m]), some (.int s), some (turnD s m), none, none, none, none, none]) (sd_for (xs := [turnD s m]) (id_lst (pd_var 0)) ⟨_, _, gd_name 2 nd,
    bd_set 1 nd (d := .int s) (PD.to (pd_lcm T.lcm (pd_var 1) (pd_ixT 0 (pd_var 2) pd_int rfl) ⟨Nat.one_lt_two_pow (by decide), Nat.lt_of_le_of_lt h90 (Nat.pow_lt_pow_right (by decide) (by decide))⟩) ?_) (bd_nil ?_)⟩) fun δ e => ?_
  · show D.int (((Nat.lcm (1 : Int).natAbs s.natAbs : Nat) : Int)) = D.int s
    rw [show (1 : Int).natAbs = 1 from rfl, Nat.lcm_one_left]
    congr 1
    omega
  · rfl
  rw [e]
  refine bd_newOwn 3 (ds := [(⟨s, 0, 0⟩ : V3), ⟨0, s, 0⟩, ⟨0, 0, s⟩].map v3) nd (ad_cons (pd_lst (ad_cons (pd_var 1) (ad_cons pd_int (ad_cons pd_int ad_nil))) (Nat.le_of_ble_eq_true rfl)) (ad_cons (pd_lst (ad_cons pd_int (ad_cons (pd_var 1) (ad_cons pd_int ad_nil))) (Nat.le_of_ble_eq_true rfl))
    (ad_cons (pd_lst (ad_cons pd_int (ad_cons pd_int (ad_cons (pd_var 1) ad_nil))) (Nat.le_of_ble_eq_true rfl)) ad_nil))) (Nat.le_of_ble_eq_true rfl) (fun j fs z => by
      match j, z with
      | 0, z => cases z
      | 1, z => cases z
      | 2, z => cases z
      | 3, z => cases z
      | 4, z => cases z
      | 5, z => cases z
      | 6, z => cases z
      | 7, z => cases z
      | _ + 8, z => cases z) ?_
  refine bd_seq (M := fun δ => δ = [some (.lst [turnD s m]), some (.int s), some (turnD s m), some (.own ((gens s m).map v3)), some (.int s), some (tm3 m), none, none]) (sd_for (xs := [turnD s m]) (id_lst (pd_var 0)) ⟨_, _, gd_tup (gds_cons (gd_name 4 nd) (gds_cons (gd_name 5 nd) gds_nil)),
    bd_one (sd_extend 3 (ys := [m.a, m.b, m.c].map v3) (PD.to (pd_lc [("row", 6)] (blkOk_by (N := nCommonBase) (sc := defScope sCommonBase) (by decide +kernel)) nd (id_tup (pd_var 5))
      (comp_all [m.a, m.b, m.c] t3 (fun r => v3 ⟨s.fdiv s * r.x, s.fdiv s * r.y, s.fdiv s * r.z⟩) fun r hr1 => ⟨_, _, fun _ _ _ _ _ => gd_name 6 nd, by decide, fun _ _ _ _ _ => tsd_nil, fun _ _ _ _ _ _ =>
        pd_lc [("part", 7)] (blkOk_by (N := nCommonBase) (sc := relS _ (defScope sCommonBase)) (by decide +kernel)) nd (id_tup (pd_var 6))
          (comp_all [r.x, r.y, r.z] D.int (fun n => .int (s.fdiv s * n)) fun n hn => ⟨_, _, fun _ _ _ _ _ => gd_name 7 nd, by decide, fun _ _ _ _ _ => tsd_nil, fun _ _ _ _ _ _ =>
            pd_mul (pd_fdiv (i := s) (j := s) (pd_var 1) (pd_var 4) (divOk (by omega) h90 (by decide))) (pd_var 7) (.of_left (by rw [Int.fdiv_self (by omega)]; decide))⟩) (Nat.le_of_ble_eq_true rfl)⟩) (Nat.le_of_ble_eq_true rfl)) ?_) (Nat.le_of_ble_eq_true rfl) rfl ?_ nd)⟩) fun δ e => ?_
  · show D.lst [v3 ⟨_, _, _⟩, v3 ⟨_, _, _⟩, v3 ⟨_, _, _⟩] = _
    rw [Int.fdiv_self (by omega)]
    simp only [Int.one_mul]
    rfl
  · rfl
  rw [e]
  refine bd_freeze 3 ?_
  show BD _ _ [some (.lst [turnD s m]), some (.int s), some (turnD s m), some (.lst ((gens s m).map v3)), some (.int s), some (tm3 m), none, none] _
  -- base_form(turned_round(base_form(rows), size))
  refine bd_retR (P := fun d => ∃ B, Common s m B ∧ d = tm3 B) (prR_at (Pa := fun ds => ∃ d, (∃ B M, Hnf B ∧ SpanEq B.rows (gens s m) ∧ Dual s B M ∧ d = vm3 M) ∧ ds = [d]) cb (hr.mono (by decide))
    (ar_cons (P1 := fun d => ∃ B M, Hnf B ∧ SpanEq B.rows (gens s m) ∧ Dual s B M ∧ d = vm3 M) (P2 := fun z => z = [])
      (prR_at (Pa := fun ds => ∃ d, (∃ B, Hnf B ∧ SpanEq B.rows (gens s m) ∧ d = tm3 B) ∧ ds = [d, .int s]) ct (hr.mono (by decide))
        (ar_cons (P1 := fun d => ∃ B, Hnf B ∧ SpanEq B.rows (gens s m) ∧ d = tm3 B) (P2 := fun z => z = [D.int s]) (PR.weak (pr_at cb (hr.mono (by decide)) (⟨gens s m, s, by omega, gens_full s m, h.ent, by show 6 ≤ 1000; decide⟩ : ABase) (ad_cons (pd_var 3) ad_nil)) fun d q => q) (ad_cons (pd_var 1) ad_nil) fun d ds p q => ⟨d, p, by rw [q]⟩)
        ?_) ad_nil fun d ds p q => ⟨d, p, by rw [q]⟩) ?_) fun d hd => hd
  · rintro ds ⟨d, ⟨B, hb, sq, rfl⟩, rfl⟩
    obtain ⟨M, dual⟩ := dual_ex hb ((sq _).mpr (gens_full s m 0 (by decide))) ((sq _).mpr (gens_full s m 1 (by decide))) ((sq _).mpr (gens_full s m 2 (by decide)))
    have hdet := base_index h.rot h.low hb sq
    have hsm : SmallM 200 B := hnf_small hb (by
      rw [hdet]
      have h1 : s * s ≤ 2 ^ 86 * 2 ^ 86 := Int.mul_le_mul h86 h86 (by omega) (by decide)
      exact Int.le_trans h1 (by decide))
    exact ⟨⟨B, s, M, hs, h90, hb, hsm, dual⟩, rfl, fun z q => ⟨B, M, hb, sq, dual, q⟩⟩
  · rintro ds ⟨d, ⟨B, M, hb, sq, dual, rfl⟩, rfl⟩
    have hdet := base_index h.rot h.low hb sq
    refine ⟨⟨M.rows, s, by omega, dual_full hb dual, dual_ent hs h86 hb dual, by show 3 ≤ 1000; decide⟩, rfl, ?_⟩
    rintro z ⟨B2, hb2, sq2, rfl⟩
    obtain ⟨h1, h2⟩ := dual_base hs hb dual hdet hb2 sq2
    exact ⟨B2, ⟨hb2, h1, fun r hr v hv => h2 r hr v ((sq v).mpr (Span.mem (by
      simp only [M3.rows, List.mem_cons, List.not_mem_nil, or_false] at hv
      rcases hv with rfl | rfl | rfl <;> simp [gens])))⟩, rfl⟩
theorem Common.small {s : Int} {m B : M3} (h : Turn s m) (c : Common s m B) : SmallM 90 B := hnf_small c.hnf (by
  rw [c.det]
  exact Int.le_trans h.bits (by decide))
theorem at_common_index (T : Tx K mg) (F : FunAt K mg "common_index" sCommonIndex)
    (cb : At P w K mg base "common_base" 5 ["turns"] (spOf K (fun a : ATurn => [.lst [turnD a.s a.m]]) (fun a d => ∃ B, Common a.s a.m B ∧ d = tm3 B)))
    (cd : At P w K mg base "determinant" 1 ["rows"] (spOf K (fun m : AMat => [tm3 m.1]) (fun m d => d = .int m.1.det))) :
    At P w K mg base "common_index" 6 ["turns"] (spOf K (fun a : ATurn => [.lst [turnD a.s a.m]]) (fun a d => d = .int a.s)) := by
  refine at_d F sc_common_index (fun _ => rfl) (fun _ _ _ _ _ _ us hl => match us, hl with | [_], _ => rfl) fun a f cdv A outer st H E hr => ?_
  obtain ⟨⟨s, m⟩, h⟩ := a
  have h : Turn s m := h
  have hs := h.rot.pos
  show BD _ (defBody sCommonIndex) [some (.lst [turnD s m])] _
  refine bd_ret (pd_abs (i := s) T.abs (prR_at (Pa := fun ds => ∃ d, (∃ B, Common s m B ∧ d = tm3 B) ∧ ds = [d]) (Po := fun d => d = .int s) cd (hr.mono (by decide))
    (ar_cons (P1 := fun d => ∃ B, Common s m B ∧ d = tm3 B) (P2 := fun z => z = []) (PR.weak (pr_at cb (hr.mono (by decide)) (⟨(s, m), h⟩ : ATurn) (ad_cons (pd_var 0) ad_nil)) fun d q => q) ad_nil fun d ds p q => ⟨d, p, by rw [q]⟩) ?_)) ?_
  · rintro ds ⟨d, ⟨B, c, rfl⟩, rfl⟩
    exact ⟨⟨B, (c.small h).mono (by decide)⟩, rfl, fun z q => by rw [q, c.det]⟩
  · show D.int (if s < 0 then -s else s) = D.int s
    rw [if_neg (by omega)]
structure AIsC where
  s : Int
  m : M3
  h : Turn s m
  r : V3
  small : SmallV 90 r
  dvd : ∀ v ∈ m.rows, s ∣ v.dot r
theorem at_is_common (T : Tx K mg) (F : FunAt K mg "is_common" sIsCommon)
    (cc : At P w K mg base "check_turns" 4 ["turns"] (spOf K (fun a : ATurn => [.lst [turnD a.s a.m]]) (fun a d => d = .non)))
    (c3 : At P w K mg base "is_row" 1 ["row", "many"] (spOf K (fun v : V3 => [t3 v, .int 3]) (fun v d => d = .bl true))) :
    At P w K mg base "is_common" 5 ["turns", "point"] (spOf K (fun a : AIsC => [.lst [turnD a.s a.m], t3 a.r]) (fun a d => d = .bl true)) := by
  refine at_d F sc_is_common (fun _ => rfl) (fun _ _ _ _ _ _ us hl => match us, hl with | [_, _], _ => rfl) fun a f cdv A outer st H E hr => ?_
  obtain ⟨s, m, h, r, small, dvd⟩ := a
  have hs := h.rot.pos
  have hm := h.small
  show BD _ (defBody sIsCommon) [some (.lst [turnD s m]), some (t3 r), none, none, none, none, none] _
  have nd := sc_is_common.nd
  refine bd_expr (pr_at cc (hr.mono (by decide)) (⟨(s, m), h⟩ : ATurn) (ad_cons (pd_var 0) ad_nil)) ?_
  refine bd_skip (td_not (k := true) (td_val (pd_at c3 (hr.mono (by decide)) r (ad_cons (pd_var 1) (ad_cons pd_int ad_nil))))) ?_
  refine bd_seq (M := fun δ => True) (sd_for (xs := [turnD s m]) (id_lst (pd_var 0)) ⟨_, _, gd_tup (gds_cons (gd_name 2 nd) (gds_cons (gd_name 3 nd) gds_nil)), bd_skip (td_val (PD.to (pd_any (l := [false, false, false]) T.any
    (pd_lc [("row", 4)] (blkOk_by (N := nIsCommon) (sc := defScope sIsCommon) (by decide +kernel)) nd (id_tup (pd_var 3))
      (comp_all [m.a, m.b, m.c] t3 (fun _ => .bl false) fun v hv => ⟨_, _, fun _ _ _ _ _ => gd_name 4 nd, by decide, fun _ _ _ _ _ => tsd_nil, fun _ _ _ _ _ _ =>
        PD.to (pd_ne (i := ([v.x * r.x, v.y * r.y, v.z * r.z].sum).fmod s) (j := 0) (pd_mod (i := [v.x * r.x, v.y * r.y, v.z * r.z].sum) (j := s) (pd_sum T.sum
          (pd_lc [("part", 5), ("far", 6)] (blkOk_by (N := nIsCommon) (sc := relS _ (defScope sIsCommon)) (by decide +kernel)) nd (id_zipT T.zip (pd_var 4) (pd_var 1))
            (comp_all [(v.x, r.x), (v.y, r.y), (v.z, r.z)] (fun i => .tup [.int i.1, .int i.2]) (fun i => .int (i.1 * i.2)) fun i hi => ⟨_, _, fun _ _ _ _ _ => gd_tup (gds_cons (gd_name 5 nd) (gds_cons (gd_name 6 nd) gds_nil)), by decide, fun _ _ _ _ _ => tsd_nil, fun _ _ _ _ _ _ => pd_mul (pd_var 5) (pd_var 6) ?_⟩) (Nat.le_of_ble_eq_true rfl))) (pd_var 2) (by omega)) pd_int) ?_⟩) (Nat.le_of_ble_eq_true rfl))) (by rfl))) (bd_nil trivial)⟩) fun δ _ => ?_
  · have hv90 : SmallV 90 v := by
      simp only [List.mem_cons, List.not_mem_nil, or_false] at hv
      rcases hv with rfl | rfl | rfl
      · exact hm.1
      · exact hm.2.1
      · exact hm.2.2
    simp only [List.mem_cons, List.not_mem_nil, or_false] at hi
    rcases hi with rfl | rfl | rfl
    · exact mulOk (hv90 0) (small 0) (by decide)
    · exact mulOk (hv90 1) (small 1) (by decide)
    · exact mulOk (hv90 2) (small 2) (by decide)
  · have e : ([v.x * r.x, v.y * r.y, v.z * r.z].sum).fmod s = 0 := by
      rw [sum3]
      exact Int.fmod_eq_zero_of_dvd (dvd v hv)
    rw [e]
    rfl
  · exact bd_ret pd_bl rfl
end
end Tp
end

section
set_option Elab.async false
set_option linter.all false
set_option autoImplicit false
set_option maxRecDepth 100000
set_option maxHeartbeats 4000000
namespace Tp
open PySem L2 Evl Pd
abbrev sLRow : Stmt := topS 34
abbrev sLNumbers : Stmt := topS 35
abbrev sLNumber : Stmt := topS 36
abbrev sLGreat : Stmt := topS 37
abbrev sLDrawn : Stmt := topS 38
abbrev nLRow : List Str := ["_law_cell", "_law_many", "_law_row_here", "_law_rest", "_law_mixed", "_law_k"]
abbrev nLNumbers : List Str := ["_law_script", "_law_many", "_law_cells", "_law_each", "_law_numbers_here", "_law_cell", "_law_number_here"]
abbrev nLNumber : List Str := ["_law_numbers_here", "_law_at", "_law_most", "_law_odd", "_law_k", "_law_parts"]
abbrev nLGreat : List Str := ["_law_numbers_here", "_law_at", "_law_parts", "_law_k", "_law_value", "_law_j"]
abbrev nLDrawn : List Str := ["_law_numbers_here", "_law_at", "_law_kind", "_law_given"]
theorem sc_lrow : FnScope nLRow ["_law_cell", "_law_many"] (defScope sLRow) := ⟨rfl, rfl, rfl, by decide +kernel, rfl, by decide +kernel, by decide +kernel⟩
theorem sc_lnumbers : FnScope nLNumbers ["_law_script", "_law_many"] (defScope sLNumbers) := ⟨rfl, rfl, rfl, by decide +kernel, rfl, by decide +kernel, by decide +kernel⟩
theorem sc_lnumber : FnScope nLNumber ["_law_numbers_here", "_law_at", "_law_most"] (defScope sLNumber) := ⟨rfl, rfl, rfl, by decide +kernel, rfl, by decide +kernel, by decide +kernel⟩
theorem sc_lgreat : FnScope nLGreat ["_law_numbers_here", "_law_at"] (defScope sLGreat) := ⟨rfl, rfl, rfl, by decide +kernel, rfl, by decide +kernel, by decide +kernel⟩
theorem sc_ldrawn : FnScope nLDrawn ["_law_numbers_here", "_law_at"] (defScope sLDrawn) := ⟨rfl, rfl, rfl, by decide +kernel, rfl, by decide +kernel, by decide +kernel⟩
def Dig (l : List Int) : Prop := ∀ n ∈ l, 0 ≤ n ∧ n < 1009
theorem Dig.snoc {l : List Int} (h : Dig l) {n : Int} (h1 : 0 ≤ n ∧ n < 1009) : Dig (l ++ [n]) := fun m hm => by
  rcases List.mem_append.mp hm with hm | hm
  · exact h m hm
  · have e : m = n := by simpa using hm
    rw [e]
    exact h1
theorem dig_mod (n : Int) : 0 ≤ n.fmod 1009 ∧ n.fmod 1009 < 1009 := ⟨Int.fmod_nonneg_of_pos n (by decide), Int.fmod_lt_of_pos n (by decide)⟩
theorem map_snoc (l : List Int) (n : Int) : l.map D.int ++ [D.int n] = (l ++ [n]).map D.int := by rw [List.map_append]; rfl
section
variable {P : Program} {w : World} {K : PySem.W.Frag} {mg : Str → Option Value} {base : Heap}
structure ALRow where
  c : Int
  many : Nat
  small : many ≤ 1000
theorem at_lrow (T : Tx K mg) (F : FunAt K mg "_law_row" sLRow) : At P w K mg base "_law_row" 1 ["_law_cell", "_law_many"] (spOf K (fun a : ALRow => [.int a.c, .int (a.many : Int)]) (fun a d => ∃ l : List Int, Dig l ∧ l.length = a.many ∧ d = .lst (l.map D.int))) := by
  refine at_d F sc_lrow (fun _ => rfl) (fun _ _ _ _ _ _ us hl => match us, hl with | [_, _], _ => rfl) fun a f cdv A outer st H E hr => ?_
  obtain ⟨c, many, small⟩ := a
  show BD _ (defBody sLRow) [some (.int c), some (.int (many : Int)), none, none, none, none] _
  have nd := sc_lrow.nd
  have r16 : ∀ n : Int, IntMulOk n 48271 ∧ IntMulOk n 16807 ∧ IntMulOk 271 n := fun n => ⟨.of_right (by decide), .of_right (by decide), .of_left (by decide)⟩
  refine bd_newOwn 2 (ds := ([] : List Int).map D.int) nd ad_nil (Nat.zero_le _) (noOwn rfl) ?_
  refine bd_set 3 nd (pd_abs T.abs (pd_var 0)) ?_
  refine bd_set 4 nd (pd_mod (pd_intI T.int (pd_add (pd_mul (pd_var 3) pd_int (r16 _).1) pd_int)) pd_int (by decide)) ?_
  refine bd_seq (M := fun δ => ∃ (rest mixed : Int) (l : List Int) (z : Option D), δ = [some (.int c), some (.int (many : Int)), some (.own (l.map D.int)), some (.int rest), some (.int mixed), z] ∧ Dig l ∧ l.length = many)
    (sd_for (id_range T.range (pd_var 1) (by omega)) (forD_map (l := List.range many) (f := fun i : Nat => D.int i)
      (fun pre _ δ => ∃ (rest mixed : Int) (l : List Int) (z : Option D), δ = [some (.int c), some (.int (many : Int)), some (.own (l.map D.int)), some (.int rest), some (.int mixed), z] ∧ Dig l ∧ l.length = pre.length)
      ⟨_, _, [], none, rfl, fun n hn => (by cases hn), rfl⟩ (fun pre i post δ e hJ => ?_) fun δ ⟨rest, mixed, l, z, h1, h2, h3⟩ => ⟨rest, mixed, l, z, h1, h2, by rw [h3, List.length_range]⟩)) fun δ hJ => ?_
  · obtain ⟨rest, mixed, l, z, rfl, hl, hlen⟩ := hJ
    have hpre : pre.length < many := by
      have := congrArg List.length e
      rw [List.length_range, List.length_append, List.length_cons] at this
      omega
    refine ⟨_, _, gd_name 5 nd, ?_⟩
    refine bd_set 4 nd (pd_mod (pd_intI T.int (pd_add (pd_mul (pd_var 4) pd_int (r16 _).2.1) (pd_mul pd_int (pd_add (pd_var 5) pd_int) (r16 _).2.2))) pd_int (by decide)) ?_
    refine bd_one (sd_if (td_ge (pd_abs T.abs (pd_var 0)) (pd_pow pd_int pd_int ⟨by decide, by decide⟩)) (fun _ => ?_) fun _ => ?_)
    · refine bd_seq (M := fun δ => δ = [some (.int c), some (.int (many : Int)), some (.own ((l ++ [rest.fmod 1009]).map D.int)), some (.int rest), _, some (.int (i : Int))]) (sd_app 2 (ds := l.map D.int) (d := .int (rest.fmod 1009)) (pd_mod (pd_intI T.int (pd_var 3)) pd_int (by decide)) (by rw [List.length_map]; omega) rfl (by rw [← map_snoc]; rfl)) fun δ e => ?_
      rw [e]
      exact bd_set 3 nd (pd_fdiv (pd_var 3) pd_int (divOk (b := 10) (by decide) (by decide) (by decide))) (bd_nil ⟨_, _, _, _, rfl, hl.snoc (dig_mod _), by rw [List.length_append, List.length_append, hlen]; rfl⟩)
    · exact bd_one (sd_app 2 (ds := l.map D.int) (pd_mod (pd_intI T.int (pd_fdiv (pd_var 4) pd_int (divOk (b := 10) (by decide) (by decide) (by decide)))) pd_int (by decide)) (by rw [List.length_map]; omega) rfl ⟨_, _, _, _, (by rw [map_snoc]; rfl), hl.snoc (dig_mod _), by rw [List.length_append, List.length_append, hlen]; rfl⟩)
  · obtain ⟨rest, mixed, l, z, rfl, hl, hlen⟩ := hJ
    exact bd_freeze 2 (bd_ret (pd_var 2) ⟨l, hl, hlen, rfl⟩)
theorem at_lnumbers (T : Tx K mg) (F : FunAt K mg "_law_numbers" sLNumbers)
    (cr : At P w K mg base "_law_row" 1 ["_law_cell", "_law_many"] (spOf K (fun a : ALRow => [.int a.c, .int (a.many : Int)]) (fun a d => ∃ l : List Int, Dig l ∧ l.length = a.many ∧ d = .lst (l.map D.int)))) :
    At P w K mg base "_law_numbers" 2 ["_law_script", "_law_many"] (spOf K (fun ns : List Int => [.scr ns, .int 40]) (fun _ d => ∃ l : List Int, Dig l ∧ l.length = 40 ∧ d = .lst (l.map D.int))) := by
  refine at_d F sc_lnumbers (fun _ => rfl) (fun _ _ _ _ _ _ us hl => match us, hl with | [_, _], _ => rfl) fun ns f cdv A outer st H E hr => ?_
  show BD _ (defBody sLNumbers) [some (.scr ns), some (.int 40), none, none, none, none, none] _
  have nd := sc_lnumbers.nd
  refine bd_set 2 nd (pd_cutS 63 (pd_var 0) pd_int) ?_
  have hcl : (ns.take 63).length ≤ 63 := by rw [List.length_take]; omega
  generalize ns.take 63 = cs at hcl
  obtain ⟨each, heach, he40⟩ : ∃ each : Nat, (1 + (40 : Int).fdiv (if ((cs.map D.int).length : Int) > 1 then ((cs.map D.int).length : Int) else 1)) = (each : Int) ∧ each ≤ 41 := by
    rw [List.length_map]
    split
    · have h1 := fdiv_abs 40 (b := (cs.length : Int)) (by omega)
      have h2 : 0 ≤ (40 : Int).fdiv (cs.length : Int) := Int.fdiv_nonneg (by decide) (by omega)
      exact ⟨(1 + (40 : Int).fdiv (cs.length : Int)).toNat, by omega, by omega⟩
    · exact ⟨41, rfl, by decide⟩
  refine bd_set 3 (d := .int (each : Int)) nd (PD.to (pd_add pd_int (pd_fdiv (pd_var 1) (pd_max2 (i := 1) (j := ((cs.map D.int).length : Int)) T.max pd_int (pd_lenL T.len (pd_var 2))) (divOk (b := 10) (by split <;> omega) (by rw [List.length_map]; split <;> omega) (by decide)))) (by rw [← heach])) ?_
  refine bd_newOwn 4 (ds := ([] : List Int).map D.int) nd ad_nil (Nat.zero_le _) (noOwn rfl) ?_
  refine bd_seq (M := fun δ => ∃ (l : List Int) (z y : Option D), δ = [some (.scr ns), some (.int 40), some (.lst (cs.map D.int)), some (.int (each : Int)), some (.own (l.map D.int)), z, y] ∧ Dig l ∧ l.length ≤ 41 * cs.length)
    (sd_for (id_lst (pd_var 2)) (forD_map (l := cs) (f := D.int)
      (fun pre _ δ => ∃ (l : List Int) (z y : Option D), δ = [some (.scr ns), some (.int 40), some (.lst (cs.map D.int)), some (.int (each : Int)), some (.own (l.map D.int)), z, y] ∧ Dig l ∧ l.length ≤ 41 * pre.length)
      ⟨[], none, none, rfl, fun n hn => (by cases hn), Nat.zero_le _⟩ (fun pre c post δ e hJ => ?_) fun δ h => h)) fun δ hJ => ?_
  · obtain ⟨l, z, y, rfl, hl, hlen⟩ := hJ
    have hpre : pre.length < 63 := by
      have := congrArg List.length e
      rw [List.length_append, List.length_cons] at this
      omega
    refine ⟨_, _, gd_name 5 nd, bd_one (sd_forR (P := fun d => ∃ r : List Int, Dig r ∧ r.length = each ∧ d = .lst (r.map D.int)) (PR.weak (pr_at cr (hr.mono (by decide)) (⟨c, each, by omega⟩ : ALRow) (ad_cons (pd_var 5) (ad_cons (pd_var 3) ad_nil))) fun d q => q) (fun d ⟨r, _, _, q⟩ => ⟨_, q⟩) fun xs ⟨r, hrd, hrl, q⟩ => ?_)⟩
    cases q
    refine forD_map (l := r) (f := D.int)
      (fun pr _ δ => ∃ (l : List Int) (y : Option D), δ = [some (.scr ns), some (.int 40), some (.lst (cs.map D.int)), some (.int (each : Int)), some (.own (l.map D.int)), some (.int c), y] ∧ Dig l ∧ l.length ≤ 41 * pre.length + pr.length)
      ⟨l, y, rfl, hl, hlen⟩ (fun pr n po δ e2 hJ => ?_) fun δ ⟨l, y, h1, h2, h3⟩ => ⟨l, _, y, h1, h2, by rw [List.length_append, List.length_singleton]; omega⟩
    obtain ⟨l2, y2, rfl, hl2, hlen2⟩ := hJ
    have hn : n ∈ r := by rw [e2]; simp
    have hpr : pr.length < each := by
      have := congrArg List.length e2
      rw [List.length_append, List.length_cons] at this
      omega
    exact ⟨_, _, gd_name 6 nd, bd_one (sd_app 4 (ds := l2.map D.int) (pd_var 6) (by rw [List.length_map]; omega) rfl ⟨l2 ++ [n], _, (by rw [← map_snoc]; rfl), hl2.snoc (hrd n hn), by rw [List.length_append, List.length_append, List.length_singleton]; omega⟩)⟩
  · obtain ⟨l, z, y, rfl, hl, hlen⟩ := hJ
    refine bd_seq (M := fun δ => ∃ (l : List Int), δ = [some (.scr ns), some (.int 40), some (.lst (cs.map D.int)), some (.int (each : Int)), some (.own (l.map D.int)), z, y] ∧ Dig l ∧ 40 ≤ l.length)
      (sd_while (fun m δ => ∃ (l : List Int), δ = [some (.scr ns), some (.int 40), some (.lst (cs.map D.int)), some (.int (each : Int)), some (.own (l.map D.int)), z, y] ∧ Dig l ∧ m = 40 - l.length) (40 - l.length) ⟨l, rfl, hl, rfl⟩ fun m δ h => ?_) fun δ h => ?_
    · obtain ⟨l2, rfl, hl2, em⟩ := h
      refine ⟨_, _, .inr ⟨4, l2.map D.int, rfl, rfl⟩, td_lt (i := ((l2.map D.int).length : Int)) (j := 40) (pd_lenL T.len (pd_var 4)) (pd_var 1), fun hb => ?_, fun hb => ?_⟩
      · have hb := of_decide_eq_true hb
        rw [List.length_map] at hb
        exact bd_one (sd_app 4 (ds := l2.map D.int) pd_int (by rw [List.length_map]; omega) rfl ⟨40 - (l2.length + 1), by omega, l2 ++ [0], (by rw [← map_snoc]; rfl), hl2.snoc (by decide), by rw [List.length_append]; rfl⟩)
      · have hb := of_decide_eq_false hb
        rw [List.length_map] at hb
        exact ⟨l2, rfl, hl2, by omega⟩
    · obtain ⟨l2, rfl, hl2, h40⟩ := h
      refine bd_freeze 4 (bd_ret (pd_cutL 40 (pd_var 4) (pd_var 1)) ⟨l2.take 40, fun n hn => hl2 n (List.mem_of_mem_take hn), by rw [List.length_take]; omega, by rw [List.map_take]⟩)
theorem getI {l : List Int} {i : Nat} (h : i < l.length) : (l.map D.int)[i]? = some (.int (l.getD i 0)) := by
  rw [List.getElem?_map, List.getElem?_eq_getElem h, List.getD_eq_getElem?_getD, List.getElem?_eq_getElem h]
  rfl
theorem Dig.get {l : List Int} (h : Dig l) (i : Nat) : 0 ≤ l.getD i 0 ∧ l.getD i 0 < 1009 := by
  rw [List.getD_eq_getElem?_getD]
  cases e : l[i]? with
  | none => exact ⟨Int.le_refl _, by decide⟩
  | some n => exact h n (List.mem_of_getElem? e)
theorem fmod2 (n : Int) : n.fmod 2 = 0 ∨ n.fmod 2 = 1 := by
  have := Int.fmod_nonneg_of_pos n (show (0 : Int) < 2 by decide)
  have := Int.fmod_lt_of_pos n (show (0 : Int) < 2 by decide)
  omega
theorem odd_of {n o : Int} (h : o = 0 ∨ o = 1) : (2 * n + o).fmod 2 = o := by
  rw [Int.fmod_eq_emod_of_nonneg _ (by decide)]
  omega
/-- numbers that are drawn -/
theorem num_of {a b c d o : Int} (h : o = 0 ∨ o = 1) (hs : ∀ n ∈ [a, b, c, d], n.natAbs ≤ 2 ^ 40) (hne : ¬ [2 * a + o, 2 * b + o, 2 * c + o, 2 * d + o] = [0, 0, 0, 0]) : Num ⟨2 * a + o, 2 * b + o, 2 * c + o, 2 * d + o⟩ := by
  refine ⟨⟨o, fun n hn => ?_⟩, fun z => hne ?_, fun n hn => ?_⟩
  · simp only [Q4.list, List.mem_cons, List.not_mem_nil, or_false] at hn
    rcases hn with rfl | rfl | rfl | rfl <;> exact odd_of h
  · exact congrArg Q4.list z
  · simp only [Q4.list, List.mem_cons, List.not_mem_nil, or_false] at hn
    have ha := hs a (by simp)
    have hb := hs b (by simp)
    have hc := hs c (by simp)
    have hd := hs d (by simp)
    rcases hn with rfl | rfl | rfl | rfl <;> omega
structure ADig where
  l : List Int
  dig : Dig l
  len : l.length = 40
structure ANumber where
  l : ADig
  most : Int
  m1 : 1 ≤ most
  m9 : most ≤ 9
theorem at_lnumber (T : Tx K mg) (F : FunAt K mg "_law_number" sLNumber) : At P w K mg base "_law_number" 1 ["_law_numbers_here", "_law_at", "_law_most"] (spOf K (fun a : ANumber => [.lst (a.l.l.map D.int), .int 1, .int a.most]) (fun _ d => ∃ q, Num q ∧ d = t4 q)) := by
  refine at_d F sc_lnumber (fun _ => rfl) (fun _ _ _ _ _ _ us hl => match us, hl with | [_, _, _], _ => rfl) fun a f cdv A outer st H E hr => ?_
  obtain ⟨⟨l, dig, len⟩, most, m1, m9⟩ := a
  show BD _ (defBody sLNumber) [some (.lst (l.map D.int)), some (.int 1), some (.int most), none, none, none] _
  have nd := sc_lnumber.nd
  have o2 : ∀ n : Int, IntMulOk 2 n := fun n => .of_left (by decide)
  refine bd_set 3 nd (pd_mod (pd_intI T.int (pd_ixL 1 (pd_var 0) (pd_var 1) (getI (by rw [len]; decide)))) pd_int (by decide)) ?_
  have ho := fmod2 (l.getD 1 0)
  generalize (l.getD 1 0).fmod 2 = o at ho
  refine bd_setLc 5 [("_law_k", 4)] (blkOk_by (N := nLNumber) (sc := defScope sLNumber) (by decide +kernel)) nd (id_range (n := 4) T.range pd_int (by decide))
    (comp_all [0, 1, 2, 3] (fun k : Nat => D.int k) (fun k => .int (2 * ((l.getD (2 + k) 0).fmod (2 * most + 1) - most) + o)) fun k hk => ⟨_, _, fun _ _ _ _ _ => gd_name 4 nd, by decide, fun _ _ _ _ _ => tsd_nil, fun _ _ _ _ _ _ =>
      pd_add (pd_mul pd_int (pd_sub (pd_mod (pd_intI T.int (pd_ixL (2 + k) (pd_var 0) (PD.to (pd_add (pd_add (pd_var 1) pd_int) (pd_var 4)) (by congr 1 <;> omega)) (getI (by rw [len]; simp at hk; omega)))) (pd_add (pd_mul pd_int (pd_var 2) (o2 _)) pd_int) (by omega)) (pd_var 2)) (o2 _)) (pd_var 3)⟩) (Nat.le_of_ble_eq_true rfl) ?_ (sw_true rfl rfl rfl (by decide +kernel))
  have hx : ∀ k, ((l.getD (2 + k) 0).fmod (2 * most + 1) - most).natAbs ≤ 2 ^ 40 := fun k => by
    have := Int.fmod_nonneg_of_pos (l.getD (2 + k) 0) (show 0 < 2 * most + 1 by omega)
    have := Int.fmod_lt_of_pos (l.getD (2 + k) 0) (show 0 < 2 * most + 1 by omega)
    omega
  generalize hx0 : (fun k : Nat => (l.getD (2 + k) 0).fmod (2 * most + 1) - most) = x
  have ex : ∀ k, (l.getD (2 + k) 0).fmod (2 * most + 1) - most = x k := fun k => by rw [← hx0]
  simp only [ex] at hx ⊢
  show BD _ _ [some (.lst (l.map D.int)), some (.int 1), some (.int most), some (.int o), none, some (.lst ([2 * x 0 + o, 2 * x 1 + o, 2 * x 2 + o, 2 * x 3 + o].map D.int))] _
  refine bd_seq (M := fun δ => ∃ q, Num q ∧ δ = [some (.lst (l.map D.int)), some (.int 1), some (.int most), some (.int o), none, some (.lst (q.list.map D.int))]) (sd_if (TD.to (td_cmp (op_eqD hr.units) (rd_eqD rfl rfl rfl rfl) (pd_var 5) (pd_lst (ad_cons pd_int (ad_cons pd_int (ad_cons pd_int (ad_cons pd_int ad_nil)))) (Nat.le_of_ble_eq_true rfl)) (nomark _)) (eqv_lst _ [0, 0, 0, 0])) (fun _ => ?_) fun e => ?_) fun δ h => ?_
  · refine bd_set 5 (d := .lst ((Q4.mk 2 0 (2 * most) 0).list.map D.int)) nd (pd_lst (ad_cons pd_int (ad_cons pd_int (ad_cons (pd_mul pd_int (pd_var 2) (o2 _)) (ad_cons pd_int ad_nil)))) (Nat.le_of_ble_eq_true rfl)) (bd_nil ⟨⟨2, 0, 2 * most, 0⟩, ⟨⟨0, fun n hn => ?_⟩, fun z => (by cases z), fun n hn => ?_⟩, rfl⟩)
    · simp only [Q4.list, List.mem_cons, List.not_mem_nil, or_false] at hn
      rcases hn with rfl | rfl | rfl | rfl
      · rfl
      · rfl
      · have := odd_of (n := most) (o := 0) (.inl rfl)
        rwa [Int.add_zero] at this
      · rfl
    · simp only [Q4.list, List.mem_cons, List.not_mem_nil, or_false] at hn
      rcases hn with rfl | rfl | rfl | rfl <;> omega
  · refine bd_nil ⟨⟨2 * x 0 + o, 2 * x 1 + o, 2 * x 2 + o, 2 * x 3 + o⟩, num_of ho (fun n hn => ?_) (of_decide_eq_false e), rfl⟩
    simp only [List.mem_cons, List.not_mem_nil, or_false] at hn
    rcases hn with rfl | rfl | rfl | rfl <;> exact hx _
  · obtain ⟨q, hq, rfl⟩ := h
    exact bd_ret (pd_tupL T.tuple (pd_var 5)) ⟨q, hq, rfl⟩
theorem step1009 {v n : Int} {j : Nat} (h : v.natAbs + 1 ≤ 1009 ^ j) (hn : 0 ≤ n ∧ n < 1009) : (1009 * v + n - 504).natAbs + 1 ≤ 1009 ^ (j + 1) := by
  rw [Nat.pow_succ]
  omega
theorem at_lgreat (T : Tx K mg) (F : FunAt K mg "_law_great" sLGreat) : At P w K mg base "_law_great" 1 ["_law_numbers_here", "_law_at"] (spOf K (fun a : ADig => [.lst (a.l.map D.int), .int 1]) (fun _ d => ∃ q, Num q ∧ d = t4 q)) := by
  refine at_d F sc_lgreat (fun _ => rfl) (fun _ _ _ _ _ _ us hl => match us, hl with | [_, _], _ => rfl) fun a f cdv A outer st H E hr => ?_
  obtain ⟨l, dig, len⟩ := a
  show BD _ (defBody sLGreat) [some (.lst (l.map D.int)), some (.int 1), none, none, none, none] _
  have nd := sc_lgreat.nd
  have o2 : ∀ n : Int, IntMulOk 2 n ∧ IntMulOk 5 n ∧ IntMulOk 1009 n := fun n => ⟨.of_left (by decide), .of_left (by decide), .of_left (by decide)⟩
  have ho := fmod2 (l.getD 1 0)
  refine bd_newOwn 2 (ds := ([] : List Int).map D.int) nd ad_nil (Nat.zero_le _) (noOwn rfl) ?_
  refine bd_seq (M := fun δ => ∃ (vs : List Int) (z3 z4 z5 : Option D), δ = [some (.lst (l.map D.int)), some (.int 1), some (.own ((vs.map fun v => 2 * v + (l.getD 1 0).fmod 2).map D.int)), z3, z4, z5] ∧ vs.length = 4 ∧ ∀ v ∈ vs, v.natAbs ≤ 2 ^ 40)
    (sd_for (id_range (n := 4) T.range pd_int (by decide)) (forD_map (l := [0, 1, 2, 3]) (f := fun k : Nat => D.int k)
      (fun pre _ δ => ∃ (vs : List Int) (z3 z4 z5 : Option D), δ = [some (.lst (l.map D.int)), some (.int 1), some (.own ((vs.map fun v => 2 * v + (l.getD 1 0).fmod 2).map D.int)), z3, z4, z5] ∧ vs.length = pre.length ∧ ∀ v ∈ vs, v.natAbs ≤ 2 ^ 40)
      ⟨[], none, none, none, rfl, rfl, fun v hv => (by cases hv)⟩ (fun pre k post δ e hJ => ?_) fun δ h => h)) fun δ hJ => ?_
  · obtain ⟨vs, z3, z4, z5, rfl, hvl, hvs⟩ := hJ
    have hk : k < 4 := by
      have : k ∈ [0, 1, 2, 3] := by rw [e]; simp
      simp at this
      omega
    have hpre : pre.length < 4 := by
      have := congrArg List.length e
      rw [List.length_append, List.length_cons] at this
      simp at this
      omega
    refine ⟨_, _, gd_name 3 nd, bd_set 4 nd pd_int ?_⟩
    obtain ⟨n, hn, hn4⟩ : ∃ n : Nat, 1 + (l.getD (1 + 5 * k) 0).fmod 4 = (n : Int) ∧ n ≤ 4 := by
      have := Int.fmod_nonneg_of_pos (l.getD (1 + 5 * k) 0) (show (0 : Int) < 4 by decide)
      have := Int.fmod_lt_of_pos (l.getD (1 + 5 * k) 0) (show (0 : Int) < 4 by decide)
      exact ⟨(1 + (l.getD (1 + 5 * k) 0).fmod 4).toNat, by omega, by omega⟩
    refine bd_seq (M := fun δ => ∃ (v : Int) (z5 : Option D), δ = [some (.lst (l.map D.int)), some (.int 1), some (.own ((vs.map fun v => 2 * v + (l.getD 1 0).fmod 2).map D.int)), some (.int (k : Int)), some (.int v), z5] ∧ v.natAbs + 1 ≤ 1009 ^ n)
      (sd_for (id_range (n := n) T.range (PD.to (pd_add pd_int (pd_mod (pd_intI T.int (pd_ixL (1 + 5 * k) (pd_var 0) (PD.to (pd_add (pd_var 1) (pd_mul pd_int (pd_var 3) (o2 _).2.1)) (by congr 1 <;> omega)) (getI (by rw [len]; omega)))) pd_int (by decide))) (by rw [hn])) (by omega)) (forD_map (l := List.range n) (f := fun j : Nat => D.int j)
        (fun pr _ δ => ∃ (v : Int) (z5 : Option D), δ = [some (.lst (l.map D.int)), some (.int 1), some (.own ((vs.map fun v => 2 * v + (l.getD 1 0).fmod 2).map D.int)), some (.int (k : Int)), some (.int v), z5] ∧ v.natAbs + 1 ≤ 1009 ^ pr.length)
        ⟨0, z5, rfl, Nat.le_refl _⟩ (fun pr j po δ e2 hJ => ?_) fun δ ⟨v, z5, h1, h2⟩ => ⟨v, z5, h1, by rwa [List.length_range] at h2⟩)) fun δ hJ => ?_
    · obtain ⟨v, z5, rfl, hv⟩ := hJ
      have hj : j < n := by
        have : j ∈ List.range n := by rw [e2]; simp
        exact List.mem_range.mp this
      refine ⟨_, _, gd_name 5 nd, bd_set 4 nd (d := .int (1009 * v + l.getD (1 + 5 * k + 1 + j) 0 - 504)) (pd_sub (pd_add (pd_mul pd_int (pd_var 4) (o2 _).2.2) (pd_ixL (1 + 5 * k + 1 + j) (pd_var 0) (PD.to (pd_add (pd_add (pd_add (pd_var 1) (pd_mul pd_int (pd_var 3) (o2 _).2.1)) pd_int) (pd_var 5)) (by congr 1 <;> omega)) (getI (by rw [len]; omega)))) pd_int) (bd_nil ⟨_, _, rfl, ?_⟩)⟩
      rw [List.length_append]
      exact step1009 hv (dig.get _)
    · obtain ⟨v, z5, rfl, hv⟩ := hJ
      have hv40 : v.natAbs ≤ 2 ^ 40 := by
        have : 1009 ^ n ≤ 1009 ^ 4 := Nat.pow_le_pow_right (by decide) hn4
        have e4 : 1009 ^ 4 ≤ 2 ^ 40 := by decide
        omega
      refine bd_one (sd_app 2 (ds := (vs.map fun v => 2 * v + (l.getD 1 0).fmod 2).map D.int) (d := .int (2 * v + (l.getD 1 0).fmod 2)) (pd_add (pd_mul pd_int (pd_intI T.int (pd_var 4)) (o2 _).1) (pd_mod (pd_intI T.int (pd_ixL 1 (pd_var 0) (pd_var 1) (getI (by rw [len]; decide)))) pd_int (by decide))) (by rw [List.length_map, List.length_map]; omega) rfl
        ⟨vs ++ [v], _, _, _, (by rw [List.map_append, List.map_append]; rfl), by rw [List.length_append, List.length_append, hvl]; rfl, fun x hx => ?_⟩)
      rcases List.mem_append.mp hx with hx | hx
      · exact hvs x hx
      · have e : x = v := by simpa using hx
        rw [e]
        exact hv40
  · obtain ⟨vs, z3, z4, z5, rfl, hvl, hvs⟩ := hJ
    generalize (l.getD 1 0).fmod 2 = o at ho ⊢
    match vs, hvl, hvs with
    | [x0, x1, x2, x3], _, hvs =>
      refine bd_freeze 2 ?_
      show BD _ _ [some (.lst (l.map D.int)), some (.int 1), some (.lst ([2 * x0 + o, 2 * x1 + o, 2 * x2 + o, 2 * x3 + o].map D.int)), z3, z4, z5] _
      refine bd_seq (M := fun δ => ∃ q, Num q ∧ δ = [some (.lst (l.map D.int)), some (.int 1), some (.lst (q.list.map D.int)), z3, z4, z5]) (sd_if (TD.to (td_cmp (op_eqD hr.units) (rd_eqD rfl rfl rfl rfl) (pd_var 2) (pd_lst (ad_cons pd_int (ad_cons pd_int (ad_cons pd_int (ad_cons pd_int ad_nil)))) (Nat.le_of_ble_eq_true rfl)) (nomark _)) (eqv_lst _ [0, 0, 0, 0])) (fun _ => ?_) fun e => ?_) fun δ h => ?_
      · exact bd_set 2 (d := .lst ((Q4.mk 2 2 0 0).list.map D.int)) nd (pd_lst (ad_cons pd_int (ad_cons pd_int (ad_cons pd_int (ad_cons pd_int ad_nil)))) (Nat.le_of_ble_eq_true rfl)) (bd_nil ⟨⟨2, 2, 0, 0⟩, ⟨⟨0, by decide⟩, by decide, by decide⟩, rfl⟩)
      · exact bd_nil ⟨⟨2 * x0 + o, 2 * x1 + o, 2 * x2 + o, 2 * x3 + o⟩, num_of ho hvs (of_decide_eq_false e), rfl⟩
      · obtain ⟨q, hq, rfl⟩ := h
        exact bd_ret (pd_tupL T.tuple (pd_var 2)) ⟨q, hq, rfl⟩
def given8 : List Q4 := [⟨2, 0, 0, 0⟩, ⟨0, 2, 0, 0⟩, ⟨2, 2, 0, 0⟩, ⟨1, 1, 1, 1⟩, ⟨3, 1, 1, 1⟩, ⟨0, 2, 2, 0⟩, ⟨1, -1, 1, -1⟩, ⟨4, 2, 0, 0⟩]
theorem given_num : ∀ q ∈ given8, Num q := fun q hq => by
  simp only [given8, List.mem_cons, List.not_mem_nil, or_false] at hq
  rcases hq with rfl | rfl | rfl | rfl | rfl | rfl | rfl | rfl
  · exact ⟨⟨0, by decide⟩, by decide, by decide⟩
  · exact ⟨⟨0, by decide⟩, by decide, by decide⟩
  · exact ⟨⟨0, by decide⟩, by decide, by decide⟩
  · exact ⟨⟨1, by decide⟩, by decide, by decide⟩
  · exact ⟨⟨1, by decide⟩, by decide, by decide⟩
  · exact ⟨⟨0, by decide⟩, by decide, by decide⟩
  · exact ⟨⟨1, by decide⟩, by decide, by decide⟩
  · exact ⟨⟨0, by decide⟩, by decide, by decide⟩
theorem at_ldrawn (T : Tx K mg) (F : FunAt K mg "_law_drawn" sLDrawn)
    (cg : At P w K mg base "_law_great" 1 ["_law_numbers_here", "_law_at"] (spOf K (fun a : ADig => [.lst (a.l.map D.int), .int 1]) (fun _ d => ∃ q, Num q ∧ d = t4 q)))
    (cn : At P w K mg base "_law_number" 1 ["_law_numbers_here", "_law_at", "_law_most"] (spOf K (fun a : ANumber => [.lst (a.l.l.map D.int), .int 1, .int a.most]) (fun _ d => ∃ q, Num q ∧ d = t4 q))) :
    At P w K mg base "_law_drawn" 2 ["_law_numbers_here", "_law_at"] (spOf K (fun a : ADig => [.lst (a.l.map D.int), .int 0]) (fun _ d => ∃ q, Num q ∧ d = t4 q)) := by
  refine at_d F sc_ldrawn (fun _ => rfl) (fun _ _ _ _ _ _ us hl => match us, hl with | [_, _], _ => rfl) fun a f cdv A outer st H E hr => ?_
  obtain ⟨l, dig, len⟩ := a
  show BD _ (defBody sLDrawn) [some (.lst (l.map D.int)), some (.int 0), none, none] _
  have nd := sc_ldrawn.nd
  refine bd_set 2 nd (pd_mod (pd_intI T.int (pd_ixL 0 (pd_var 0) (pd_var 1) (getI (by rw [len]; decide)))) pd_int (by decide)) ?_
  have h0 := Int.fmod_nonneg_of_pos (l.getD 0 0) (show (0 : Int) < 6 by decide)
  have h6 := Int.fmod_lt_of_pos (l.getD 0 0) (show (0 : Int) < 6 by decide)
  generalize (l.getD 0 0).fmod 6 = k at h0 h6
  refine bd_when (td_eq (i := k) (j := 0) (pd_var 2) pd_int) (fun _ => bd_retR (PR.weak (pr_at cg (hr.mono (by decide)) (⟨l, dig, len⟩ : ADig) (ad_cons (pd_var 0) (ad_cons (PD.to (pd_add (pd_var 1) pd_int) (by rfl)) ad_nil))) fun d q => q) fun d q => q) fun e0 => ?_
  have e0 := of_decide_eq_false e0
  refine bd_when (td_eq (i := k) (j := 1) (pd_var 2) pd_int) (fun _ => ?_) fun e1 => ?_
  · refine bd_set 3 (d := .lst ((given8.take 6).map t4)) nd (pd_lst (ad_cons (pd_tup (ad_cons pd_int (ad_cons pd_int (ad_cons pd_int (ad_cons pd_int ad_nil)))) (Nat.le_of_ble_eq_true rfl)) (ad_cons (pd_tup (ad_cons pd_int (ad_cons pd_int (ad_cons pd_int (ad_cons pd_int ad_nil)))) (Nat.le_of_ble_eq_true rfl)) (ad_cons (pd_tup (ad_cons pd_int (ad_cons pd_int (ad_cons pd_int (ad_cons pd_int ad_nil)))) (Nat.le_of_ble_eq_true rfl))
      (ad_cons (pd_tup (ad_cons pd_int (ad_cons pd_int (ad_cons pd_int (ad_cons pd_int ad_nil)))) (Nat.le_of_ble_eq_true rfl)) (ad_cons (pd_tup (ad_cons pd_int (ad_cons pd_int (ad_cons pd_int (ad_cons pd_int ad_nil)))) (Nat.le_of_ble_eq_true rfl)) (ad_cons (pd_tup (ad_cons pd_int (ad_cons pd_int (ad_cons pd_int (ad_cons pd_int ad_nil)))) (Nat.le_of_ble_eq_true rfl)) ad_nil)))))) (Nat.le_of_ble_eq_true rfl)) ?_
    refine bd_set 3 (d := .lst (given8.map t4)) nd (PD.to (pd_cat (xs := (given8.take 6).map t4) (ys := (given8.drop 6).map t4) (pd_var 3) (pd_lst (ad_cons (pd_tup (ad_cons pd_int (ad_cons (pd_neg pd_int) (ad_cons pd_int (ad_cons (pd_neg pd_int) ad_nil)))) (Nat.le_of_ble_eq_true rfl)) (ad_cons (pd_tup (ad_cons pd_int (ad_cons pd_int (ad_cons pd_int (ad_cons pd_int ad_nil)))) (Nat.le_of_ble_eq_true rfl)) ad_nil)) (Nat.le_of_ble_eq_true rfl)) (Nat.le_of_ble_eq_true rfl)) (by rfl)) ?_
    have g0 := Int.fmod_nonneg_of_pos (l.getD 1 0) (show (0 : Int) < 8 by decide)
    have g8 := Int.fmod_lt_of_pos (l.getD 1 0) (show (0 : Int) < 8 by decide)
    obtain ⟨i, hi⟩ : ∃ i : Nat, (l.getD 1 0).fmod 8 = (i : Int) := ⟨((l.getD 1 0).fmod 8).toNat, by omega⟩
    have hi8 : i < given8.length := by show i < 8; omega
    refine bd_ret (d := t4 given8[i]) (pd_ixL i (pd_var 3) (PD.to (pd_mod (i := l.getD 1 0) (pd_intI T.int (pd_ixL 1 (pd_var 0) (PD.to (pd_add (pd_var 1) pd_int) (by rfl)) (getI (by rw [len]; decide)))) pd_int (by decide)) (by rw [hi])) (by
      show (given8.map t4)[i]? = _
      rw [List.getElem?_map, List.getElem?_eq_getElem hi8]
      rfl)) ⟨_, given_num _ (List.getElem_mem hi8), rfl⟩
  · have e1 := of_decide_eq_false e1
    obtain ⟨i, hi⟩ : ∃ i : Nat, k - 2 = (i : Int) := ⟨(k - 2).toNat, by omega⟩
    have hi4 : i < 4 := by omega
    have hm : ∃ m : Int, ([1, 2, 4, 9].map D.int)[i]? = some (.int m) ∧ 1 ≤ m ∧ m ≤ 9 := by
      match i, hi4 with
      | 0, _ => exact ⟨1, rfl, by decide, by decide⟩
      | 1, _ => exact ⟨2, rfl, by decide, by decide⟩
      | 2, _ => exact ⟨4, rfl, by decide, by decide⟩
      | 3, _ => exact ⟨9, rfl, by decide, by decide⟩
    obtain ⟨m, hm, m1, m9⟩ := hm
    exact bd_retR (PR.weak (pr_at cn (hr.mono (by decide)) (⟨⟨l, dig, len⟩, m, m1, m9⟩ : ANumber) (ad_cons (pd_var 0) (ad_cons (PD.to (pd_add (pd_var 1) pd_int) (by rfl)) (ad_cons (pd_ixL (ds := [1, 2, 4, 9].map D.int) i (pd_lst (ad_cons pd_int (ad_cons pd_int (ad_cons pd_int (ad_cons pd_int ad_nil)))) (Nat.le_of_ble_eq_true rfl)) (PD.to (pd_sub (i := k) (j := 2) (pd_var 2) pd_int) (by rw [hi])) hm) ad_nil)))) fun d q => q) fun d q => q
end
end Tp
end

section
set_option Elab.async false
set_option linter.all false
set_option autoImplicit false
set_option maxRecDepth 100000
set_option maxHeartbeats 4000000
namespace Tp
open PySem L2 Evl Pd
abbrev sLSquare : Stmt := topS 39
abbrev sLDivisor : Stmt := topS 40
abbrev sLPrimitive : Stmt := topS 41
abbrev sLTimes : Stmt := topS 42
abbrev sLWhole : Stmt := topS 43
abbrev nLSquare : List Str := ["_law_number_here", "_law_part"]
abbrev nLDivisor : List Str := ["_law_parts", "_law_found", "_law_part", "_law_one", "_law_turn"]
abbrev nLPrimitive : List Str := ["_law_number_here", "_law_common", "_law_part", "_law_parts"]
abbrev nLTimes : List Str := ["_law_rows", "_law_point", "_law_row_here"]
abbrev nLWhole : List Str := ["_law_turns", "_law_point", "_law_size", "_law_rows", "_law_part"]
theorem sc_lsquare : FnScope nLSquare ["_law_number_here"] (defScope sLSquare) := ⟨rfl, rfl, rfl, by decide +kernel, rfl, by decide +kernel, by decide +kernel⟩
theorem sc_ldivisor : FnScope nLDivisor ["_law_parts"] (defScope sLDivisor) := ⟨rfl, rfl, rfl, by decide +kernel, rfl, by decide +kernel, by decide +kernel⟩
theorem sc_lprimitive : FnScope nLPrimitive ["_law_number_here"] (defScope sLPrimitive) := ⟨rfl, rfl, rfl, by decide +kernel, rfl, by decide +kernel, by decide +kernel⟩
theorem sc_ltimes : FnScope nLTimes ["_law_rows", "_law_point"] (defScope sLTimes) := ⟨rfl, rfl, rfl, by decide +kernel, rfl, by decide +kernel, by decide +kernel⟩
theorem sc_lwhole : FnScope nLWhole ["_law_turns", "_law_point"] (defScope sLWhole) := ⟨rfl, rfl, rfl, by decide +kernel, rfl, by decide +kernel, by decide +kernel⟩
/-! ### the steps of Euclid -/
def Eu : Nat → Nat → Nat → Prop
  | 0, f, o => f ≤ 2 ^ 42 ∧ o ≤ 2 ^ 42
  | i + 1, f, o => o < f ∧ f * o * 2 ^ i ≤ 2 ^ 84
theorem Eu.step : ∀ {i f o : Nat}, Eu i f o → o ≠ 0 → Eu (i + 1) o (f % o)
  | 0, f, o, ⟨h1, h2⟩, h0 => by
    have h3 := Nat.mod_lt f (Nat.pos_of_ne_zero h0)
    refine ⟨h3, ?_⟩
    have h4 : o * (f % o) ≤ 2 ^ 42 * 2 ^ 42 := Nat.mul_le_mul h2 (by omega)
    rw [Nat.pow_zero, Nat.mul_one]
    exact Nat.le_trans h4 (by decide)
  | i + 1, f, o, ⟨h1, h2⟩, h0 => by
    have h3 := Nat.mod_lt f (Nat.pos_of_ne_zero h0)
    refine ⟨h3, ?_⟩
    have h4 : 2 * (f % o) ≤ f := by
      have q := Nat.div_add_mod f o
      have q1 : 1 ≤ f / o := (Nat.le_div_iff_mul_le (Nat.pos_of_ne_zero h0)).mpr (by omega)
      have q2 : o * 1 ≤ o * (f / o) := Nat.mul_le_mul_left o q1
      omega
    have h5 : o * (2 * (f % o)) ≤ o * f := Nat.mul_le_mul_left o h4
    have h6 : o * (f % o) * 2 ^ (i + 1) = o * (2 * (f % o)) * 2 ^ i := by
      rw [Nat.pow_succ]
      have : ∀ a b c : Nat, a * b * (c * 2) = a * (2 * b) * c := by intros; grind
      exact this _ _ _
    rw [h6]
    refine Nat.le_trans (Nat.mul_le_mul_right _ h5) ?_
    rw [Nat.mul_comm o f]
    exact h2
theorem Eu.done {f o : Nat} (h : Eu 400 f o) : o = 0 := by
  obtain ⟨h1, h2⟩ := h
  refine Classical.byContradiction fun z => ?_
  have h3 : 1 ≤ f * o := Nat.mul_pos (by omega) (by omega)
  have h4 : 1 * 2 ^ 399 ≤ f * o * 2 ^ 399 := Nat.mul_le_mul_right _ h3
  have h5 : 2 ^ 84 < 1 * 2 ^ 399 := by
    rw [Nat.one_mul]
    exact Nat.pow_lt_pow_right (by decide) (by decide)
  exact absurd (Nat.le_trans h4 h2) (Nat.not_le_of_gt h5)
theorem abs_nat (n : Int) : (if n < 0 then -n else n) = (n.natAbs : Int) := by split <;> omega
theorem fmod_nat (f o : Nat) : (f : Int).fmod (o : Int) = ((f % o : Nat) : Int) := by
  rw [Int.fmod_eq_emod_of_nonneg _ (by omega)]
  rfl
theorem gcdL_snoc (l : List Int) (n : Int) : gcdL (l ++ [n]) = ((Nat.gcd (gcdL l).natAbs n.natAbs : Nat) : Int) := by
  unfold gcdL
  rw [List.foldl_append]
  rfl
theorem odd_count (p : Q4) : decide ((((p.list.filter fun n => decide (n.fmod 2 = 1)).map D.int).length : Int) < 4) = !p.allOdd := by
  obtain ⟨a, b, c, d⟩ := p
  have e : (fun n : Int => decide (n.fmod 2 = 1)) = fun n : Int => decide (n % 2 = 1) := by
    funext n
    rw [Int.fmod_eq_emod_of_nonneg _ (by decide)]
  rw [e, List.length_map]
  simp only [Q4.list, Q4.allOdd, List.filter]
  cases decide (a % 2 = 1) <;> cases decide (b % 2 = 1) <;> cases decide (c % 2 = 1) <;> cases decide (d % 2 = 1) <;> rfl
def Few (e : Nat) (q : Q4) : Prop := ∀ n ∈ q.list, n.natAbs ≤ 2 ^ e
section
variable {P : Program} {w : World} {K : PySem.W.Frag} {mg : Str → Option Value} {base : Heap}
abbrev AFew : Type := { q : Q4 // Few 50 q }
theorem at_lsquare (T : Tx K mg) (F : FunAt K mg "_law_square" sLSquare) : At P w K mg base "_law_square" 1 ["_law_number_here"] (spOf K (fun a : AFew => [t4 a.1]) (fun a d => d = .int a.1.sq)) := by
  refine at_d F sc_lsquare (fun _ => rfl) (fun _ _ _ _ _ _ us hl => match us, hl with | [_], _ => rfl) fun a f cdv A outer s H E hr => ?_
  show BD _ (defBody sLSquare) [some (t4 a.1), none] _
  refine bd_ret (pd_sum (l := [a.1.a * a.1.a, a.1.b * a.1.b, a.1.c * a.1.c, a.1.d * a.1.d]) T.sum
    (pd_lc [("_law_part", 1)] (blkOk_by (N := nLSquare) (sc := defScope sLSquare) (by decide +kernel)) sc_lsquare.nd (id_tup (pd_var 0))
      (comp_all [a.1.a, a.1.b, a.1.c, a.1.d] D.int (fun n => .int (n * n)) fun n hn => ⟨_, _, fun _ _ _ _ _ => gd_name 1 sc_lsquare.nd, by decide, fun _ _ _ _ _ => tsd_nil, fun _ _ _ _ _ _ => pd_mul (pd_var 1) (pd_var 1) (mulOk (a.2 n hn) (a.2 n hn) (by decide))⟩) (Nat.le_of_ble_eq_true rfl))) ?_
  show D.int _ = D.int _
  congr 1
  simp only [List.sum_cons, List.sum_nil, Q4.sq]
  omega
theorem at_ldivisor (T : Tx K mg) (F : FunAt K mg "_law_divisor" sLDivisor) : At P w K mg base "_law_divisor" 1 ["_law_parts"] (spOf K (fun a : ANum => [t4 a.1]) (fun a d => d = .int (gcdL a.1.list))) := by
  refine at_d F sc_ldivisor (fun _ => rfl) (fun _ _ _ _ _ _ us hl => match us, hl with | [_], _ => rfl) fun a f cdv A outer s H E hr => ?_
  obtain ⟨q, hq⟩ := a
  show BD _ (defBody sLDivisor) [some (.tup (q.list.map D.int)), none, none, none, none] _
  have nd := sc_ldivisor.nd
  refine bd_set 1 nd pd_int (bd_seq (M := fun δ => ∃ z2 z3 z4, δ = [some (.tup (q.list.map D.int)), some (.int (gcdL q.list)), z2, z3, z4])
    (sd_for (id_tup (pd_var 0)) (forD_map (l := q.list) (f := D.int) (fun pre _ δ => ∃ z2 z3 z4, δ = [some (.tup (q.list.map D.int)), some (.int (gcdL pre)), z2, z3, z4] ∧ (gcdL pre).natAbs ≤ 2 ^ 42)
      ⟨none, none, none, rfl, Nat.zero_le _⟩ (fun pre n post δ e hJ => ?_) fun δ ⟨z2, z3, z4, h, _⟩ => ⟨z2, z3, z4, h⟩)) fun δ hJ => ?_)
  · obtain ⟨z2, z3, z4, rfl, hb⟩ := hJ
    have hn : n.natAbs ≤ 2 ^ 42 := hq.small n (by rw [e]; simp)
    have g0 := gcdL_nonneg pre
    rw [gcdL_snoc]
    generalize hg : gcdL pre = g at hb g0
    obtain ⟨f0, rfl⟩ : ∃ f0 : Nat, g = (f0 : Int) := ⟨g.toNat, by omega⟩
    have hb0 : f0 ≤ 2 ^ 42 := hb
    have hres : ((Nat.gcd ((f0 : Int)).natAbs n.natAbs : Nat) : Int).natAbs ≤ 2 ^ 42 := by
      rw [Int.natAbs_natCast, Int.natAbs_natCast]
      rcases Nat.eq_zero_or_pos f0 with h | h
      · rw [h, Nat.gcd_zero_left]
        exact hn
      · exact Nat.le_trans (Nat.le_of_dvd h (Nat.gcd_dvd_left _ _)) hb0
    refine ⟨_, _, gd_name 2 nd, bd_set 3 (d := .int (n.natAbs : Int)) nd (PD.to (pd_abs T.abs (pd_var 2)) (by rw [← abs_nat])) (bd_one (sd_for (id_range (n := 400) T.range pd_int (by decide)) (forD_map (l := List.range 400) (f := fun i : Nat => D.int i)
      (fun pr _ δ => ∃ (f o : Nat) (z : Option D), δ = [some (.tup (q.list.map D.int)), some (.int (f : Int)), some (.int n), some (.int (o : Int)), z] ∧ Nat.gcd f o = Nat.gcd f0 n.natAbs ∧ Eu pr.length f o)
      ⟨f0, n.natAbs, z4, rfl, rfl, hb0, hn⟩ (fun pr i po δ e2 hJ => ?_) fun δ hJ => ?_)))⟩
    · obtain ⟨f, o, z, rfl, hgcd, heu⟩ := hJ
      refine ⟨_, _, gd_name 4 nd, bd_when (td_eq (i := (o : Int)) (j := 0) (pd_var 3) pd_int) (fun h0 => bd_one (sd_break ?_)) fun h0 => ?_⟩
      · have h0 : o = 0 := by have := of_decide_eq_true h0; omega
        rw [h0, Nat.gcd_zero_right] at hgcd
        exact ⟨_, _, _, by rw [Int.natAbs_natCast, ← hgcd]; rfl, hres⟩
      · have h0 : o ≠ 0 := by have := of_decide_eq_false h0; omega
        refine bd_one (sd_par 1 3 (d1 := .int (o : Int)) (d2 := .int ((f % o : Nat) : Int)) nd (by decide) (pd_var 3) (PD.to (pd_mod (i := (f : Int)) (j := (o : Int)) (pd_intI T.int (pd_var 1)) (pd_var 3) (by omega)) (by rw [fmod_nat])) ⟨o, f % o, _, rfl, ?_, ?_⟩ rfl)
        · rw [← hgcd, Nat.gcd_comm o, ← Nat.gcd_rec, Nat.gcd_comm]
        · rw [List.length_append]
          exact heu.step h0
    · obtain ⟨f, o, z, rfl, hgcd, heu⟩ := hJ
      rw [List.length_range] at heu
      rw [heu.done, Nat.gcd_zero_right] at hgcd
      exact ⟨_, _, _, by rw [Int.natAbs_natCast, ← hgcd], hres⟩
  · obtain ⟨z2, z3, z4, rfl⟩ := hJ
    exact bd_ret (pd_var 1) rfl
/-- the number that the law takes the norm of -/
def primOf (q : Q4) : Q4 := if (q.fdiv (gcdL q.list)).allOdd then q.fdiv (gcdL q.list) else Q4.smul 2 (q.fdiv (gcdL q.list))
def Q4.neg (q : Q4) : Q4 := ⟨0 - q.a, 0 - q.b, 0 - q.c, 0 - q.d⟩
theorem Q4.neg_sq (q : Q4) : q.neg.sq = q.sq := by
  simp only [Q4.neg, Q4.sq, Int.zero_sub, Int.neg_mul_neg]
theorem Num.gpos {q : Q4} (h : Num q) : 0 < gcdL q.list ∧ (gcdL q.list).natAbs ≤ 2 ^ 42 := by
  have : ∃ n ∈ q.list, n ≠ 0 := by
    refine Classical.byContradiction fun z => h.ne ?_
    have hz : ∀ n ∈ q.list, n = 0 := fun n hn => Classical.byContradiction fun y => z ⟨n, hn, y⟩
    have ha := hz _ q.fa
    have hb := hz _ q.fb
    have hc := hz _ q.fc
    have hd := hz _ q.fd
    obtain ⟨a, b, c, d⟩ := q
    simp only at ha hb hc hd
    rw [ha, hb, hc, hd]
  obtain ⟨n, hn, h0⟩ := this
  exact ⟨gcdL_pos hn h0, Nat.le_trans (gcdL_le hn h0) (h.small n hn)⟩
theorem Num.few {q : Q4} (h : Num q) : Few 43 (primOf q) ∧ Few 42 (q.fdiv (gcdL q.list)) := by
  have hg := h.gpos.1
  have h1 : Few 42 (q.fdiv (gcdL q.list)) := fun n hn => by
    have : n ∈ q.list.map fun n => n.fdiv (gcdL q.list) := hn
    obtain ⟨m, hm, rfl⟩ := List.mem_map.mp this
    exact Nat.le_trans (fdiv_abs m (by omega)) (h.small m hm)
  refine ⟨?_, h1⟩
  unfold primOf
  generalize q.fdiv (gcdL q.list) = p at h1 ⊢
  split
  · exact fun n hn => pow_le (by decide) (h1 n hn)
  · intro n hn
    simp only [Q4.smul, Q4.list, List.mem_cons, List.not_mem_nil, or_false] at hn
    have ha := h1 _ (Q4.fa _)
    have hb := h1 _ (Q4.fb _)
    have hc := h1 _ (Q4.fc _)
    have hd := h1 _ (Q4.fd _)
    rcases hn with rfl | rfl | rfl | rfl <;> omega
theorem at_lprimitive (T : Tx K mg) (F : FunAt K mg "_law_primitive" sLPrimitive)
    (cd : At P w K mg base "_law_divisor" 1 ["_law_parts"] (spOf K (fun a : ANum => [t4 a.1]) (fun a d => d = .int (gcdL a.1.list)))) :
    At P w K mg base "_law_primitive" 2 ["_law_number_here"] (spOf K (fun a : ANum => [t4 a.1]) (fun a d => ∃ p, p.sq = (primOf a.1).sq ∧ Few 50 p ∧ d = t4 p)) := by
  refine at_d F sc_lprimitive (fun _ => rfl) (fun _ _ _ _ _ _ us hl => match us, hl with | [_], _ => rfl) fun a f cdv A outer s H E hr => ?_
  obtain ⟨q, hq⟩ := a
  show BD _ (defBody sLPrimitive) [some (t4 q), none, none, none] _
  have nd := sc_lprimitive.nd
  obtain ⟨hg, hgb⟩ := hq.gpos
  obtain ⟨few, few0⟩ := hq.few
  refine bd_set 1 nd (pd_at cd (hr.mono (by decide)) (⟨q, hq⟩ : ANum) (ad_cons (pd_var 0) ad_nil)) ?_
  have ep : primOf q = if (q.fdiv (gcdL q.list)).allOdd then q.fdiv (gcdL q.list) else Q4.smul 2 (q.fdiv (gcdL q.list)) := rfl
  show BD _ _ [some (t4 q), some (.int (gcdL q.list)), none, none] { nx := fun _ => ∃ p, p.sq = (primOf q).sq ∧ Few 50 p ∧ D.non = t4 p, rt := fun d => ∃ p, p.sq = (primOf q).sq ∧ Few 50 p ∧ d = t4 p }
  refine bd_setLc 3 [("_law_part", 2)] (ys := (q.fdiv (gcdL q.list)).list.map D.int) (blkOk_by (N := nLPrimitive) (sc := defScope sLPrimitive) (by decide +kernel)) nd (id_tup (pd_var 0))
    (comp_all [q.a, q.b, q.c, q.d] D.int (fun n => .int (n.fdiv (gcdL q.list))) fun n hn => ⟨_, _, fun _ _ _ _ _ => gd_name 2 nd, by decide, fun _ _ _ _ _ => tsd_nil, fun _ _ _ _ _ _ => pd_fdiv (pd_var 2) (pd_var 1) (divOk (by omega) hgb (by decide))⟩) (Nat.le_of_ble_eq_true rfl) ?_ (sw_true rfl rfl rfl (by decide +kernel))
  generalize hp0 : q.fdiv (gcdL q.list) = p0 at few0 ep
  refine bd_seq (M := fun δ => δ = [some (t4 q), some (.int (gcdL q.list)), none, some (.lst ((primOf q).list.map D.int))]) (sd_if (TD.to (td_lt (i := (((p0.list.filter fun n => decide (n.fmod 2 = 1)).map D.int).length : Int)) (j := 4) (pd_lenL T.len
    (pd_lc [("_law_part", 2)] (blkOk_by (N := nLPrimitive) (sc := defScope sLPrimitive) (by decide +kernel)) nd (id_lst (pd_var 3))
      (comp_some p0.list (fun n => decide (n.fmod 2 = 1)) D.int D.int fun n hn => ⟨_, _, fun _ _ _ _ _ => gd_name 2 nd, by decide, fun _ _ _ _ _ => tsd_one (td_eq (pd_mod (pd_intI T.int (pd_var 2)) pd_int (by decide)) pd_int), fun e _ _ _ _ _ => PD.to (pd_var 2) (by rw [if_pos e]; rfl)⟩) (Nat.le_of_ble_eq_true rfl))) pd_int) (odd_count p0)) (fun ho => ?_) fun ho => ?_) fun δ e => ?_
  · have ho : ¬ p0.allOdd = true := by simpa using ho
    rw [if_neg ho] at ep
    rw [ep]
    exact bd_setLc 3 [("_law_part", 2)] (ys := (Q4.smul 2 p0).list.map D.int) (blkOk_by (N := nLPrimitive) (sc := defScope sLPrimitive) (by decide +kernel)) nd (id_lst (pd_var 3))
      (comp_all [p0.a, p0.b, p0.c, p0.d] D.int (fun n => .int (2 * n)) fun n hn => ⟨_, _, fun _ _ _ _ _ => gd_name 2 nd, by decide, fun _ _ _ _ _ => tsd_nil, fun _ _ _ _ _ _ => pd_mul pd_int (pd_var 2) (.of_left (by decide))⟩) (Nat.le_of_ble_eq_true rfl) (bd_nil rfl) (sw_true rfl rfl rfl (by decide +kernel))
  · have ho : p0.allOdd = true := by simpa using ho
    rw [if_pos ho] at ep
    rw [ep]
    exact bd_nil rfl
  · rw [e]
    generalize primOf q = p at few
    refine bd_retR (P := fun d => d = .tup (p.list.map D.int) ∨ d = .tup (p.neg.list.map D.int)) (pr_max2T T.max hr.units (pd_tupL T.tuple (pd_var 3)) (pd_tupL T.tuple
      (pd_lc [("_law_part", 2)] (blkOk_by (N := nLPrimitive) (sc := defScope sLPrimitive) (by decide +kernel)) nd (id_lst (pd_var 3))
        (comp_all [p.a, p.b, p.c, p.d] D.int (fun n => .int (0 - n)) fun n hn => ⟨_, _, fun _ _ _ _ _ => gd_name 2 nd, by decide, fun _ _ _ _ _ => tsd_nil, fun _ _ _ _ _ _ => pd_sub pd_int (pd_var 2)⟩) (Nat.le_of_ble_eq_true rfl)))) fun d hd => ?_
    rcases hd with rfl | rfl
    · exact ⟨p, rfl, fun n hn => pow_le (by decide) (few n hn), rfl⟩
    · refine ⟨p.neg, p.neg_sq, fun n hn => ?_, rfl⟩
      have : n ∈ p.list.map fun n => 0 - n := hn
      obtain ⟨m, hm, rfl⟩ := List.mem_map.mp this
      have := few m hm
      exact pow_le (a := 43) (by decide) (by omega)
structure ALTimes where
  m : M3
  r : V3
  sm : SmallM 90 m
  sr : SmallV 90 r
theorem at_ltimes (F : FunAt K mg "_law_times" sLTimes) : At P w K mg base "_law_times" 1 ["_law_rows", "_law_point"] (spOf K (fun a : ALTimes => [tm3 a.m, t3 a.r]) (fun a d => d = .lst [.int (a.m.a.dot a.r), .int (a.m.b.dot a.r), .int (a.m.c.dot a.r)])) := by
  refine at_d F sc_ltimes (fun _ => rfl) (fun _ _ _ _ _ _ us hl => match us, hl with | [_, _], _ => rfl) fun a f cdv A outer s H E hr => ?_
  obtain ⟨m, r, sm, sr⟩ := a
  show BD _ (defBody sLTimes) [some (tm3 m), some (t3 r), none] _
  have nd := sc_ltimes.nd
  refine bd_ret (pd_lc [("_law_row_here", 2)] (blkOk_by (N := nLTimes) (sc := defScope sLTimes) (by decide +kernel)) nd (id_tup (pd_var 0))
    (comp_all [m.a, m.b, m.c] t3 (fun v => .int (v.dot r)) fun v hv => ⟨_, _, fun _ _ _ _ _ => gd_name 2 nd, by decide, fun _ _ _ _ _ => tsd_nil, fun _ _ _ _ _ _ =>
      pd_add (pd_add (pd_mul (i := v.x) (j := r.x) (pd_ixT 0 (pd_var 2) pd_int rfl) (pd_ixT 0 (pd_var 1) pd_int rfl) ?_) (pd_mul (i := v.y) (j := r.y) (pd_ixT 1 (pd_var 2) pd_int rfl) (pd_ixT 1 (pd_var 1) pd_int rfl) ?_)) (pd_mul (i := v.z) (j := r.z) (pd_ixT 2 (pd_var 2) pd_int rfl) (pd_ixT 2 (pd_var 1) pd_int rfl) ?_)⟩) (Nat.le_of_ble_eq_true rfl)) rfl
  all_goals
    have hv90 : SmallV 90 v := by
      simp only [List.mem_cons, List.not_mem_nil, or_false] at hv
      rcases hv with rfl | rfl | rfl
      · exact sm.1
      · exact sm.2.1
      · exact sm.2.2
  · exact mulOk (hv90 0) (sr 0) (by decide)
  · exact mulOk (hv90 1) (sr 1) (by decide)
  · exact mulOk (hv90 2) (sr 2) (by decide)
theorem at_lwhole (T : Tx K mg) (F : FunAt K mg "_law_whole" sLWhole)
    (ct : At P w K mg base "_law_times" 1 ["_law_rows", "_law_point"] (spOf K (fun a : ALTimes => [tm3 a.m, t3 a.r]) (fun a d => d = .lst [.int (a.m.a.dot a.r), .int (a.m.b.dot a.r), .int (a.m.c.dot a.r)]))) :
    At P w K mg base "_law_whole" 2 ["_law_turns", "_law_point"] (spOf K (fun a : AIsC => [.lst [turnD a.s a.m], t3 a.r]) (fun a d => d = .bl true)) := by
  refine at_d F sc_lwhole (fun _ => rfl) (fun _ _ _ _ _ _ us hl => match us, hl with | [_, _], _ => rfl) fun a f cdv A outer st H E hr => ?_
  obtain ⟨s, m, h, r, small, dvd⟩ := a
  have hs := h.rot.pos
  show BD _ (defBody sLWhole) [some (.lst [turnD s m]), some (t3 r), none, none, none] _
  have nd := sc_lwhole.nd
  refine bd_seq (M := fun δ => True) (sd_for (xs := [turnD s m]) (id_lst (pd_var 0)) ⟨_, _, gd_tup (gds_cons (gd_name 2 nd) (gds_cons (gd_name 3 nd) gds_nil)), bd_one (sd_for (xs := [m.a, m.b, m.c].map fun v => D.int (v.dot r)) (id_lst (pd_at ct (hr.mono (by decide)) (⟨m, r, h.small, small⟩ : ALTimes) (ad_cons (pd_var 3) (ad_cons (pd_var 1) ad_nil))))
    (forD_map (l := [m.a, m.b, m.c]) (f := fun v => D.int (v.dot r)) (fun _ _ δ => ∃ z, δ = [some (.lst [turnD s m]), some (t3 r), some (.int s), some (tm3 m), z]) ⟨none, rfl⟩ (fun pre v post δ e hJ => ?_) fun δ _ => trivial))⟩) fun δ _ => ?_
  · obtain ⟨z, rfl⟩ := hJ
    have hv : v ∈ m.rows := by
      show v ∈ [m.a, m.b, m.c]
      rw [e]
      simp
    exact ⟨_, _, gd_name 4 nd, bd_skip (TD.to (td_ne (i := (v.dot r).fmod s) (j := 0) (pd_mod (i := v.dot r) (j := s) (pd_intI T.int (pd_var 4)) (pd_var 2) (by omega)) pd_int) (by rw [Int.fmod_eq_zero_of_dvd (dvd v hv)]; rfl)) (bd_nil ⟨_, rfl⟩)⟩
  · exact bd_ret pd_bl rfl
end
end Tp
end

section
set_option Elab.async false
set_option linter.all false
set_option autoImplicit false
set_option maxRecDepth 100000
set_option maxHeartbeats 4000000
namespace Tp
open PySem L2 Evl Pd
abbrev sLaw : Stmt := topS 44
abbrev nLaw : List Str := ["_law_script", "_law_numbers_here", "_law_number_here", "_law_turn", "_law_due", "_law_times_here", "_law_base", "_law_row_here"]
theorem sc_law : FnScope nLaw ["_law_script"] (defScope sLaw) := ⟨rfl, rfl, rfl, by decide +kernel, rfl, by decide +kernel, by decide +kernel⟩
def hvn : Nat → Int → Int
  | 0, x => x
  | n + 1, x => halve (hvn n x)
theorem halve_even {x : Int} (h : x.fmod 2 = 0) : x.fdiv 2 = halve x := by
  rw [Int.fmod_eq_emod_of_nonneg _ (by decide)] at h
  rw [Int.fdiv_eq_ediv_of_nonneg _ (by decide)]
  unfold halve
  rw [if_pos h]
theorem halve_odd {x : Int} (h : ¬ x.fmod 2 = 0) : x = halve x := by
  rw [Int.fmod_eq_emod_of_nonneg _ (by decide)] at h
  unfold halve
  rw [if_neg h]
theorem Common.rows {s : Int} {m B : M3} (c : Common s m B) : 0 ≤ B.a.y ∧ B.a.y < B.b.y ∧ 0 ≤ B.a.z ∧ B.a.z < B.c.z ∧ 0 ≤ B.b.z ∧ B.b.z < B.c.z ∧ B.a.x * B.b.y * B.c.z = s := ⟨c.hnf.ay.1, c.hnf.ay.2, c.hnf.az.1, c.hnf.az.2, c.hnf.bz.1, c.hnf.bz.2, by rw [← c.hnf.det, c.det]⟩
section
variable {P : Program} {w : World} {K : PySem.W.Frag} {mg : Str → Option Value} {base : Heap}
theorem ok_law {f : Addr} {fd : FuncData} (T : Tx K mg) (F : Fun K "law" "law" sLaw f fd)
    (cnum : At P w K mg base "_law_numbers" 2 ["_law_script", "_law_many"] (spOf K (fun ns : List Int => [.scr ns, .int 40]) (fun _ d => ∃ l : List Int, Dig l ∧ l.length = 40 ∧ d = .lst (l.map D.int))))
    (cdr : At P w K mg base "_law_drawn" 2 ["_law_numbers_here", "_law_at"] (spOf K (fun a : ADig => [.lst (a.l.map D.int), .int 0]) (fun _ d => ∃ q, Num q ∧ d = t4 q)))
    (ctu : At P w K mg base "turn_of" 4 ["number"] (spOf K (fun a : ANum => [t4 a.1]) (fun a d => d = turnD (sizeOf a.1) (rowsOf a.1))))
    (csq : At P w K mg base "_law_square" 1 ["_law_number_here"] (spOf K (fun a : AFew => [t4 a.1]) (fun a d => d = .int a.1.sq)))
    (cpr : At P w K mg base "_law_primitive" 2 ["_law_number_here"] (spOf K (fun a : ANum => [t4 a.1]) (fun a d => ∃ p, p.sq = (primOf a.1).sq ∧ Few 50 p ∧ d = t4 p)))
    (cix : At P w K mg base "common_index" 6 ["turns"] (spOf K (fun a : ATurn => [.lst [turnD a.s a.m]]) (fun a d => d = .int a.s)))
    (cinv : At P w K mg base "inverse" 4 ["turn"] (spOf K (fun a : ATurn => [turnD a.s a.m]) (fun a d => d = turnD a.s a.m.tr)))
    (cba : At P w K mg base "common_base" 5 ["turns"] (spOf K (fun a : ATurn => [.lst [turnD a.s a.m]]) (fun a d => ∃ B, Common a.s a.m B ∧ d = tm3 B)))
    (cic : At P w K mg base "is_common" 5 ["turns", "point"] (spOf K (fun a : AIsC => [.lst [turnD a.s a.m], t3 a.r]) (fun a d => d = .bl true)))
    (cwh : At P w K mg base "_law_whole" 2 ["_law_turns", "_law_point"] (spOf K (fun a : AIsC => [.lst [turnD a.s a.m], t3 a.r]) (fun a d => d = .bl true))) :
    FnOk P w K mg base CX0 7 f fd ["_law_script"] (spOf K (fun ns : List Int => [.scr ns]) (fun _ d => d = .bl true)) := by
  refine fn_d F sc_law (fun _ => rfl) fun ns cdv A outer st H E hr => ?_
  show BD _ (defBody sLaw) [some (.scr ns), none, none, none, none, none, none, none] _
  have nd := sc_law.nd
  refine bd_setR 1 (P := fun d => ∃ l : List Int, Dig l ∧ l.length = 40 ∧ d = .lst (l.map D.int)) nd (PR.weak (pr_at cnum (hr.mono (by decide)) ns (ad_cons (pd_var 0) (ad_cons pd_int ad_nil))) fun d q => q) fun d hd => ?_
  obtain ⟨l, dig, len, rfl⟩ := hd
  refine bd_setR 2 (P := fun d => ∃ q, Num q ∧ d = t4 q) nd (PR.weak (pr_at cdr (hr.mono (by decide)) (⟨l, dig, len⟩ : ADig) (ad_cons (pd_var 1) (ad_cons pd_int ad_nil))) fun d q => q) fun d hd => ?_
  obtain ⟨q, hq, rfl⟩ := hd
  refine bd_set 3 (d := turnD (sizeOf q) (rowsOf q)) nd (pd_at ctu (hr.mono (by decide)) (⟨q, hq⟩ : ANum) (ad_cons (pd_var 2) ad_nil)) ?_
  refine bd_set 4 (d := .int ((primOf q).sq.fdiv 4)) nd (pd_fdiv (i := (primOf q).sq) (j := 4) (prR_at (Pa := fun ds => ∃ d, (∃ p, p.sq = (primOf q).sq ∧ Few 50 p ∧ d = t4 p) ∧ ds = [d]) (Po := fun d => d = .int (primOf q).sq) csq (hr.mono (by decide))
    (ar_cons (P1 := fun d => ∃ p, p.sq = (primOf q).sq ∧ Few 50 p ∧ d = t4 p) (P2 := fun z => z = []) (PR.weak (pr_at cpr (hr.mono (by decide)) (⟨q, hq⟩ : ANum) (ad_cons (pd_var 2) ad_nil)) fun d q => q) ad_nil fun d ds p q => ⟨d, p, by rw [q]⟩) ?_) pd_int (divOk (b := 2) (by decide) (by decide) (by decide))) ?_
  · rintro ds ⟨d, ⟨p, hp1, hp2, rfl⟩, rfl⟩
    exact ⟨⟨p, hp2⟩, rfl, fun z q => by rw [q, hp1]⟩
  refine bd_seq (M := fun δ => ∃ z, δ = [some (.scr ns), some (.lst (l.map D.int)), some (t4 q), some (turnD (sizeOf q) (rowsOf q)), some (.int (sizeOf q)), z, none, none])
    (sd_for (id_range (n := 2) T.range pd_int (by decide)) (forD_map (l := [0, 1]) (f := fun i : Nat => D.int i)
      (fun pre _ δ => ∃ z, δ = [some (.scr ns), some (.lst (l.map D.int)), some (t4 q), some (turnD (sizeOf q) (rowsOf q)), some (.int (hvn pre.length ((primOf q).sq.fdiv 4))), z, none, none])
      ⟨none, rfl⟩ (fun pre i post δ e hJ => ?_) fun δ hJ => ?_)) fun δ hJ => ?_
  · obtain ⟨z, rfl⟩ := hJ
    rw [List.length_append, List.length_singleton]
    show ∃ δ' js, GD _ _ _ _ δ' js ∧ BD _ _ δ' { nx := fun δ => ∃ z, δ = [some (.scr ns), some (.lst (l.map D.int)), some (t4 q), some (turnD (sizeOf q) (rowsOf q)), some (.int (halve (hvn pre.length ((primOf q).sq.fdiv 4)))), z, none, none], ct := fun δ => ∃ z, δ = [some (.scr ns), some (.lst (l.map D.int)), some (t4 q), some (turnD (sizeOf q) (rowsOf q)), some (.int (halve (hvn pre.length ((primOf q).sq.fdiv 4)))), z, none, none], bk := _, rt := _ }
    generalize hvn pre.length ((primOf q).sq.fdiv 4) = x
    refine ⟨_, _, gd_name 5 nd, bd_one (sd_if (td_eq (i := x.fmod 2) (j := 0) (pd_mod (i := x) (pd_intI T.int (pd_var 4)) pd_int (by decide)) pd_int) (fun h => ?_) fun h => ?_)⟩
    · exact bd_set 4 (d := .int (halve x)) nd (PD.to (pd_fdiv (i := x) (j := 2) (pd_var 4) pd_int (divOk (b := 2) (by decide) (by decide) (by decide))) (by rw [halve_even (of_decide_eq_true h)])) (bd_nil ⟨_, rfl⟩)
    · refine bd_nil ⟨some (.int (i : Int)), ?_⟩
      rw [← halve_odd (of_decide_eq_false h)]
      rfl
  · obtain ⟨z, rfl⟩ := hJ
    refine ⟨z, ?_⟩
    have e : hvn ([0, 1] : List Nat).length ((primOf q).sq.fdiv 4) = sizeOf q := by
      show halve (halve ((primOf q).sq.fdiv 4)) = _
      rw [Int.fdiv_eq_ediv_of_nonneg _ (by decide)]
      exact (turn_size hq.ne).symm
    rw [e]
  obtain ⟨z, rfl⟩ := hJ
  have ht := hq.turn
  generalize sizeOf q = s at ht ⊢
  generalize rowsOf q = m at ht ⊢
  have hs := ht.rot.pos
  refine bd_skip (PW.pt (WD.to (wd_or (td_ne (i := s) (j := s) (pd_ixT 0 (pd_var 3) pd_int rfl) (pd_var 4)) fun _ => wd_or (td_ne (i := s) (j := s) (pd_at cix (hr.mono (by decide)) (⟨(s, m), ht⟩ : ATurn) (ad_cons (pd_lst (ad_cons (pd_var 3) ad_nil) (Nat.le_of_ble_eq_true rfl)) ad_nil)) (pd_var 4)) fun _ =>
    wd_or1 (td_ne (i := s) (j := s) (pd_at cix (hr.mono (by decide)) (⟨(s, m.tr), ht.back⟩ : ATurn) (ad_cons (pd_lst (ad_cons (pd_at cinv (d := turnD s m.tr) (hr.mono (by decide)) (⟨(s, m), ht⟩ : ATurn) (ad_cons (pd_var 3) ad_nil)) ad_nil) (Nat.le_of_ble_eq_true rfl)) ad_nil)) (pd_var 4))) (by simp))) ?_
  refine bd_setR 6 (P := fun d => ∃ B, Common s m B ∧ d = tm3 B) nd (PR.weak (pr_at cba (hr.mono (by decide)) (⟨(s, m), ht⟩ : ATurn) (ad_cons (pd_lst (ad_cons (pd_var 3) ad_nil) (Nat.le_of_ble_eq_true rfl)) ad_nil)) fun d q => q) fun d hd => ?_
  obtain ⟨B, hB, rfl⟩ := hd
  have sm := hB.small ht
  obtain ⟨r1, r2, r3, r4, r5, r6, r7⟩ := hB.rows
  refine bd_skip (TD.to (td_ne (i := B.a.x * B.b.y * B.c.z) (j := s) (pd_mul (i := B.a.x * B.b.y) (pd_mul (i := B.a.x) (pd_ixT 0 (pd_ixT (d := t3 B.a) 0 (pd_var 6) pd_int rfl) pd_int rfl) (pd_ixT 1 (pd_ixT (d := t3 B.b) 1 (pd_var 6) pd_int rfl) pd_int rfl) (mulOk (sm.1 0) (sm.2.1 1) (by decide))) (pd_ixT 2 (pd_ixT (d := t3 B.c) 2 (pd_var 6) pd_int rfl) pd_int rfl) (mulOk (natMul (sm.1 0) (sm.2.1 1)) (sm.2.2 2) (by decide))) (pd_var 4)) (by rw [r7]; simp)) ?_
  refine bd_skip (PW.pt (WD.to (wd_or (td_not (td_chain (i := 0) (m := B.a.y) (n := B.b.y) op_le op_lt pd_int (pd_ixT 1 (pd_ixT (d := t3 B.a) 0 (pd_var 6) pd_int rfl) pd_int rfl) (pd_ixT 1 (pd_ixT (d := t3 B.b) 1 (pd_var 6) pd_int rfl) pd_int rfl))) fun _ =>
    wd_or (td_not (td_chain (i := 0) (m := B.a.z) (n := B.c.z) op_le op_lt pd_int (pd_ixT 2 (pd_ixT (d := t3 B.a) 0 (pd_var 6) pd_int rfl) pd_int rfl) (pd_ixT 2 (pd_ixT (d := t3 B.c) 2 (pd_var 6) pd_int rfl) pd_int rfl))) fun _ =>
    wd_or1 (td_not (td_chain (i := 0) (m := B.b.z) (n := B.c.z) op_le op_lt pd_int (pd_ixT 2 (pd_ixT (d := t3 B.b) 1 (pd_var 6) pd_int rfl) pd_int rfl) (pd_ixT 2 (pd_ixT (d := t3 B.c) 2 (pd_var 6) pd_int rfl) pd_int rfl)))) (by
      rw [decide_eq_true r1, decide_eq_true r2, decide_eq_true r3, decide_eq_true r4, decide_eq_true r5, decide_eq_true r6]; rfl))) ?_
  have hsr : ∀ r ∈ [B.a, B.b, B.c], SmallV 90 r ∧ ∀ v ∈ m.rows, s ∣ v.dot r := fun r hr1 => ⟨by
    simp only [List.mem_cons, List.not_mem_nil, or_false] at hr1
    rcases hr1 with rfl | rfl | rfl
    · exact sm.1
    · exact sm.2.1
    · exact sm.2.2, hB.dvd r hr1⟩
  refine bd_ret (pd_all (l := [true, true, true]) T.all (pd_lc [("_law_row_here", 7)] (blkOk_by (N := nLaw) (sc := defScope sLaw) (by decide +kernel)) nd (id_tup (pd_var 6))
    (comp_all [B.a, B.b, B.c] t3 (fun _ => .bl true) fun r hr1 => ⟨_, _, fun _ _ _ _ _ => gd_name 7 nd, by decide, fun _ _ _ _ _ => tsd_nil, fun _ _ _ _ _ _ =>
      PD.to (pd_and (j := true) (k := true) (pd_at cic (hr.mono (by decide)) (⟨s, m, ht, r, (hsr r hr1).1, (hsr r hr1).2⟩ : AIsC) (ad_cons (pd_lst (ad_cons (pd_var 3) ad_nil) (Nat.le_of_ble_eq_true rfl)) (ad_cons (pd_var 7) ad_nil))) fun _ => pd_and1 (pd_at cwh (hr.mono (by decide)) (⟨s, m, ht, r, (hsr r hr1).1, (hsr r hr1).2⟩ : AIsC) (ad_cons (pd_lst (ad_cons (pd_var 3) ad_nil) (Nat.le_of_ble_eq_true rfl)) (ad_cons (pd_var 7) ad_nil)))) rfl⟩) (Nat.le_of_ble_eq_true rfl))) rfl
end
end Tp
end

section
set_option Elab.async false
set_option linter.all false
set_option autoImplicit false
set_option maxRecDepth 100000
set_option maxHeartbeats 4000000
namespace Tp
open PySem L2 Evl Pd
/-- what the top has written for a def -/
structure FK (K : PySem.W.Frag) (x : Str) (st : Stmt) : Prop where
  ex : ∃ f fd, PySem.W.nsIn K mainGlobals x = some (some (.ref f)) ∧ Fun K x x st f fd
theorem FK.mk' {K : PySem.W.Frag} {x : Str} {st : Stmt} {f : Addr} {oc : Value} {od an : Option Addr} {osl : Array (Option Value)} {kV doc pm cdv ct : Value} (a : PySem.W.nsIn K mainGlobals x = some (some (.ref f)))
    (l : K.lookup f = some ⟨oc, od, .func (PySem.W.fnOf x x (defArgs st) (defBody st) (defScope st) .none kV doc pm an cdv ct), osl⟩) (c : PySem.W.codeIn K cdv x = true) (k : PySem.W.keepIn K (.ref f) = true) : FK K x st := ⟨_, _, a, fun_mk l c k⟩
theorem FK.at {K : PySem.W.Frag} {h : Heap} {mg : Str → Option Value} {x : Str} {st : Stmt} (F : FK K x st) (X : K.In h) (G : h.Ns mainGlobals mg) : FunAt K mg x st := by
  obtain ⟨f, fd, a, b⟩ := F.ex
  exact ⟨f, fd, PySem.W.mg_of X G a, b⟩
def spLaw (K : PySem.W.Frag) : Sp := fun vs H Q _ => ∃ (a : Addr) (ns : List Int), vs = [.ref a] ∧ SqL K H a (ns.map V.int) ∧ ∀ H', Q (.bl true) H'
theorem sp_law {K : PySem.W.Frag} : ∀ vs H Q E, spLaw K vs H Q E → spOf K (fun ns : List Int => [.scr ns]) (fun _ d => d = .bl true) vs H Q E := fun vs H Q E ⟨a, ns, e, h, q⟩ => by
  subst e
  refine ⟨H, ns, Ex.refl H, .cons (.scr h) .nil, fun v G2 H2 d g r p => ?_⟩
  subst p
  cases r
  exact q H2
theorem zero_rp {K : PySem.W.Frag} {z : Addr} {dd : Option Addr} {n : Nat} {sl : Array (Option Value)} {t1 t2 t3' t4' : Nat} (l : K.lookup z = some ⟨.type "tuple", dd, .seq #[.int 0 t1, .int 0 t2, .int 0 t3', .int 0 t4'] n, sl⟩) : ∀ G, Rp K G (t4 ⟨0, 0, 0, 0⟩) (.ref z) := fun G =>
  .tup (vs := [.int 0, .int 0, .int 0, .int 0]) (.inr ⟨_, _, n, l, rfl, rfl, by show 4 ≤ sizeLine; decide, .cons ⟨_, rfl⟩ (.cons ⟨_, rfl⟩ (.cons ⟨_, rfl⟩ (.cons ⟨_, rfl⟩ .nil)))⟩) (.cons (.int 0) (.cons (.int 0) (.cons (.int 0) (.cons (.int 0) .nil))))
theorem all_mk {l : PySem.W.OpenLaw} {w : World} {K : PySem.W.Frag} {h : Heap} {mg : Str → Option Value} {fa z : Addr} (X : K.In h) (G : h.Ns mainGlobals mg) (hfa : mg "law" = some (.ref fa))
    (F9 : FK K "is_number" sIsNumber)
    (F10 : FK K "check_number" sCheckNumber)
    (F11 : FK K "check_not_zero" sCheckNotZero)
    (F12 : FK K "norm" sNorm)
    (F14 : FK K "divisor_of" sDivisorOf)
    (F15 : FK K "lowest" sLowest)
    (F16 : FK K "times" sTimes)
    (F17 : FK K "swapped" sSwapped)
    (F18 : FK K "determinant" sDeterminant)
    (F19 : FK K "is_row" sIsRow)
    (F20 : FK K "check_turn" sCheckTurn)
    (F21 : FK K "turn_of" sTurnOf)
    (F22 : FK K "inverse" sInverse)
    (F25 : FK K "without" sWithout)
    (F26 : FK K "lowered" sLowered)
    (F27 : FK K "base_form" sBaseForm)
    (F28 : FK K "turned_round" sTurnedRound)
    (F29 : FK K "check_turns" sCheckTurns)
    (F30 : FK K "common_base" sCommonBase)
    (F31 : FK K "common_index" sCommonIndex)
    (F32 : FK K "is_common" sIsCommon)
    (F34 : FK K "_law_row" sLRow)
    (F35 : FK K "_law_numbers" sLNumbers)
    (F36 : FK K "_law_number" sLNumber)
    (F37 : FK K "_law_great" sLGreat)
    (F38 : FK K "_law_drawn" sLDrawn)
    (F39 : FK K "_law_square" sLSquare)
    (F40 : FK K "_law_divisor" sLDivisor)
    (F41 : FK K "_law_primitive" sLPrimitive)
    (F42 : FK K "_law_times" sLTimes)
    (F43 : FK K "_law_whole" sLWhole)
    (F44 : FK K "law" sLaw)
    (b_abs : PySem.W.nsIn K mainGlobals "abs" = some none)
    (b_all : PySem.W.nsIn K mainGlobals "all" = some none)
    (b_any : PySem.W.nsIn K mainGlobals "any" = some none)
    (b_bool : PySem.W.nsIn K mainGlobals "bool" = some none)
    (b_enumerate : PySem.W.nsIn K mainGlobals "enumerate" = some none)
    (b_int : PySem.W.nsIn K mainGlobals "int" = some none)
    (b_isinstance : PySem.W.nsIn K mainGlobals "isinstance" = some none)
    (b_len : PySem.W.nsIn K mainGlobals "len" = some none)
    (b_list : PySem.W.nsIn K mainGlobals "list" = some none)
    (b_max : PySem.W.nsIn K mainGlobals "max" = some none)
    (b_min : PySem.W.nsIn K mainGlobals "min" = some none)
    (b_range : PySem.W.nsIn K mainGlobals "range" = some none)
    (b_sum : PySem.W.nsIn K mainGlobals "sum" = some none)
    (b_tuple : PySem.W.nsIn K mainGlobals "tuple" = some none)
    (b_zip : PySem.W.nsIn K mainGlobals "zip" = some none)
    (b_gcd : PySem.W.nsIn K mainGlobals "gcd" = some (some (.builtin "math.gcd"))) (b_lcm : PySem.W.nsIn K mainGlobals "lcm" = some (some (.builtin "math.lcm")))
    {tp tm : Nat} (b_parts : PySem.W.nsIn K mainGlobals "PARTS" = some (some (.int 4 tp))) (b_most : PySem.W.nsIn K mainGlobals "MOST_TURNS" = some (some (.int 6 tm)))
    (b_zero : PySem.W.nsIn K mainGlobals "ZERO" = some (some (.ref z))) {dd : Option Addr} {n : Nat} {sl : Array (Option Value)} {t1 t2 t3' t4' : Nat} (l_zero : K.lookup z = some ⟨.type "tuple", dd, .seq #[.int 0 t1, .int 0 t2, .int 0 t3', .int 0 t4'] n, sl⟩) :
    ∃ fd : FuncData, (∀ (s : Shared) (v : Value), BindsTo s fd ⟨[v], []⟩ [("_law_script", v)]) ∧ ∀ base : Heap, K.In base → base.Ns mainGlobals mg → FnOk l.prog w K mg base CX0 7 fa fd ["_law_script"] (spLaw K) := by
  have T : Tx K mg := ⟨PySem.W.mg_none_of X G b_abs, PySem.W.mg_none_of X G b_all, PySem.W.mg_none_of X G b_any, PySem.W.mg_none_of X G b_bool, PySem.W.mg_none_of X G b_enumerate, PySem.W.mg_none_of X G b_int, PySem.W.mg_none_of X G b_isinstance, PySem.W.mg_none_of X G b_len, PySem.W.mg_none_of X G b_list, PySem.W.mg_none_of X G b_max, PySem.W.mg_none_of X G b_min, PySem.W.mg_none_of X G b_range, PySem.W.mg_none_of X G b_sum, PySem.W.mg_none_of X G b_tuple, PySem.W.mg_none_of X G b_zip, PySem.W.mg_of X G b_gcd, PySem.W.mg_of X G b_lcm, ⟨_, PySem.W.mg_of X G b_parts, ⟨_, rfl⟩⟩, ⟨_, PySem.W.mg_of X G b_most, ⟨_, rfl⟩⟩, ⟨.ref z, _, PySem.W.mg_of X G b_zero, rfl, zero_rp l_zero⟩⟩
  obtain ⟨fl, fd, al, FL⟩ := F44.ex
  have e := hfa.symm.trans (PySem.W.mg_of X G al)
  cases e
  obtain ⟨oc, od, kV, doc, pm, an, cdv, ct, osl, rfl, lk, hcd⟩ := FL.ex
  refine ⟨PySem.W.fnOf "law" "law" (defArgs sLaw) (defBody sLaw) (defScope sLaw) .none kV doc pm an cdv ct, fun s v => .of_eq rfl, fun base _ _ => ?_⟩
  have isn := at_is_number (P := l.prog) (w := w) (base := base) T (F9.at X G)
  have chn := at_check_number (P := l.prog) (w := w) (base := base) T (F10.at X G) isn
  have cnz := at_check_not_zero (P := l.prog) (w := w) (base := base) T (F11.at X G) chn
  have nrm := at_norm (P := l.prog) (w := w) (base := base) T (F12.at X G) chn
  have dvo := at_divisor_of (P := l.prog) (w := w) (base := base) T (F14.at X G)
  have low := at_lowest (P := l.prog) (w := w) (base := base) T (F15.at X G) dvo
  have tim := at_times (P := l.prog) (w := w) (base := base) T (F16.at X G)
  have swp := at_swapped (P := l.prog) (w := w) (base := base) T (F17.at X G)
  have det := at_determinant (P := l.prog) (w := w) (base := base) (F18.at X G)
  have ir1 := at_is_row1 (P := l.prog) (w := w) (base := base) T (F19.at X G)
  have ir3 := at_is_row3 (P := l.prog) (w := w) (base := base) T (F19.at X G)
  have cht := at_check_turn (P := l.prog) (w := w) (base := base) T (F20.at X G) ir1 ir3 tim swp det low
  have tuo := at_turn_of (P := l.prog) (w := w) (base := base) (F21.at X G) cnz nrm low
  have inv := at_inverse (P := l.prog) (w := w) (base := base) T (F22.at X G) cht swp
  have wio := at_without (P := l.prog) (w := w) (base := base) T (F25.at X G)
  have lwd := at_lowered (P := l.prog) (w := w) (base := base) T (F26.at X G) wio
  have bfm := at_base_form (P := l.prog) (w := w) (base := base) T (F27.at X G) wio lwd
  have trd := at_turned_round (P := l.prog) (w := w) (base := base) T (F28.at X G)
  have chs := at_check_turns (P := l.prog) (w := w) (base := base) T (F29.at X G) cht
  have cba := at_common_base (P := l.prog) (w := w) (base := base) T (F30.at X G) chs bfm trd
  have cix := at_common_index (P := l.prog) (w := w) (base := base) T (F31.at X G) cba det
  have cic := at_is_common (P := l.prog) (w := w) (base := base) T (F32.at X G) chs ir3
  have lrw := at_lrow (P := l.prog) (w := w) (base := base) T (F34.at X G)
  have lns := at_lnumbers (P := l.prog) (w := w) (base := base) T (F35.at X G) lrw
  have lnr := at_lnumber (P := l.prog) (w := w) (base := base) T (F36.at X G)
  have lgr := at_lgreat (P := l.prog) (w := w) (base := base) T (F37.at X G)
  have ldr := at_ldrawn (P := l.prog) (w := w) (base := base) T (F38.at X G) lgr lnr
  have lsq := at_lsquare (P := l.prog) (w := w) (base := base) T (F39.at X G)
  have ldv := at_ldivisor (P := l.prog) (w := w) (base := base) T (F40.at X G)
  have lpr := at_lprimitive (P := l.prog) (w := w) (base := base) T (F41.at X G) ldv
  have lti := at_ltimes (P := l.prog) (w := w) (base := base) (F42.at X G)
  have lwh := at_lwhole (P := l.prog) (w := w) (base := base) T (F43.at X G) lti
  exact FnOk.imp (ok_law T FL lns ldr tuo lsq lpr cix inv cba cic lwh) sp_law
theorem walk {l : PySem.W.OpenLaw} {q : Program} {loose : List Str} {XP : (Str → Option Value) → Heap → Prop} {YP : World → Heap → Prop} {d : DefRec} {K : Params → PySem.W.Frag} (hn : l.most = some 63) (hdf : d.params.defaults = [])
    (hY : ∀ (w : World) (h : Heap), YP w h → (K w.params).In h)
    (F : ∀ (w : World) (mg : Str → Option Value) (fa : Addr) (h : Heap), (K w.params).In h → h.Ns mainGlobals mg → mg d.name = some (.ref fa) →
      ∃ fd : FuncData, (∀ (s : Shared) (u : Value), BindsTo s fd ⟨[u], []⟩ [("_law_script", u)]) ∧ ∀ base : Heap, (K w.params).In base → base.Ns mainGlobals mg → FnOk l.prog w (K w.params) mg base CX0 7 fa fd ["_law_script"] (spLaw (K w.params))) :
    PySem.W.WalkO q loose XP YP l.row.toRowW d [] (fun f vs => PySem.call f vs) :=
  L2.walk_of (n := 63) (k := 7) (x := "_law_script") (CX := fun _ => CX0) (sp := fun w => spLaw (K w.params)) hn (by decide) hdf ⟨rfl, by decide, by decide⟩ hY F (fun _ _ a ns hl _ hS => ⟨a, ns, rfl, hS, fun _ => rfl⟩) fun _ _ _ _ _ z => z
end Tp
end

set_option Elab.async false

open PySem PySem.W PyProof.Rows in
set_option maxRecDepth 100000 in
set_option maxHeartbeats 0 in
theorem PySem.Challenge.cw_turnprimes_k45_whole_sizes_and_norms_holds : PySem.Challenge.rw_turnprimes_k45_whole_sizes_and_norms.Holds := by
  w_on; o_law; k_head; (case hw => w_witness2)
  k_fill
  refine Tp.walk (l := PySem.Challenge.rw_turnprimes_k45_whole_sizes_and_norms) rfl rfl (fun w h Y => PySem.W.kIn_of Y) ?F
  case F =>
    intro w mg fa h KX G hmg
    refine' Tp.all_mk KX G hmg ?F9 ?F10 ?F11 ?F12 ?F14 ?F15 ?F16 ?F17 ?F18 ?F19 ?F20 ?F21 ?F22 ?F25 ?F26 ?F27 ?F28 ?F29 ?F30 ?F31 ?F32 ?F34 ?F35 ?F36 ?F37 ?F38 ?F39 ?F40 ?F41 ?F42 ?F43 ?F44 ?b_abs ?b_all ?b_any ?b_bool ?b_enumerate ?b_int ?b_isinstance ?b_len ?b_list ?b_max ?b_min ?b_range ?b_sum ?b_tuple ?b_zip ?b_gcd ?b_lcm ?b_parts ?b_most ?b_zero ?l_zero
    (case F9 => (refine' Tp.FK.mk' ?a ?l ?c ?k; (case a => k_is); (case l => k_is); (case c => k_is); (case k => k_is)))
    (case F10 => (refine' Tp.FK.mk' ?a ?l ?c ?k; (case a => k_is); (case l => k_is); (case c => k_is); (case k => k_is)))
    (case F11 => (refine' Tp.FK.mk' ?a ?l ?c ?k; (case a => k_is); (case l => k_is); (case c => k_is); (case k => k_is)))
    (case F12 => (refine' Tp.FK.mk' ?a ?l ?c ?k; (case a => k_is); (case l => k_is); (case c => k_is); (case k => k_is)))
    (case F14 => (refine' Tp.FK.mk' ?a ?l ?c ?k; (case a => k_is); (case l => k_is); (case c => k_is); (case k => k_is)))
    (case F15 => (refine' Tp.FK.mk' ?a ?l ?c ?k; (case a => k_is); (case l => k_is); (case c => k_is); (case k => k_is)))
    (case F16 => (refine' Tp.FK.mk' ?a ?l ?c ?k; (case a => k_is); (case l => k_is); (case c => k_is); (case k => k_is)))
    (case F17 => (refine' Tp.FK.mk' ?a ?l ?c ?k; (case a => k_is); (case l => k_is); (case c => k_is); (case k => k_is)))
    (case F18 => (refine' Tp.FK.mk' ?a ?l ?c ?k; (case a => k_is); (case l => k_is); (case c => k_is); (case k => k_is)))
    (case F19 => (refine' Tp.FK.mk' ?a ?l ?c ?k; (case a => k_is); (case l => k_is); (case c => k_is); (case k => k_is)))
    (case F20 => (refine' Tp.FK.mk' ?a ?l ?c ?k; (case a => k_is); (case l => k_is); (case c => k_is); (case k => k_is)))
    (case F21 => (refine' Tp.FK.mk' ?a ?l ?c ?k; (case a => k_is); (case l => k_is); (case c => k_is); (case k => k_is)))
    (case F22 => (refine' Tp.FK.mk' ?a ?l ?c ?k; (case a => k_is); (case l => k_is); (case c => k_is); (case k => k_is)))
    (case F25 => (refine' Tp.FK.mk' ?a ?l ?c ?k; (case a => k_is); (case l => k_is); (case c => k_is); (case k => k_is)))
    (case F26 => (refine' Tp.FK.mk' ?a ?l ?c ?k; (case a => k_is); (case l => k_is); (case c => k_is); (case k => k_is)))
    (case F27 => (refine' Tp.FK.mk' ?a ?l ?c ?k; (case a => k_is); (case l => k_is); (case c => k_is); (case k => k_is)))
    (case F28 => (refine' Tp.FK.mk' ?a ?l ?c ?k; (case a => k_is); (case l => k_is); (case c => k_is); (case k => k_is)))
    (case F29 => (refine' Tp.FK.mk' ?a ?l ?c ?k; (case a => k_is); (case l => k_is); (case c => k_is); (case k => k_is)))
    (case F30 => (refine' Tp.FK.mk' ?a ?l ?c ?k; (case a => k_is); (case l => k_is); (case c => k_is); (case k => k_is)))
    (case F31 => (refine' Tp.FK.mk' ?a ?l ?c ?k; (case a => k_is); (case l => k_is); (case c => k_is); (case k => k_is)))
    (case F32 => (refine' Tp.FK.mk' ?a ?l ?c ?k; (case a => k_is); (case l => k_is); (case c => k_is); (case k => k_is)))
    (case F34 => (refine' Tp.FK.mk' ?a ?l ?c ?k; (case a => k_is); (case l => k_is); (case c => k_is); (case k => k_is)))
    (case F35 => (refine' Tp.FK.mk' ?a ?l ?c ?k; (case a => k_is); (case l => k_is); (case c => k_is); (case k => k_is)))
    (case F36 => (refine' Tp.FK.mk' ?a ?l ?c ?k; (case a => k_is); (case l => k_is); (case c => k_is); (case k => k_is)))
    (case F37 => (refine' Tp.FK.mk' ?a ?l ?c ?k; (case a => k_is); (case l => k_is); (case c => k_is); (case k => k_is)))
    (case F38 => (refine' Tp.FK.mk' ?a ?l ?c ?k; (case a => k_is); (case l => k_is); (case c => k_is); (case k => k_is)))
    (case F39 => (refine' Tp.FK.mk' ?a ?l ?c ?k; (case a => k_is); (case l => k_is); (case c => k_is); (case k => k_is)))
    (case F40 => (refine' Tp.FK.mk' ?a ?l ?c ?k; (case a => k_is); (case l => k_is); (case c => k_is); (case k => k_is)))
    (case F41 => (refine' Tp.FK.mk' ?a ?l ?c ?k; (case a => k_is); (case l => k_is); (case c => k_is); (case k => k_is)))
    (case F42 => (refine' Tp.FK.mk' ?a ?l ?c ?k; (case a => k_is); (case l => k_is); (case c => k_is); (case k => k_is)))
    (case F43 => (refine' Tp.FK.mk' ?a ?l ?c ?k; (case a => k_is); (case l => k_is); (case c => k_is); (case k => k_is)))
    (case F44 => (refine' Tp.FK.mk' ?a ?l ?c ?k; (case a => k_is); (case l => k_is); (case c => k_is); (case k => k_is)))
    (case b_abs => k_is)
    (case b_all => k_is)
    (case b_any => k_is)
    (case b_bool => k_is)
    (case b_enumerate => k_is)
    (case b_int => k_is)
    (case b_isinstance => k_is)
    (case b_len => k_is)
    (case b_list => k_is)
    (case b_max => k_is)
    (case b_min => k_is)
    (case b_range => k_is)
    (case b_sum => k_is)
    (case b_tuple => k_is)
    (case b_zip => k_is)
    (case b_gcd => k_is)
    (case b_lcm => k_is)
    (case b_parts => k_is)
    (case b_most => k_is)
    (case b_zero => k_is)
    (case l_zero => k_is)

import PyProof.Rows.All
import Wide.All
import OpenK.AllK
import Wide.FinOn
import HandS.ForMost
import HandS.Wide
import HandS.IsInst
import HandS.Star
import HandS.Style
import HandS.RaiseMore
import KE.KSuper
import HandS.ClsMeth
import PySem.Challenge.RW_bendsigns_k47_whole_fourth_symbols_by_po
set_option Elab.async false
set_option linter.all false
/-! ## 1. The law of the fourth powers, in plain Lean -/
section
set_option autoImplicit false
namespace FS
/-- Gaussian integers -/
structure G where
  re : Int
  im : Int
deriving DecidableEq, Repr

namespace G
instance : Inhabited G := ⟨⟨0, 0⟩⟩
protected def add (a b : G) : G := ⟨a.re + b.re, a.im + b.im⟩
protected def sub (a b : G) : G := ⟨a.re - b.re, a.im - b.im⟩
protected def mul (a b : G) : G := ⟨a.re * b.re - a.im * b.im, a.re * b.im + a.im * b.re⟩
protected def neg (a : G) : G := ⟨-a.re, -a.im⟩
instance : Add G := ⟨G.add⟩
instance : Sub G := ⟨G.sub⟩
instance : Mul G := ⟨G.mul⟩
instance : Neg G := ⟨G.neg⟩
instance : NatCast G := ⟨fun n => ⟨n, 0⟩⟩
instance : IntCast G := ⟨fun n => ⟨n, 0⟩⟩
instance (n : Nat) : OfNat G n := ⟨⟨n, 0⟩⟩
protected def npow (a : G) : Nat → G
  | 0 => 1
  | n + 1 => G.npow a n * a
instance : HPow G Nat G := ⟨G.npow⟩
instance : SMul Nat G := ⟨fun n a => (n : G) * a⟩
instance : SMul Int G := ⟨fun n a => (n : G) * a⟩

theorem ext {a b : G} (h1 : a.re = b.re) (h2 : a.im = b.im) : a = b := by
  cases a; cases b; simp_all
theorem ext_iff {a b : G} : a = b ↔ a.re = b.re ∧ a.im = b.im :=
  ⟨fun h => by subst h; exact ⟨rfl, rfl⟩, fun h => ext h.1 h.2⟩

@[simp] theorem add_re (a b : G) : (a + b).re = a.re + b.re := rfl
@[simp] theorem add_im (a b : G) : (a + b).im = a.im + b.im := rfl
@[simp] theorem sub_re (a b : G) : (a - b).re = a.re - b.re := rfl
@[simp] theorem sub_im (a b : G) : (a - b).im = a.im - b.im := rfl
@[simp] theorem mul_re (a b : G) : (a * b).re = a.re * b.re - a.im * b.im := rfl
@[simp] theorem mul_im (a b : G) : (a * b).im = a.re * b.im + a.im * b.re := rfl
@[simp] theorem neg_re (a : G) : (-a).re = -a.re := rfl
@[simp] theorem neg_im (a : G) : (-a).im = -a.im := rfl
@[simp] theorem zero_re : (0 : G).re = 0 := rfl
@[simp] theorem zero_im : (0 : G).im = 0 := rfl
@[simp] theorem one_re : (1 : G).re = 1 := rfl
@[simp] theorem one_im : (1 : G).im = 0 := rfl
@[simp] theorem natCast_re (n : Nat) : (n : G).re = n := rfl
@[simp] theorem natCast_im (n : Nat) : (n : G).im = 0 := rfl
@[simp] theorem intCast_re (n : Int) : (n : G).re = n := rfl
@[simp] theorem intCast_im (n : Int) : (n : G).im = 0 := rfl

instance : Lean.Grind.CommRing G where
  add_zero a := ext (by simp) (by simp)
  add_comm a b := ext (by simp; omega) (by simp; omega)
  add_assoc a b c := ext (by simp; omega) (by simp; omega)
  mul_assoc a b c := ext (by simp; grind) (by simp; grind)
  mul_one a := ext (by simp) (by simp)
  one_mul a := ext (by simp) (by simp)
  left_distrib a b c := ext (by simp; grind) (by simp; grind)
  right_distrib a b c := ext (by simp; grind) (by simp; grind)
  zero_mul a := ext (by simp) (by simp)
  mul_zero a := ext (by simp) (by simp)
  mul_comm a b := ext (by simp; grind) (by simp; grind)
  pow_zero a := rfl
  pow_succ a n := rfl
  ofNat_succ n := ext (by show ((n + 1 : Nat) : Int) = (n : Int) + 1; omega) (by show (0 : Int) = 0 + 0; rfl)
  ofNat_eq_natCast n := rfl
  nsmul_eq_natCast_mul n a := rfl
  neg_add_cancel a := ext (by simp; omega) (by simp; omega)
  sub_eq_add_neg a b := ext (by simp; omega) (by simp; omega)
  neg_zsmul i a := ext (by show (((-i : Int) : G) * a).re = (-((i : G) * a)).re; simp; grind) (by show (((-i : Int) : G) * a).im = (-((i : G) * a)).im; simp; grind)
  zsmul_natCast_eq_nsmul n a := rfl
  intCast_ofNat n := rfl
  intCast_neg i := ext (by simp) (by simp)

/-- i -/
def I : G := ⟨0, 1⟩
@[simp] theorem I_re : I.re = 0 := rfl
@[simp] theorem I_im : I.im = 1 := rfl
theorem I_mul_I : I * I = -1 := rfl
def conj (a : G) : G := ⟨a.re, -a.im⟩
@[simp] theorem conj_re (a : G) : (conj a).re = a.re := rfl
@[simp] theorem conj_im (a : G) : (conj a).im = -a.im := rfl
def norm (a : G) : Int := a.re * a.re + a.im * a.im
theorem conj_conj (a : G) : conj (conj a) = a := ext (by simp) (by simp)
theorem conj_mul (a b : G) : conj (a * b) = conj a * conj b := ext (by simp; grind) (by simp; grind)
theorem conj_add (a b : G) : conj (a + b) = conj a + conj b := ext (by simp) (by simp; omega)
theorem conj_sub (a b : G) : conj (a - b) = conj a - conj b := ext (by simp) (by simp; omega)
theorem conj_int (n : Int) : conj (n : G) = n := ext (by simp) (by simp)
theorem norm_conj (a : G) : norm (conj a) = norm a := by simp [norm]; grind
theorem norm_mul (a b : G) : norm (a * b) = norm a * norm b := by simp [norm]; grind
theorem mul_conj (a : G) : a * conj a = (norm a : G) := ext (by simp [norm]; grind) (by simp; grind)
theorem norm_nonneg (a : G) : 0 ≤ norm a := by
  unfold norm
  have h1 : 0 ≤ a.re * a.re := by
    rcases Int.le_total 0 a.re with h | h
    · exact Int.mul_nonneg h h
    · have := Int.mul_nonneg (show 0 ≤ -a.re by omega) (show 0 ≤ -a.re by omega); grind
  have h2 : 0 ≤ a.im * a.im := by
    rcases Int.le_total 0 a.im with h | h
    · exact Int.mul_nonneg h h
    · have := Int.mul_nonneg (show 0 ≤ -a.im by omega) (show 0 ≤ -a.im by omega); grind
  omega
theorem sq_nonneg (a : Int) : 0 ≤ a * a := by
  rcases Int.le_total 0 a with h | h
  · exact Int.mul_nonneg h h
  · have := Int.mul_nonneg (show 0 ≤ -a by omega) (show 0 ≤ -a by omega); grind
theorem sq_pos {a : Int} (h : a ≠ 0) : 0 < a * a := by
  rcases Int.lt_or_gt_of_ne h with h | h
  · have := Int.mul_pos (show 0 < -a by omega) (show 0 < -a by omega); grind
  · exact Int.mul_pos h h
theorem norm_eq_zero {a : G} (h : norm a = 0) : a = 0 := by
  unfold norm at h
  have h1 := sq_nonneg a.re
  have h2 := sq_nonneg a.im
  have h3 : a.re * a.re = 0 := by omega
  have h4 : a.im * a.im = 0 := by omega
  exact ext (by rcases Int.mul_eq_zero.mp h3 with h | h <;> exact h) (by rcases Int.mul_eq_zero.mp h4 with h | h <;> exact h)
theorem norm_pos {a : G} (h : a ≠ 0) : 0 < norm a := by
  have := norm_nonneg a
  rcases Int.lt_or_eq_of_le this with h1 | h1
  · exact h1
  · exact absurd (norm_eq_zero h1.symm) h
theorem norm_one : norm 1 = 1 := rfl
theorem norm_int (n : Int) : norm (n : G) = n * n := by simp [norm]
theorem int_mul_re (n : Int) (a : G) : ((n : G) * a).re = n * a.re := by simp
theorem int_mul_im (n : Int) (a : G) : ((n : G) * a).im = n * a.im := by simp
theorem mul_eq_zero {a b : G} (h : a * b = 0) : a = 0 ∨ b = 0 := by
  have h1 : norm a * norm b = 0 := by rw [← norm_mul, h]; rfl
  rcases Int.mul_eq_zero.mp h1 with h2 | h2
  · exact Or.inl (norm_eq_zero h2)
  · exact Or.inr (norm_eq_zero h2)
theorem mul_left_cancel {a b c : G} (ha : a ≠ 0) (h : a * b = a * c) : b = c := by
  have h1 : a * (b - c) = 0 := by grind
  rcases mul_eq_zero h1 with h2 | h2
  · exact absurd h2 ha
  · grind

/-- congruence modulo m -/
def Cong (m z w : G) : Prop := ∃ t, z - w = m * t
theorem Cong.refl (m z : G) : Cong m z z := ⟨0, by grind⟩
theorem Cong.of_eq {m z w : G} (h : z = w) : Cong m z w := ⟨0, by grind⟩
theorem Cong.symm {m z w : G} (h : Cong m z w) : Cong m w z := by
  obtain ⟨t, h⟩ := h; exact ⟨-t, by grind⟩
theorem Cong.trans {m z w u : G} (h : Cong m z w) (h' : Cong m w u) : Cong m z u := by
  obtain ⟨t, h⟩ := h; obtain ⟨t', h'⟩ := h'; exact ⟨t + t', by grind⟩
theorem Cong.mul_left {m z w : G} (a : G) (h : Cong m z w) : Cong m (a * z) (a * w) := by
  obtain ⟨t, h⟩ := h; exact ⟨a * t, by grind⟩
theorem Cong.mul_right {m z w : G} (a : G) (h : Cong m z w) : Cong m (z * a) (w * a) := by
  obtain ⟨t, h⟩ := h; exact ⟨a * t, by grind⟩
theorem Cong.add {m z w u v : G} (h : Cong m z w) (h' : Cong m u v) : Cong m (z + u) (w + v) := by
  obtain ⟨t, h⟩ := h; obtain ⟨t', h'⟩ := h'; exact ⟨t + t', by grind⟩
theorem Cong.sub {m z w u v : G} (h : Cong m z w) (h' : Cong m u v) : Cong m (z - u) (w - v) := by
  obtain ⟨t, h⟩ := h; obtain ⟨t', h'⟩ := h'; exact ⟨t - t', by grind⟩
theorem Cong.mul {m z w u v : G} (h : Cong m z w) (h' : Cong m u v) : Cong m (z * u) (w * v) := by
  obtain ⟨t, h⟩ := h; obtain ⟨t', h'⟩ := h'; exact ⟨t * u + w * t', by grind⟩
/-- m divides z -/
def Dv (m z : G) : Prop := ∃ t, z = m * t
theorem cong_zero {m z : G} : Cong m z 0 ↔ Dv m z := by
  constructor
  · rintro ⟨t, h⟩; exact ⟨t, by grind⟩
  · rintro ⟨t, h⟩; exact ⟨t, by grind⟩
theorem Cong.dv_iff {m z w : G} (h : Cong m z w) : Dv m z ↔ Dv m w := by
  obtain ⟨t, h⟩ := h
  constructor
  · rintro ⟨s, hs⟩; exact ⟨s - t, by grind⟩
  · rintro ⟨s, hs⟩; exact ⟨s + t, by grind⟩
theorem dv_refl (m : G) : Dv m m := ⟨1, by grind⟩
theorem dv_zero (m : G) : Dv m 0 := ⟨0, by grind⟩
theorem Dv.trans {a b c : G} (h : Dv a b) (h' : Dv b c) : Dv a c := by
  obtain ⟨t, rfl⟩ := h; obtain ⟨s, rfl⟩ := h'; exact ⟨t * s, by grind⟩
theorem Dv.mul_left {a b : G} (c : G) (h : Dv a b) : Dv a (c * b) := by
  obtain ⟨t, rfl⟩ := h; exact ⟨c * t, by grind⟩
theorem Dv.mul_right {a b : G} (c : G) (h : Dv a b) : Dv a (b * c) := by
  obtain ⟨t, rfl⟩ := h; exact ⟨c * t, by grind⟩
theorem Dv.add {a b c : G} (h : Dv a b) (h' : Dv a c) : Dv a (b + c) := by
  obtain ⟨t, rfl⟩ := h; obtain ⟨s, rfl⟩ := h'; exact ⟨t + s, by grind⟩
theorem Dv.sub {a b c : G} (h : Dv a b) (h' : Dv a c) : Dv a (b - c) := by
  obtain ⟨t, rfl⟩ := h; obtain ⟨s, rfl⟩ := h'; exact ⟨t - s, by grind⟩
theorem Dv.norm_dvd {a b : G} (h : Dv a b) : norm a ∣ norm b := by
  obtain ⟨t, rfl⟩ := h; exact ⟨norm t, norm_mul a t⟩

/-- nothing but units divides both -/
def Cop (a b : G) : Prop := ∃ s t, a * s + b * t = 1
theorem Cop.symm {a b : G} (h : Cop a b) : Cop b a := by
  obtain ⟨s, t, h⟩ := h; exact ⟨t, s, by grind⟩
theorem Cop.of_cong {a a' b : G} (h : Cop a b) (e : Cong b a a') : Cop a' b := by
  obtain ⟨s, t, h⟩ := h; obtain ⟨u, e⟩ := e; exact ⟨s, t + u * s, by grind⟩
theorem Cop.mul_left {a c b : G} (h : Cop a b) (h' : Cop c b) : Cop (a * c) b := by
  obtain ⟨s, t, h⟩ := h; obtain ⟨s', t', h'⟩ := h'
  refine ⟨s * s', a * s * t' + t * (c * s' + b * t'), ?_⟩
  have e1 : a * s = 1 - b * t := by grind
  have e2 : c * s' = 1 - b * t' := by grind
  have : a * c * (s * s') = (a * s) * (c * s') := by grind
  rw [this, e1, e2]; grind
theorem Cop.mul_right {a b c : G} (h : Cop a b) (h' : Cop a c) : Cop a (b * c) :=
  (Cop.mul_left h.symm h'.symm).symm
theorem Cop.of_dv {a b d : G} (h : Cop a b) (e : Dv d b) : Cop a d := by
  obtain ⟨s, t, h⟩ := h; obtain ⟨u, rfl⟩ := e; exact ⟨s, u * t, by grind⟩
theorem Cop.of_dv_left {a b d : G} (h : Cop a b) (e : Dv d a) : Cop d b := (h.symm.of_dv e).symm
theorem cop_one (a : G) : Cop a 1 := ⟨0, 1, by grind⟩
theorem one_cop (a : G) : Cop 1 a := ⟨1, 0, by grind⟩
theorem Cop.neg {a b : G} (h : Cop a b) : Cop (-a) b := by
  obtain ⟨s, t, h⟩ := h; exact ⟨-s, t, by grind⟩
theorem I_cop (a : G) : Cop I a := ⟨-I, 0, by have := I_mul_I; grind⟩
theorem Cop.conj {a b : G} (h : Cop a b) : Cop (conj a) (conj b) := by
  obtain ⟨s, t, h⟩ := h
  refine ⟨G.conj s, G.conj t, ?_⟩
  rw [← conj_mul, ← conj_mul, ← conj_add, h]; rfl
theorem Cop.dv_of_dv_mul {a b z : G} (h : Cop a b) (e : Dv b (a * z)) : Dv b z := by
  obtain ⟨s, t, h⟩ := h; obtain ⟨u, e⟩ := e
  refine ⟨s * u + t * z, ?_⟩
  have : z = (a * s + b * t) * z := by rw [h]; grind
  have e2 : z = s * (a * z) + b * t * z := by grind
  rw [e2, e]; grind
theorem Cop.cong_of_cong_mul {a b z w : G} (h : Cop a b) (e : Cong b (a * z) (a * w)) : Cong b z w := by
  obtain ⟨u, e⟩ := e
  have : Dv b (a * (z - w)) := ⟨u, by grind⟩
  obtain ⟨t, ht⟩ := h.dv_of_dv_mul this
  exact ⟨t, ht⟩
/-- an inverse -/
theorem Cop.inv {a b : G} (h : Cop a b) : ∃ c, Cop c b ∧ Cong b (a * c) 1 := by
  obtain ⟨s, t, h⟩ := h
  exact ⟨s, ⟨a, t, by grind⟩, ⟨-t, by grind⟩⟩

/-- division: the rest is smaller -/
def nearQ (x n : Int) : Int := (2 * x + n) / (2 * n)
theorem nearQ_spec {x n : Int} (hn : 0 < n) : -n ≤ 2 * (x - n * nearQ x n) ∧ 2 * (x - n * nearQ x n) ≤ n := by
  unfold nearQ
  have h1 := Int.emod_add_mul_ediv (2 * x + n) (2 * n)
  have h2 := Int.emod_nonneg (2 * x + n) (show 2 * n ≠ 0 by omega)
  have h3 := Int.emod_lt_of_pos (2 * x + n) (show 0 < 2 * n by omega)
  generalize (2 * x + n) / (2 * n) = q at *
  have h4 : 2 * n * q = 2 * (n * q) := by grind
  omega
theorem div_exists (a m : G) (hm : m ≠ 0) : ∃ q, norm (a - m * q) < norm m := by
  have hN := norm_pos hm
  let w := a * conj m
  refine ⟨⟨nearQ w.re (norm m), nearQ w.im (norm m)⟩, ?_⟩
  have hr := nearQ_spec (x := w.re) hN
  have hi := nearQ_spec (x := w.im) hN
  generalize hN' : norm m = N at *
  generalize hp : nearQ w.re N = p at *
  generalize hq : nearQ w.im N = q at *
  have e : (a - m * ⟨p, q⟩) * conj m = ⟨w.re - N * p, w.im - N * q⟩ := by
    have : (a - m * ⟨p, q⟩) * conj m = w - (m * conj m) * ⟨p, q⟩ := by grind
    rw [this, mul_conj, hN']; apply ext <;> simp
  have e2 : norm (a - m * ⟨p, q⟩) * N = (w.re - N * p) * (w.re - N * p) + (w.im - N * q) * (w.im - N * q) := by
    have h1 : norm (a - m * ⟨p, q⟩) * norm (conj m) = norm (a - m * ⟨p, q⟩) * N := by rw [norm_conj, hN']
    rw [← h1, ← norm_mul, e]; rfl
  generalize w.re - N * p = x at *
  generalize w.im - N * q = y at *
  have b1 : 4 * (x * x) ≤ N * N := by
    have := Int.mul_nonneg (show 0 ≤ N - 2 * x by omega) (show 0 ≤ N + 2 * x by omega); grind
  have b2 : 4 * (y * y) ≤ N * N := by
    have := Int.mul_nonneg (show 0 ≤ N - 2 * y by omega) (show 0 ≤ N + 2 * y by omega); grind
  have b3 : 0 < N * N := Int.mul_pos hN hN
  have : norm (a - m * ⟨p, q⟩) * N < N * N := by omega
  exact Int.lt_of_mul_lt_mul_right this (by omega)
theorem bezout (a b : G) : ∃ d s t, a * s + b * t = d ∧ Dv d a ∧ Dv d b := by
  by_cases hb : b = 0
  · exact ⟨a, 1, 0, by grind, dv_refl a, by subst hb; exact dv_zero a⟩
  · obtain ⟨q, hq⟩ := div_exists a b hb
    have := norm_nonneg (a - b * q)
    obtain ⟨d, s, t, h1, h2, h3⟩ := bezout b (a - b * q)
    refine ⟨d, t, s - q * t, by grind, ?_, h2⟩
    have := h3.add (h2.mul_right q)
    have e : a - b * q + b * q = a := by grind
    rwa [e] at this
termination_by (norm b).toNat
decreasing_by omega
theorem int_bezout (a b : Int) : ∃ d s t : Int, a * s + b * t = d ∧ d ∣ a ∧ d ∣ b := by
  by_cases hb : b = 0
  · exact ⟨a, 1, 0, by grind, Int.dvd_refl a, by subst hb; exact Int.dvd_zero a⟩
  · obtain ⟨d, s, t, h1, h2, h3⟩ := int_bezout b (a % b)
    have e := Int.emod_add_mul_ediv a b
    refine ⟨d, t, s - (a / b) * t, by grind, ?_, h2⟩
    rw [← e]
    exact Int.dvd_add h3 (Int.dvd_trans h2 (Int.dvd_mul_right b (a / b)))
termination_by b.natAbs
decreasing_by
  have h1 := Int.emod_nonneg a hb
  have h2 := Int.emod_lt a hb
  omega
theorem cop_int {a b s t : Int} (h : a * s + b * t = 1) : Cop (a : G) (b : G) :=
  ⟨(s : G), (t : G), ext (by simp; omega) (by simp)⟩
theorem int_of_cop {a b : Int} (h : Cop (a : G) (b : G)) : ∃ s t : Int, a * s + b * t = 1 := by
  obtain ⟨s, t, h⟩ := h
  have := (ext_iff.mp h).1
  exact ⟨s.re, t.re, by simpa using this⟩
end G
end FS
namespace FS
/-- a sum over a list -/
def S {α : Type} (L : List α) (g : α → Int) : Int := (L.map g).sum
section
variable {α β γ : Type}
@[simp] theorem S_nil (g : α → Int) : S [] g = 0 := rfl
@[simp] theorem S_cons (a : α) (L : List α) (g : α → Int) : S (a :: L) g = g a + S L g := by simp [S]
theorem S_append (L M : List α) (g : α → Int) : S (L ++ M) g = S L g + S M g := by
  induction L with
  | nil => simp
  | cons a L ih => simp [ih]; omega
theorem S_map (L : List α) (φ : α → β) (g : β → Int) : S (L.map φ) g = S L (fun x => g (φ x)) := by
  induction L with
  | nil => rfl
  | cons a L ih => simp [ih]
theorem S_congr {L : List α} {g h : α → Int} (e : ∀ x ∈ L, g x = h x) : S L g = S L h := by
  induction L with
  | nil => rfl
  | cons a L ih =>
    rw [S_cons, S_cons, e a (by simp), ih (fun x hx => e x (by simp [hx]))]
theorem S_add (L : List α) (g h : α → Int) : S L (fun x => g x + h x) = S L g + S L h := by
  induction L with
  | nil => rfl
  | cons a L ih => simp only [S_cons, ih]; omega
theorem S_sub (L : List α) (g h : α → Int) : S L (fun x => g x - h x) = S L g - S L h := by
  induction L with
  | nil => rfl
  | cons a L ih => simp only [S_cons, ih]; omega
theorem S_neg (L : List α) (g : α → Int) : S L (fun x => - g x) = - S L g := by
  induction L with
  | nil => rfl
  | cons a L ih => simp only [S_cons, ih]; omega
theorem S_mul (c : Int) (L : List α) (g : α → Int) : S L (fun x => c * g x) = c * S L g := by
  induction L with
  | nil => simp
  | cons a L ih => simp only [S_cons, ih]; grind
theorem S_mul_right (c : Int) (L : List α) (g : α → Int) : S L (fun x => g x * c) = S L g * c := by
  induction L with
  | nil => simp
  | cons a L ih => simp only [S_cons, ih]; grind
theorem S_const (c : Int) (L : List α) : S L (fun _ => c) = (L.length : Int) * c := by
  induction L with
  | nil => simp
  | cons a L ih => simp only [S_cons, ih, List.length_cons]; grind
theorem S_zero (L : List α) : S L (fun _ => 0) = 0 := by rw [S_const]; simp
theorem S_eq_zero {L : List α} {g : α → Int} (e : ∀ x ∈ L, g x = 0) : S L g = 0 := by
  rw [S_congr e, S_zero]
theorem S_perm {L M : List α} (h : L.Perm M) (g : α → Int) : S L g = S M g := by
  induction h with
  | nil => rfl
  | cons a _ ih => simp [ih]
  | swap a b l => simp; omega
  | trans _ _ h1 h2 => exact h1.trans h2
theorem S_comm (L : List α) (M : List β) (g : α → β → Int) :
    S L (fun a => S M (fun b => g a b)) = S M (fun b => S L (fun a => g a b)) := by
  induction L with
  | nil => simp [S_zero]
  | cons a L ih => simp only [S_cons, ih, S_add]
theorem S_flatMap (L : List α) (φ : α → List β) (g : β → Int) :
    S (L.flatMap φ) g = S L (fun a => S (φ a) g) := by
  induction L with
  | nil => rfl
  | cons a L ih => simp only [List.flatMap_cons, S_append, S_cons, ih]
theorem S_filter (p : α → Bool) (L : List α) (g : α → Int) :
    S (L.filter p) g = S L (fun x => if p x = true then g x else 0) := by
  induction L with
  | nil => rfl
  | cons a L ih =>
    by_cases h : p a = true
    · simp [h, ih]
    · simp [h, ih]
theorem S_mod {L : List α} {g h : α → Int} (e : ∀ x ∈ L, g x % 4 = h x % 4) : S L g % 4 = S L h % 4 := by
  induction L with
  | nil => rfl
  | cons a L ih =>
    have h1 := e a (by simp)
    have h2 := ih (fun x hx => e x (by simp [hx]))
    simp only [S_cons]; omega
theorem S_dvd {L : List α} {g : α → Int} {c : Int} (e : ∀ x ∈ L, c ∣ g x) : c ∣ S L g := by
  induction L with
  | nil => exact Int.dvd_zero c
  | cons a L ih =>
    simp only [S_cons]
    exact Int.dvd_add (e a (by simp)) (ih (fun x hx => e x (by simp [hx])))

theorem nodup_map_on {L : List α} {φ : α → β} (h : L.Nodup)
    (inj : ∀ x ∈ L, ∀ y ∈ L, φ x = φ y → x = y) : (L.map φ).Nodup := by
  induction L with
  | nil => simp
  | cons a L ih =>
    rw [List.nodup_cons] at h
    rw [List.map_cons, List.nodup_cons]
    refine ⟨?_, ih h.2 (fun x hx y hy => inj x (by simp [hx]) y (by simp [hy]))⟩
    intro hm
    obtain ⟨x, hx, e⟩ := List.mem_map.mp hm
    have := inj x (by simp [hx]) a (by simp) e
    subst this
    exact h.1 hx
theorem perm_of_bij {L1 : List α} {L2 : List β} (h1 : L1.Nodup) (h2 : L2.Nodup) (φ : α → β)
    (maps : ∀ x ∈ L1, φ x ∈ L2) (inj : ∀ x ∈ L1, ∀ y ∈ L1, φ x = φ y → x = y)
    (surj : ∀ y ∈ L2, ∃ x ∈ L1, φ x = y) : (L1.map φ).Perm L2 := by
  rw [List.perm_ext_iff_of_nodup (nodup_map_on h1 inj) h2]
  intro y
  constructor
  · intro hy
    obtain ⟨x, hx, rfl⟩ := List.mem_map.mp hy
    exact maps x hx
  · intro hy
    obtain ⟨x, hx, rfl⟩ := surj y hy
    exact List.mem_map.mpr ⟨x, hx, rfl⟩
theorem S_bij {L1 : List α} {L2 : List β} (h1 : L1.Nodup) (h2 : L2.Nodup) (φ : α → β)
    (maps : ∀ x ∈ L1, φ x ∈ L2) (inj : ∀ x ∈ L1, ∀ y ∈ L1, φ x = φ y → x = y)
    (surj : ∀ y ∈ L2, ∃ x ∈ L1, φ x = y) (g : β → Int) : S L2 g = S L1 (fun x => g (φ x)) := by
  rw [← S_map L1 φ g, S_perm (perm_of_bij h1 h2 φ maps inj surj)]
theorem S_same {L1 L2 : List α} (h1 : L1.Nodup) (h2 : L2.Nodup) (e : ∀ x, x ∈ L1 ↔ x ∈ L2) (g : α → Int) :
    S L1 g = S L2 g := S_perm ((List.perm_ext_iff_of_nodup h1 h2).mpr e) g

/-- pairs -/
def pairs (L : List α) (M : List β) (φ : α → β → γ) : List γ := L.flatMap (fun a => M.map (φ a))
theorem S_pairs (L : List α) (M : List β) (φ : α → β → γ) (g : γ → Int) :
    S (pairs L M φ) g = S L (fun a => S M (fun b => g (φ a b))) := by
  rw [pairs, S_flatMap]; apply S_congr; intro a _; rw [S_map]
theorem mem_pairs {L : List α} {M : List β} {φ : α → β → γ} {c : γ} :
    c ∈ pairs L M φ ↔ ∃ a ∈ L, ∃ b ∈ M, φ a b = c := by
  simp [pairs, List.mem_flatMap]
theorem nodup_append_of {L M : List α} (h1 : L.Nodup) (h2 : M.Nodup) (d : ∀ x ∈ L, x ∉ M) : (L ++ M).Nodup := by
  rw [List.nodup_append]
  exact ⟨h1, h2, fun a ha b hb e => d a ha (e ▸ hb)⟩
theorem nodup_pairs {L : List α} {M : List β} {φ : α → β → γ} (h1 : L.Nodup) (h2 : M.Nodup)
    (inj : ∀ a ∈ L, ∀ b ∈ M, ∀ a' ∈ L, ∀ b' ∈ M, φ a b = φ a' b' → a = a' ∧ b = b') :
    (pairs L M φ).Nodup := by
  induction L with
  | nil => simp [pairs]
  | cons a L ih =>
    rw [List.nodup_cons] at h1
    show ((M.map (φ a)) ++ pairs L M φ).Nodup
    refine nodup_append_of (nodup_map_on h2 fun x hx y hy e => (inj a (by simp) x hx a (by simp) y hy e).2)
      (ih h1.2 (fun a ha b hb a' ha' b' hb' => inj a (by simp [ha]) b hb a' (by simp [ha']) b' hb')) ?_
    intro x hx hx'
    obtain ⟨b, hb, rfl⟩ := List.mem_map.mp hx
    obtain ⟨a', ha', b', hb', e⟩ := mem_pairs.mp hx'
    have := (inj a' (by simp [ha']) b' hb' a (by simp) b hb e).1
    subst this
    exact h1.1 ha'
end

/-- a run of n integers from a on -/
def rng (a : Int) (n : Nat) : List Int := (List.range n).map (fun (k : Nat) => a + (k : Int))
theorem mem_rng {a x : Int} {n : Nat} : x ∈ rng a n ↔ a ≤ x ∧ x < a + n := by
  simp only [rng, List.mem_map, List.mem_range]
  constructor
  · rintro ⟨k, hk, rfl⟩; omega
  · rintro ⟨h1, h2⟩; exact ⟨(x - a).toNat, by omega, by omega⟩
theorem nodup_rng (a : Int) (n : Nat) : (rng a n).Nodup := by
  apply nodup_map_on List.nodup_range
  intro x _ y _ e; omega
theorem length_rng (a : Int) (n : Nat) : (rng a n).length = n := by simp [rng]
theorem S_rng_append (a : Int) (m n : Nat) (g : Int → Int) :
    S (rng a (m + n)) g = S (rng a m) g + S (rng (a + m) n) g := by
  rw [← S_append]
  apply S_same (nodup_rng _ _) (nodup_append_of (nodup_rng _ _) (nodup_rng _ _) ?_)
  · intro x; simp only [List.mem_append, mem_rng]; omega
  · intro x; simp only [mem_rng]; omega
theorem S_rng_shift (a c : Int) (n : Nat) (g : Int → Int) :
    S (rng (a + c) n) g = S (rng a n) (fun x => g (x + c)) := by
  apply S_bij (nodup_rng _ _) (nodup_rng _ _) (fun x => x + c)
  · intro x; simp only [mem_rng]; omega
  · intro x _ y _; omega
  · intro y; simp only [mem_rng]; intro h; exact ⟨y - c, by omega, by omega⟩
theorem S_rng_zero (a : Int) (g : Int → Int) : S (rng a 0) g = 0 := rfl
theorem S_rng_succ (a : Int) (n : Nat) (g : Int → Int) : S (rng a (n + 1)) g = S (rng a n) g + g (a + n) := by
  rw [S_rng_append]; simp [rng, S]
theorem S_rng_succ_left (a : Int) (n : Nat) (g : Int → Int) : S (rng a (n + 1)) g = g a + S (rng (a + 1) n) g := by
  rw [Nat.add_comm, S_rng_append]; simp [rng, S]
/-- a full period -/
theorem S_rng_period (a : Int) (n : Nat) (g : Int → Int) (per : ∀ x, g (x + n) = g x) :
    S (rng (a + 1) n) g = S (rng a n) g := by
  have h1 := S_rng_succ a n g
  have h2 := S_rng_succ_left a n g
  have := per a
  omega
theorem S_rng_period_nat (a : Int) (k n : Nat) (g : Int → Int) (per : ∀ x, g (x + n) = g x) :
    S (rng (a + k) n) g = S (rng a n) g := by
  induction k with
  | zero => simp
  | succ k ih =>
    rw [← ih, ← S_rng_period (a + k) n g per]
    have : a + ((k + 1 : Nat) : Int) = a + k + 1 := by omega
    rw [this]
theorem S_rng_period_any (a b : Int) (n : Nat) (g : Int → Int) (per : ∀ x, g (x + n) = g x) :
    S (rng a n) g = S (rng b n) g := by
  rcases Int.le_total a b with h | h
  · rw [← S_rng_period_nat a (b - a).toNat n g per]; congr 2; omega
  · rw [← S_rng_period_nat b (a - b).toNat n g per]; congr 2; omega
theorem S_rng_periods (a : Int) (n k : Nat) (g : Int → Int) (per : ∀ x, g (x + n) = g x) :
    S (rng a (n * k)) g = k * S (rng 0 n) g := by
  induction k generalizing a with
  | zero => simp [rng]
  | succ k ih =>
    have e : n * (k + 1) = n + n * k := by grind
    rw [e, S_rng_append, ih, S_rng_period_any a 0 n g per]; grind

/-- points of a box -/
def grid (L M : List Int) : List G := pairs L M G.mk
theorem mem_grid {L M : List Int} {z : G} : z ∈ grid L M ↔ z.re ∈ L ∧ z.im ∈ M := by
  rw [grid, mem_pairs]
  constructor
  · rintro ⟨a, ha, b, hb, rfl⟩; exact ⟨ha, hb⟩
  · rintro ⟨h1, h2⟩; exact ⟨z.re, h1, z.im, h2, rfl⟩
theorem nodup_grid {L M : List Int} (h1 : L.Nodup) (h2 : M.Nodup) : (grid L M).Nodup := by
  apply nodup_pairs h1 h2
  intro a _ b _ a' _ b' _ e
  exact G.ext_iff.mp e
theorem S_grid (L M : List Int) (g : G → Int) :
    S (grid L M) g = S L (fun u => S M (fun v => g ⟨u, v⟩)) := S_pairs _ _ _ _
end FS
namespace FS
open G Classical

/-! the rest nearest to 0 -/
def cm (n x : Int) : Int := (x + n / 2) % n - n / 2
section
variable {n : Int} (h0 : 0 < n) (h1 : n % 2 = 1)
include h0 h1
theorem cm_range (x : Int) : -(n / 2) ≤ cm n x ∧ cm n x ≤ n / 2 := by
  unfold cm
  have a := Int.emod_nonneg (x + n / 2) (show n ≠ 0 by omega)
  have b := Int.emod_lt_of_pos (x + n / 2) h0
  omega
omit h0 h1 in
theorem cm_cong (n x : Int) : ∃ k, x - cm n x = n * k := by
  unfold cm
  have := Int.emod_add_mul_ediv (x + n / 2) n
  exact ⟨(x + n / 2) / n, by omega⟩
omit h1 in
theorem small_mul {k d : Int} (e : d = n * k) (l1 : -n < d) (l2 : d < n) : d = 0 := by
  by_cases hk : k = 0
  · subst hk; simpa using e
  · exfalso
    rcases Int.lt_or_gt_of_ne hk with h | h
    · have := Int.mul_le_mul_of_nonneg_left (show k ≤ -1 by omega) (show 0 ≤ n by omega); omega
    · have := Int.mul_le_mul_of_nonneg_left (show 1 ≤ k by omega) (show 0 ≤ n by omega); omega
theorem cm_unique {a b k : Int} (ha : -(n / 2) ≤ a ∧ a ≤ n / 2) (hb : -(n / 2) ≤ b ∧ b ≤ n / 2)
    (e : a - b = n * k) : a = b := by
  have := small_mul h0 e (by omega) (by omega); omega
theorem cm_of_cong {x y k : Int} (e : x - y = n * k) : cm n x = cm n y := by
  obtain ⟨k1, e1⟩ := cm_cong n x
  obtain ⟨k2, e2⟩ := cm_cong n y
  apply cm_unique h0 h1 (cm_range h0 h1 x) (cm_range h0 h1 y) (k := k + k2 - k1)
  have : n * (k + k2 - k1) = n * k + n * k2 - n * k1 := by grind
  omega
theorem cm_self {x : Int} (hx : -(n / 2) ≤ x ∧ x ≤ n / 2) : cm n x = x := by
  obtain ⟨k1, e1⟩ := cm_cong n x
  exact (cm_unique h0 h1 hx (cm_range h0 h1 x) e1).symm
theorem cm_eq {x y k : Int} (hy : -(n / 2) ≤ y ∧ y ≤ n / 2) (e : x - y = n * k) : cm n x = y := by
  rw [cm_of_cong h0 h1 e, cm_self h0 h1 hy]
theorem cm_neg (x : Int) : cm n (-x) = - cm n x := by
  obtain ⟨k1, e1⟩ := cm_cong n x
  have := cm_range h0 h1 x
  apply cm_eq h0 h1 (k := -k1) (by omega)
  have : n * -k1 = -(n * k1) := by grind
  omega
theorem cm_zero {x : Int} : cm n x = 0 ↔ n ∣ x := by
  obtain ⟨k1, e1⟩ := cm_cong n x
  constructor
  · intro h; exact ⟨k1, by omega⟩
  · rintro ⟨k, hk⟩; exact cm_eq h0 h1 (k := k) (by omega) (by omega)
end

/-! a whole set of rests -/
structure CRS (m : G) (L : List G) : Prop where
  nodup : L.Nodup
  cov : ∀ z, ∃ w ∈ L, Cong m z w
  inc : ∀ z ∈ L, ∀ w ∈ L, Cong m z w → z = w

theorem CRS.sum_eq {m : G} {L L' : List G} (h : CRS m L) (h' : CRS m L') {F : G → Int}
    (per : ∀ z w, Cong m z w → F z = F w) : S L F = S L' F := by
  have e := S_bij (L1 := L) (L2 := L') h.nodup h'.nodup (fun z => Classical.choose (h'.cov z))
    (fun z _ => (Classical.choose_spec (h'.cov z)).1)
    (fun z hz w hw e => by
      have h1 := (Classical.choose_spec (h'.cov z)).2
      have h2 := (Classical.choose_spec (h'.cov w)).2
      rw [e] at h1
      exact h.inc z hz w hw (h1.trans h2.symm))
    (fun w hw => by
      obtain ⟨z, hz, hc⟩ := h.cov w
      refine ⟨z, hz, ?_⟩
      have h1 := (Classical.choose_spec (h'.cov z))
      exact h'.inc _ h1.1 _ hw (h1.2.symm.trans hc.symm))
    F
  rw [e]
  apply S_congr
  intro z _
  exact per _ _ (Classical.choose_spec (h'.cov z)).2
theorem CRS.map {m m' : G} {L : List G} (h : CRS m L) {φ : G → G}
    (h1 : ∀ z w, Cong m' (φ z) (φ w) → Cong m z w)
    (h2 : ∀ w, ∃ z, Cong m' w (φ z)) (h3 : ∀ z w, Cong m z w → Cong m' (φ z) (φ w)) : CRS m' (L.map φ) where
  nodup := nodup_map_on h.nodup fun x hx y hy e => h.inc x hx y hy (h1 x y (Cong.of_eq e))
  cov w := by
    obtain ⟨z, hz⟩ := h2 w
    obtain ⟨z', hz', hc⟩ := h.cov z
    exact ⟨φ z', List.mem_map.mpr ⟨z', hz', rfl⟩, hz.trans (h3 _ _ hc)⟩
  inc z hz w hw hc := by
    obtain ⟨x, hx, rfl⟩ := List.mem_map.mp hz
    obtain ⟨y, hy, rfl⟩ := List.mem_map.mp hw
    rw [h.inc x hx y hy (h1 x y hc)]
theorem CRS.sum_mul {m a : G} {L : List G} (h : CRS m L) (ha : Cop a m) {F : G → Int}
    (per : ∀ z w, Cong m z w → F z = F w) : S L (fun z => F (a * z)) = S L F := by
  have h' : CRS m (L.map (a * ·)) := h.map (fun z w e => ha.cong_of_cong_mul e)
    (fun w => by
      obtain ⟨c, _, hc⟩ := ha.inv
      refine ⟨c * w, ?_⟩
      have := (hc.mul_right w).symm
      have e1 : 1 * w = w := by grind
      have e2 : a * c * w = a * (c * w) := by grind
      rwa [e1, e2] at this)
    (fun z w e => e.mul_left a)
  rw [← S_map L (a * ·) F]
  exact h'.sum_eq h per
theorem CRS.prod {b c : G} {L M : List G} (hb : b ≠ 0) (h : CRS b L) (h' : CRS c M) :
    CRS (b * c) (pairs L M (fun t s => t + b * s)) where
  nodup := by
    apply nodup_pairs h.nodup h'.nodup
    intro t ht s hs t' ht' s' hs' e
    have e1 : t = t' := h.inc t ht t' ht' ⟨s' - s, by grind⟩
    subst e1
    refine ⟨rfl, ?_⟩
    exact G.mul_left_cancel hb (by grind)
  cov z := by
    obtain ⟨t, ht, u, hu⟩ := h.cov z
    obtain ⟨s, hs, v, hv⟩ := h'.cov u
    refine ⟨t + b * s, mem_pairs.mpr ⟨t, ht, s, hs, rfl⟩, v, ?_⟩
    have : u = s + c * v := by grind
    subst this; grind
  inc z hz w hw hc := by
    obtain ⟨t, ht, s, hs, rfl⟩ := mem_pairs.mp hz
    obtain ⟨t', ht', s', hs', rfl⟩ := mem_pairs.mp hw
    obtain ⟨u, hu⟩ := hc
    have e1 : t = t' := h.inc t ht t' ht' ⟨s' - s + c * u, by grind⟩
    subst e1
    have e2 : s = s' := h'.inc s hs s' hs' ⟨u, G.mul_left_cancel hb (by grind)⟩
    rw [e2]

/-- parts of a number by m -/
def P (m z : G) : Int := z.re * m.re + z.im * m.im
def Q (m z : G) : Int := z.im * m.re - z.re * m.im
theorem mul_conj_eq (m z : G) : z * conj m = ⟨P m z, Q m z⟩ := by
  apply G.ext <;> simp [P, Q] <;> grind
theorem P_mul (m t : G) : P m (m * t) = norm m * t.re := by simp [P, norm]; grind
theorem Q_mul (m t : G) : Q m (m * t) = norm m * t.im := by simp [Q, norm]; grind
theorem P_add (m z w : G) : P m (z + w) = P m z + P m w := by simp [P]; grind
theorem Q_add (m z w : G) : Q m (z + w) = Q m z + Q m w := by simp [Q]; grind
theorem P_sub (m z w : G) : P m (z - w) = P m z - P m w := by simp [P]; grind
theorem Q_sub (m z w : G) : Q m (z - w) = Q m z - Q m w := by simp [Q]; grind
theorem P_I (m z : G) : P m (I * z) = - Q m z := by simp [P, Q]; grind
theorem Q_I (m z : G) : Q m (I * z) = P m z := by simp [P, Q]; grind
theorem PQ_eq {m z w : G} (hm : m ≠ 0) (h1 : P m z = P m w) (h2 : Q m z = Q m w) : z = w := by
  have : z * conj m = w * conj m := by rw [mul_conj_eq, mul_conj_eq, h1, h2]
  have e : conj m * z = conj m * w := by grind
  apply G.mul_left_cancel _ e
  intro h
  apply hm
  have := congrArg conj h
  rw [conj_conj] at this
  rw [this]; rfl
theorem dv_iff_PQ {m z : G} (hm : m ≠ 0) : Dv m z ↔ norm m ∣ P m z ∧ norm m ∣ Q m z := by
  constructor
  · rintro ⟨t, rfl⟩; exact ⟨⟨t.re, P_mul m t⟩, ⟨t.im, Q_mul m t⟩⟩
  · rintro ⟨⟨s, hs⟩, ⟨t, ht⟩⟩
    refine ⟨⟨s, t⟩, PQ_eq hm ?_ ?_⟩
    · rw [P_mul]; exact hs
    · rw [Q_mul]; exact ht
theorem norm_mul_eq (m z : G) : norm z * norm m = P m z * P m z + Q m z * Q m z := by
  simp [norm, P, Q]; grind

/-- m is odd -/
def Od (m : G) : Prop := norm m % 2 = 1
theorem Od.ne_zero {m : G} (h : Od m) : m ≠ 0 := by
  rintro rfl; unfold Od at h; simp [norm] at h
theorem Od.pos {m : G} (h : Od m) : 0 < norm m := norm_pos h.ne_zero
theorem Od.mul {a b : G} (h : Od a) (h' : Od b) : Od (a * b) := by
  unfold Od at *; rw [norm_mul, Int.mul_emod, h, h']; rfl
theorem Od.norm4 {m : G} (h : Od m) : norm m % 4 = 1 := by
  unfold Od norm at *
  generalize m.re = x at *
  generalize m.im = y at *
  obtain ⟨k, hk⟩ : ∃ k, x = 2 * k ∨ x = 2 * k + 1 := ⟨x / 2, by omega⟩
  obtain ⟨l, hl⟩ : ∃ l, y = 2 * l ∨ y = 2 * l + 1 := ⟨y / 2, by omega⟩
  rcases hk with rfl | rfl <;> rcases hl with rfl | rfl
  · have : 2 * k * (2 * k) + 2 * l * (2 * l) = 2 * (2 * (k * k) + 2 * (l * l)) := by grind
    omega
  · have : 2 * k * (2 * k) + (2 * l + 1) * (2 * l + 1) = 4 * (k * k + l * l + l) + 1 := by grind
    omega
  · have : (2 * k + 1) * (2 * k + 1) + 2 * l * (2 * l) = 4 * (k * k + l * l + k) + 1 := by grind
    omega
  · have : (2 * k + 1) * (2 * k + 1) + (2 * l + 1) * (2 * l + 1) = 2 * (2 * (k * k + l * l + k + l) + 1) := by grind
    omega
theorem Od.dv {a b : G} (h : Od b) (d : Dv a b) : Od a := by
  obtain ⟨t, rfl⟩ := d
  unfold Od at *
  rw [norm_mul, Int.mul_emod] at h
  have : norm a % 2 = 0 ∨ norm a % 2 = 1 := by omega
  rcases this with e | e
  · rw [e] at h; simp at h
  · exact e

/-- the rests in the square -/
def C (m : G) : List G :=
  (grid (rng (-norm m) (2 * norm m + 1).toNat) (rng (-norm m) (2 * norm m + 1).toNat)).filter
    (fun z => decide (-norm m < 2 * P m z ∧ 2 * P m z < norm m ∧ -norm m < 2 * Q m z ∧ 2 * Q m z < norm m))
theorem abs_le_of_sq {x N : Int} (h : x * x < N) : -N ≤ x ∧ x ≤ N := by
  have hN : 0 < N := by have := G.sq_nonneg x; omega
  constructor
  · apply Decidable.byContradiction; intro hx
    have := Int.mul_le_mul (show N ≤ -x by omega) (show N ≤ -x by omega) (by omega) (by omega)
    have h2 : N * 1 ≤ N * N := Int.mul_le_mul_of_nonneg_left (by omega) (by omega)
    have h3 : -x * -x = x * x := by grind
    omega
  · apply Decidable.byContradiction; intro hx
    have := Int.mul_le_mul (show N ≤ x by omega) (show N ≤ x by omega) (by omega) (by omega)
    have h2 : N * 1 ≤ N * N := Int.mul_le_mul_of_nonneg_left (by omega) (by omega)
    omega
theorem mem_C {m z : G} (hm : m ≠ 0) : z ∈ C m ↔
    -norm m < 2 * P m z ∧ 2 * P m z < norm m ∧ -norm m < 2 * Q m z ∧ 2 * Q m z < norm m := by
  unfold C
  rw [List.mem_filter, mem_grid, mem_rng, mem_rng]
  simp only [decide_eq_true_eq]
  constructor
  · exact fun h => h.2
  · intro h
    refine ⟨?_, h⟩
    have hN := norm_pos hm
    have e := norm_mul_eq m z
    generalize P m z = p at *
    generalize Q m z = q at *
    have b1 : 4 * (p * p) ≤ norm m * norm m := by
      have := Int.mul_nonneg (show 0 ≤ norm m - 2 * p by omega) (show 0 ≤ norm m + 2 * p by omega); grind
    have b2 : 4 * (q * q) ≤ norm m * norm m := by
      have := Int.mul_nonneg (show 0 ≤ norm m - 2 * q by omega) (show 0 ≤ norm m + 2 * q by omega); grind
    have b3 : 0 < norm m * norm m := Int.mul_pos hN hN
    have b4 : norm z * norm m < norm m * norm m := by omega
    have b5 : norm z < norm m := Int.lt_of_mul_lt_mul_right b4 (by omega)
    have s1 := G.sq_nonneg z.re
    have s2 := G.sq_nonneg z.im
    have d1 := abs_le_of_sq (show z.re * z.re < norm m by unfold norm at *; omega)
    have d2 := abs_le_of_sq (show z.im * z.im < norm m by unfold norm at *; omega)
    omega
theorem C_crs {m : G} (hm : Od m) : CRS m (C m) where
  nodup := (nodup_grid (nodup_rng _ _) (nodup_rng _ _)).filter _
  cov z := by
    obtain ⟨k, hk⟩ := cm_cong (norm m) (P m z)
    obtain ⟨l, hl⟩ := cm_cong (norm m) (Q m z)
    have h1 := cm_range hm.pos hm (P m z)
    have h2 := cm_range hm.pos hm (Q m z)
    have ho : norm m % 2 = 1 := hm
    refine ⟨z - m * ⟨k, l⟩, ?_, ⟨⟨k, l⟩, by grind⟩⟩
    rw [mem_C hm.ne_zero, P_sub, Q_sub, P_mul, Q_mul]
    simp only
    omega
  inc z hz w hw hc := by
    rw [mem_C hm.ne_zero] at hz hw
    obtain ⟨t, ht⟩ := hc
    have e1 := P_mul m t
    have e2 := Q_mul m t
    rw [← ht, P_sub] at e1
    rw [← ht, Q_sub] at e2
    have a1 := small_mul hm.pos e1 (by omega) (by omega)
    have a2 := small_mul hm.pos e2 (by omega) (by omega)
    exact PQ_eq hm.ne_zero (by omega) (by omega)

/-! how many -/
theorem mul_self_lt {a b : Int} (h : 0 ≤ a) (h' : a < b) : a * a < b * b := by
  have h1 := Int.mul_le_mul_of_nonneg_left (show a ≤ b by omega) h
  have h2 := Int.mul_lt_mul_of_pos_right h' (show 0 < b by omega)
  omega
theorem CRS.conj {m : G} {L : List G} (h : CRS m L) : CRS (conj m) (L.map conj) :=
  h.map (fun z w ⟨t, ht⟩ => ⟨G.conj t, by
      rw [← conj_sub] at ht
      have := congrArg G.conj ht
      rw [conj_conj, conj_mul, conj_conj] at this; exact this⟩)
    (fun w => ⟨G.conj w, Cong.of_eq (conj_conj w).symm⟩)
    (fun z w ⟨t, ht⟩ => ⟨G.conj t, by rw [← conj_sub, ht, conj_mul]⟩)
theorem int_crs {n : Int} (hn : 0 < n) (a b : Int) : CRS (n : G) (grid (rng a n.toNat) (rng b n.toNat)) where
  nodup := nodup_grid (nodup_rng _ _) (nodup_rng _ _)
  cov z := by
    have h1 := Int.emod_add_mul_ediv (z.re - a) n
    have h2 := Int.emod_nonneg (z.re - a) (show n ≠ 0 by omega)
    have h3 := Int.emod_lt_of_pos (z.re - a) hn
    have k1 := Int.emod_add_mul_ediv (z.im - b) n
    have k2 := Int.emod_nonneg (z.im - b) (show n ≠ 0 by omega)
    have k3 := Int.emod_lt_of_pos (z.im - b) hn
    refine ⟨⟨a + (z.re - a) % n, b + (z.im - b) % n⟩, ?_, ⟨⟨(z.re - a) / n, (z.im - b) / n⟩, ?_⟩⟩
    · rw [mem_grid, mem_rng, mem_rng]; simp only; omega
    · apply G.ext <;> simp <;> omega
  inc z hz w hw hc := by
    rw [mem_grid, mem_rng, mem_rng] at hz hw
    obtain ⟨t, ht⟩ := hc
    have e := G.ext_iff.mp ht
    simp only [sub_re, sub_im, int_mul_re, int_mul_im] at e
    have a1 := small_mul hn e.1 (by omega) (by omega)
    have a2 := small_mul hn e.2 (by omega) (by omega)
    exact G.ext (by omega) (by omega)
theorem CRS.card {m : G} {L : List G} (hm : m ≠ 0) (h : CRS m L) : (L.length : Int) = norm m := by
  have hN := norm_pos hm
  have h1 := (CRS.prod hm h h.conj)
  rw [mul_conj] at h1
  have e := h1.sum_eq (int_crs hN 0 0) (F := fun _ => 1) (fun _ _ _ => rfl)
  rw [S_pairs, S_grid] at e
  simp only [S_const, length_rng, List.length_map] at e
  have e3 : ((norm m).toNat : Int) = norm m := by omega
  rw [e3] at e
  have e2 : (L.length : Int) * L.length = norm m * norm m := by grind
  rcases Int.lt_trichotomy (L.length : Int) (norm m) with h2 | h2 | h2
  · have := mul_self_lt (by omega) h2; omega
  · exact h2
  · have := mul_self_lt (by omega) h2; omega
end FS
namespace FS
open G Classical
noncomputable section

/-- which quarter -/
def sec (x y : Int) : Int :=
  if 0 < x ∧ 0 ≤ y then 0 else if x ≤ 0 ∧ 0 < y then 1 else if x < 0 ∧ y ≤ 0 then 2 else 3
theorem sec_rot {x y : Int} (h : ¬ (x = 0 ∧ y = 0)) : sec (-y) x % 4 = (sec x y + 1) % 4 := by
  unfold sec; repeat' split
  all_goals (first | omega | (dsimp only; omega))
theorem sec_range (x y : Int) : 0 ≤ sec x y ∧ sec x y < 4 := by
  unfold sec; repeat' split
  all_goals (first | omega | (dsimp only; omega))

/-- a number that turns with i -/
structure Eqv (m : G) (f : G → Int) : Prop where
  per : ∀ z w, Cong m z w → f z % 4 = f w % 4
  rot : ∀ z, ¬ Dv m z → f (I * z) % 4 = (f z + 1) % 4

def fc (m z : G) : Int := sec (cm (norm m) (P m z)) (cm (norm m) (Q m z))
theorem fc_range (m z : G) : 0 ≤ fc m z ∧ fc m z < 4 := sec_range _ _
theorem fc_mod (m z : G) : fc m z % 4 = fc m z := by have := fc_range m z; omega
theorem fc_per {m z w : G} (hm : Od m) (h : Cong m z w) : fc m z = fc m w := by
  obtain ⟨t, ht⟩ := h
  have e1 := P_mul m t
  have e2 := Q_mul m t
  rw [← ht, P_sub] at e1
  rw [← ht, Q_sub] at e2
  unfold fc
  rw [cm_of_cong hm.pos hm e1, cm_of_cong hm.pos hm e2]
theorem fc_eqv {m : G} (hm : Od m) : Eqv m (fc m) where
  per z w h := by rw [fc_per hm h]
  rot z hz := by
    unfold fc
    rw [P_I, Q_I, cm_neg hm.pos hm]
    apply sec_rot
    rintro ⟨h1, h2⟩
    exact hz ((dv_iff_PQ hm.ne_zero).mpr ⟨(cm_zero hm.pos hm).mp h1, (cm_zero hm.pos hm).mp h2⟩)
theorem Eqv.comp {m a : G} {f : G → Int} (h : Eqv m f) (ha : Cop a m) : Eqv m (fun z => f (a * z)) where
  per z w e := h.per _ _ (e.mul_left a)
  rot z hz := by
    have e : a * (I * z) = I * (a * z) := by grind
    show f (a * (I * z)) % 4 = _
    rw [e]
    exact h.rot _ (fun hd => hz (ha.dv_of_dv_mul hd))
theorem Dv_I {m z : G} : Dv m (I * z) ↔ Dv m z := by
  constructor
  · rintro ⟨t, h⟩
    refine ⟨-(I * t), ?_⟩
    have h2 : I * (I * z) = I * (m * t) := by rw [h]
    have : I * I = -1 := I_mul_I
    grind
  · intro h; exact h.mul_left I

/-- the sum, over the classes at which g is 0, of h -/
def sel (m : G) (g h : G → Int) (z : G) : Int := if Dv m z then 0 else if g z % 4 = 0 then h z else 0
def cell (m : G) (f g h : G → Int) (k l : Int) (z : G) : Int :=
  if Dv m z then 0 else if f z % 4 = k ∧ g z % 4 = l then h z else 0

structure Inv (m : G) (h : G → Int) : Prop where
  per : ∀ z w, Cong m z w → h z = h w
  rot : ∀ z, ¬ Dv m z → h (I * z) = h z

theorem cell_per {m : G} {f g h : G → Int} (hf : Eqv m f) (hg : Eqv m g) (hh : Inv m h) (k l : Int) (z w : G)
    (e : Cong m z w) : cell m f g h k l z = cell m f g h k l w := by
  unfold cell
  rw [hf.per z w e, hg.per z w e, hh.per z w e]
  by_cases hd : Dv m z
  · rw [if_pos hd, if_pos (e.dv_iff.mp hd)]
  · rw [if_neg hd, if_neg (fun h => hd (e.dv_iff.mpr h))]
theorem cell_rot {m : G} {f g h : G → Int} {L : List G} (hL : CRS m L) (hf : Eqv m f) (hg : Eqv m g) (hh : Inv m h)
    {k l : Int} (hk : 0 ≤ k ∧ k < 4) (hl : 0 ≤ l ∧ l < 4) :
    S L (cell m f g h ((k + 1) % 4) ((l + 1) % 4)) = S L (cell m f g h k l) := by
  rw [← hL.sum_mul (I_cop m) (F := cell m f g h ((k + 1) % 4) ((l + 1) % 4)) (cell_per hf hg hh _ _)]
  apply S_congr
  intro z _
  unfold cell
  by_cases hd : Dv m z
  · rw [if_pos hd, if_pos (Dv_I.mpr hd)]
  · rw [if_neg hd, if_neg (fun h => hd (Dv_I.mp h)), hh.rot z hd]
    have a := hf.rot z hd
    have b := hg.rot z hd
    have : (f (I * z) % 4 = (k + 1) % 4 ∧ g (I * z) % 4 = (l + 1) % 4) ↔ (f z % 4 = k ∧ g z % 4 = l) := by omega
    simp only [this]
theorem sel_eq_cells {m : G} {f g h : G → Int} (L : List G) :
    S L (sel m f h) = S L (cell m f g h 0 0) + S L (cell m f g h 0 1) + S L (cell m f g h 0 2) + S L (cell m f g h 0 3) := by
  rw [← S_add, ← S_add, ← S_add]
  apply S_congr
  intro z _
  unfold sel cell
  have : 0 ≤ g z % 4 ∧ g z % 4 < 4 := by omega
  repeat' split
  all_goals (first | omega | (dsimp only; omega))
theorem sel_eq_cells' {m : G} {f g h : G → Int} (L : List G) :
    S L (sel m g h) = S L (cell m f g h 0 0) + S L (cell m f g h 1 0) + S L (cell m f g h 2 0) + S L (cell m f g h 3 0) := by
  rw [← S_add, ← S_add, ← S_add]
  apply S_congr
  intro z _
  unfold sel cell
  have : 0 ≤ f z % 4 ∧ f z % 4 < 4 := by omega
  repeat' split
  all_goals (first | omega | (dsimp only; omega))
/-- it does not matter which classes stand for all -/
theorem sel_indep {m : G} {f g h : G → Int} {L : List G} (hL : CRS m L) (hf : Eqv m f) (hg : Eqv m g) (hh : Inv m h) :
    S L (sel m f h) = S L (sel m g h) := by
  rw [sel_eq_cells (g := g), sel_eq_cells' (f := f)]
  have r := fun k l hk hl => cell_rot hL hf hg hh (k := k) (l := l) hk hl
  have a1 := r 0 1 (by omega) (by omega)
  have a2 := r 1 2 (by omega) (by omega)
  have a3 := r 2 3 (by omega) (by omega)
  have b1 := r 0 2 (by omega) (by omega)
  have b2 := r 1 3 (by omega) (by omega)
  have c1 := r 0 3 (by omega) (by omega)
  simp only [Int.reduceAdd, Int.reduceMod] at a1 a2 a3 b1 b2 c1
  omega

theorem sel_per {m : G} {g h : G → Int} (hg : Eqv m g) (hh : ∀ z w, Cong m z w → h z = h w) (z w : G)
    (e : Cong m z w) : sel m g h z = sel m g h w := by
  unfold sel
  rw [hg.per z w e, hh z w e]
  by_cases hd : Dv m z
  · rw [if_pos hd, if_pos (e.dv_iff.mp hd)]
  · rw [if_neg hd, if_neg (fun h => hd (e.dv_iff.mpr h))]

/-- how far f is turned against g, by all classes -/
def od (m : G) (f g : G → Int) : Int := S (C m) (sel m g (fun z => f z % 4)) % 4
theorem od_eq {m : G} {f g : G → Int} {L : List G} (hm : Od m) (hL : CRS m L) (hf : Eqv m f) (hg : Eqv m g) :
    od m f g = S L (sel m g f) % 4 := by
  unfold od
  rw [(C_crs hm).sum_eq hL (sel_per hg (fun z w e => hf.per z w e))]
  apply S_mod
  intro z _
  unfold sel
  repeat' split
  all_goals (first | omega | (dsimp only; omega))
theorem diff_inv {m : G} {f g : G → Int} (hf : Eqv m f) (hg : Eqv m g) : Inv m (fun z => (f z - g z) % 4) where
  per z w e := by have := hf.per z w e; have := hg.per z w e; omega
  rot z hz := by have := hf.rot z hz; have := hg.rot z hz; omega
theorem od_sel {m : G} {f g k : G → Int} {L : List G} (hm : Od m) (hL : CRS m L) (hf : Eqv m f) (hg : Eqv m g)
    (hk : Eqv m k) : od m f g = S L (sel m k (fun z => (f z - g z) % 4)) % 4 := by
  rw [← sel_indep hL hg hk (diff_inv hf hg), od_eq hm hL hf hg]
  apply S_mod
  intro z _
  unfold sel
  repeat' split
  all_goals (first | omega | (dsimp only; omega))
theorem od_chain {m : G} {f g k : G → Int} (hm : Od m) (hf : Eqv m f) (hg : Eqv m g) (hk : Eqv m k) :
    (od m f g + od m g k) % 4 = od m f k := by
  rw [od_sel hm (C_crs hm) hf hg hk, od_eq hm (C_crs hm) hg hk, od_eq hm (C_crs hm) hf hk]
  have : S (C m) (sel m k f) % 4 = S (C m) (fun z => sel m k (fun z => (f z - g z) % 4) z + sel m k g z) % 4 := by
    apply S_mod
    intro z _
    unfold sel
    repeat' split
    all_goals (first | omega | (dsimp only; omega))
  rw [this, S_add]; omega
theorem od_self {m : G} {f : G → Int} (hm : Od m) (hf : Eqv m f) : od m f f = 0 := by
  have := od_chain hm hf hf hf
  have h : 0 ≤ od m f f ∧ od m f f < 4 := by unfold od; omega
  omega
theorem od_range (m : G) (f g : G → Int) : 0 ≤ od m f g ∧ od m f g < 4 := by unfold od; omega
theorem od_comp {m a : G} {f g : G → Int} (hm : Od m) (hf : Eqv m f) (hg : Eqv m g) (ha : Cop a m) :
    od m (fun z => f (a * z)) (fun z => g (a * z)) = od m f g := by
  rw [od_eq hm (C_crs hm) (hf.comp ha) (hg.comp ha)]
  unfold od
  rw [← (C_crs hm).sum_mul ha (F := sel m g (fun z => f z % 4)) (sel_per hg (fun z w e => hf.per z w e))]
  apply S_mod
  intro z _
  unfold sel
  have : Dv m (a * z) ↔ Dv m z := ⟨ha.dv_of_dv_mul, fun h => h.mul_left a⟩
  simp only [this]
  repeat' split
  all_goals (first | omega | (dsimp only; omega))

/-- the fourth symbol of a by m, as a power of i -/
def J (a m : G) : Int := od m (fun z => fc m (a * z)) (fc m)
theorem J_range (a m : G) : 0 ≤ J a m ∧ J a m < 4 := od_range _ _ _
theorem J_eq {a m : G} {f : G → Int} (hm : Od m) (ha : Cop a m) (hf : Eqv m f) :
    J a m = od m (fun z => f (a * z)) f := by
  have hc := fc_eqv hm
  have h1 := od_chain hm (hc.comp ha) hc hf
  have h2 := od_chain hm (hc.comp ha) (hf.comp ha) hf
  have h3 := od_comp hm hc hf ha
  have := od_range m (fun z => f (a * z)) f
  have := J_range a m
  unfold J at *
  omega
theorem J_mul {a c m : G} (hm : Od m) (ha : Cop a m) (hc : Cop c m) : J (a * c) m = (J a m + J c m) % 4 := by
  have hf := fc_eqv hm
  have h1 := od_chain hm ((hf.comp ha).comp hc) (hf.comp hc) hf
  have h2 := od_comp hm (hf.comp ha) hf hc
  have e : (fun z => fc m (a * (c * z))) = (fun z => fc m (a * c * z)) := by
    funext z; congr 1; grind
  unfold J
  rw [e] at h1 h2
  omega
theorem J_cong {a a' m : G} (hm : Od m) (h : Cong m a a') : J a m = J a' m := by
  unfold J
  have : (fun z => fc m (a * z)) = (fun z => fc m (a' * z)) := by
    funext z; exact fc_per hm (h.mul_right z)
  rw [this]
theorem J_one {m : G} (hm : Od m) : J 1 m = 0 := by
  rw [J_eq hm (one_cop m) (fc_eqv hm)]
  have : (fun z => fc m (1 * z)) = fc m := by funext z; congr 1; grind
  rw [this]; exact od_self hm (fc_eqv hm)
/-- J by other sets of rests, other numbers that turn -/
theorem J_sum {a m : G} {f : G → Int} {L : List G} (hm : Od m) (ha : Cop a m) (hf : Eqv m f) (hL : CRS m L) :
    J a m = S L (sel m f (fun z => f (a * z))) % 4 := by
  rw [J_eq hm ha hf, od_eq hm hL (hf.comp ha) hf]

/-- a quarter of the norm -/
def q (m : G) : Int := (norm m - 1) / 4
theorem Od.q4 {m : G} (hm : Od m) : 4 * q m + 1 = norm m := by have := hm.norm4; unfold q; omega
theorem dv_count {m : G} {L : List G} (hL : CRS m L) (c : Int) : S L (fun z => if Dv m z then c else 0) = c := by
  obtain ⟨w, hw, hc⟩ := hL.cov 0
  have hd : Dv m w := cong_zero.mp hc.symm
  have e : ∀ z ∈ L, (if Dv m z then c else 0) = (if z = w then c else 0) := by
    intro z hz
    have : Dv m z ↔ z = w := by
      constructor
      · intro h; exact hL.inc z hz w hw ((cong_zero.mpr h).trans hc)
      · rintro rfl; exact hd
    simp only [this]
  rw [S_congr e]
  have hn := hL.nodup
  clear e hc hL
  induction L with
  | nil => simp at hw
  | cons x L ih =>
    rw [List.nodup_cons] at hn
    rw [S_cons]
    rcases List.mem_cons.mp hw with rfl | hw'
    · rw [if_pos rfl, S_eq_zero]
      · omega
      · intro z hz; rw [if_neg]; rintro rfl; exact hn.1 hz
    · rw [ih hw' hn.2, if_neg]
      · omega
      · rintro rfl; exact hn.1 hw'
theorem sel_count {m : G} {f : G → Int} {L : List G} (hm : Od m) (hL : CRS m L) (hf : Eqv m f) (c : Int) :
    S L (sel m f (fun _ => c)) = q m * c := by
  have hinv : Inv m (fun _ => c) := ⟨fun _ _ _ => rfl, fun _ _ => rfl⟩
  have r := fun k hk => cell_rot hL hf hf hinv (k := k) (l := k) hk hk
  have a1 := r 0 (by omega)
  have a2 := r 1 (by omega)
  have a3 := r 2 (by omega)
  simp only [Int.reduceAdd, Int.reduceMod] at a1 a2 a3
  have e0 : S L (sel m f (fun _ => c)) = S L (cell m f f (fun _ => c) 0 0) := by
    apply S_congr; intro z _; unfold sel cell; simp
  have all : S L (fun _ => c) = S L (fun z => if Dv m z then c else 0) + (S L (cell m f f (fun _ => c) 0 0)
      + S L (cell m f f (fun _ => c) 1 1) + S L (cell m f f (fun _ => c) 2 2) + S L (cell m f f (fun _ => c) 3 3)) := by
    rw [← S_add, ← S_add, ← S_add, ← S_add]
    apply S_congr
    intro z _
    unfold cell
    have : 0 ≤ f z % 4 ∧ f z % 4 < 4 := by omega
    repeat' split
    all_goals (first | omega | (dsimp only; omega))
  rw [dv_count hL, S_const, hL.card hm.ne_zero, ← hm.q4] at all
  rw [e0]
  have : (4 * q m + 1) * c = 4 * (q m * c) + c := by grind
  omega
theorem J_I {m : G} (hm : Od m) : J I m = q m % 4 := by
  have hf := fc_eqv hm
  rw [J_sum hm (I_cop m) hf (C_crs hm)]
  rw [← Int.mul_one (q m), ← sel_count hm (C_crs hm) hf 1]
  apply S_mod
  intro z _
  unfold sel
  by_cases hd : Dv m z
  · simp [hd]
  · have := hf.rot z hd
    repeat' split
    all_goals (first | omega | (dsimp only; omega))
/-- the sum over all classes that are not 0 -/
theorem all_sum {m : G} {f : G → Int} {L : List G} (hm : Od m) (hL : CRS m L) (hf : Eqv m f) :
    S L (fun z => if Dv m z then 0 else f z % 4) = 6 * q m := by
  have hinv : Inv m (fun _ => 1) := ⟨fun _ _ _ => rfl, fun _ _ => rfl⟩
  have r := fun k hk => cell_rot hL hf hf hinv (k := k) (l := k) hk hk
  have a1 := r 0 (by omega)
  have a2 := r 1 (by omega)
  have a3 := r 2 (by omega)
  simp only [Int.reduceAdd, Int.reduceMod] at a1 a2 a3
  have e0 : S L (sel m f (fun _ => 1)) = S L (cell m f f (fun _ => 1) 0 0) := by
    apply S_congr; intro z _; unfold sel cell; simp
  have e1 := sel_count hm hL hf 1
  have all : S L (fun z => if Dv m z then 0 else f z % 4) = S L (fun z => cell m f f (fun _ => 1) 1 1 z
      + 2 * cell m f f (fun _ => 1) 2 2 z + 3 * cell m f f (fun _ => 1) 3 3 z) := by
    apply S_congr
    intro z _
    unfold cell
    have : 0 ≤ f z % 4 ∧ f z % 4 < 4 := by omega
    repeat' split
    all_goals (first | omega | (dsimp only; omega))
  rw [all, S_add, S_add, S_mul, S_mul]; omega

/-! the second number as a product -/
/-- f by b, where b divides g of the quotient -/
def comb (b : G) (f g : G → Int) (z : G) : Int := if h : Dv b z then g (Classical.choose h) else f z
theorem comb_mul {b : G} (hb : b ≠ 0) (f g : G → Int) (s : G) : comb b f g (b * s) = g s := by
  have h : Dv b (b * s) := ⟨s, rfl⟩
  unfold comb
  rw [dif_pos h]
  have := Classical.choose_spec h
  exact congrArg g (G.mul_left_cancel hb this).symm
theorem comb_not {b : G} {f g : G → Int} {z : G} (h : ¬ Dv b z) : comb b f g z = f z := by
  unfold comb; rw [dif_neg h]
theorem comb_eqv {b c : G} {f g : G → Int} (hb : b ≠ 0) (hf : Eqv b f) (hg : Eqv c g) : Eqv (b * c) (comb b f g) where
  per z w e := by
    obtain ⟨t, ht⟩ := e
    have e' : Cong b z w := ⟨c * t, by grind⟩
    by_cases hd : Dv b z
    · obtain ⟨s, rfl⟩ := hd
      obtain ⟨s', rfl⟩ := e'.dv_iff.mp ⟨s, rfl⟩
      rw [comb_mul hb, comb_mul hb]
      exact hg.per _ _ ⟨t, G.mul_left_cancel hb (by grind)⟩
    · rw [comb_not hd, comb_not (fun h => hd (e'.dv_iff.mpr h))]
      exact hf.per _ _ e'
  rot z hz := by
    by_cases hd : Dv b z
    · obtain ⟨s, rfl⟩ := hd
      have e : I * (b * s) = b * (I * s) := by grind
      rw [e, comb_mul hb, comb_mul hb]
      apply hg.rot
      rintro ⟨t, rfl⟩
      exact hz ⟨t, by grind⟩
    · rw [comb_not hd, comb_not (fun h => hd (Dv_I.mp h))]
      exact hf.rot z hd
theorem Dv_mul_left {b c s : G} (hb : b ≠ 0) : Dv (b * c) (b * s) ↔ Dv c s := by
  constructor
  · rintro ⟨t, ht⟩; exact ⟨t, G.mul_left_cancel hb (by grind)⟩
  · rintro ⟨t, rfl⟩; exact ⟨t, by grind⟩
/-- the sum over the classes by b c at which the combined number is 0 -/
theorem comb_sum {b c : G} {f g h : G → Int} {L M : List G} (hbO : Od b) (hL : CRS b L) (hM : CRS c M)
    (hf : Eqv b f) (hg : Eqv c g) (hh : ∀ z w, Cong (b * c) z w → h z = h w) :
    S (pairs L M (fun t s => t + b * s)) (sel (b * c) (comb b f g) h) =
      S L (sel b f (fun t => S M (fun s => h (t + b * s)))) + S M (sel c g (fun s => h (b * s))) := by
  have hb := hbO.ne_zero
  have e1 := (C_crs hbO)
  rw [S_pairs]
  have : ∀ t ∈ L, S M (fun s => sel (b * c) (comb b f g) h (t + b * s)) =
      sel b f (fun t => S M (fun s => h (t + b * s))) t +
      (if Dv b t then S M (sel c g (fun s => h (b * s))) else 0) := by
    intro t _
    by_cases hd : Dv b t
    · rw [if_pos hd]
      obtain ⟨u, rfl⟩ := hd
      unfold sel
      rw [if_pos ⟨u, rfl⟩]
      -- shift by u
      have sh : CRS c (M.map (fun s => u + s)) := hM.map
        (fun z w ⟨t, ht⟩ => ⟨t, by grind⟩) (fun w => ⟨w - u, Cong.of_eq (by grind)⟩) (fun z w ⟨t, ht⟩ => ⟨t, by grind⟩)
      have e := sh.sum_eq hM (F := fun s => if Dv c s then 0 else if g s % 4 = 0 then h (b * s) else 0) (by
        intro z w e
        have hp := hg.per z w e
        have hp2 : h (b * z) = h (b * w) := by
          apply hh; obtain ⟨t, ht⟩ := e; exact ⟨t, by grind⟩
        simp only [hp, hp2, e.dv_iff])
      rw [S_map] at e
      rw [← e]
      simp only [Int.zero_add]
      apply S_congr
      intro s _
      have e3 : b * u + b * s = b * (u + s) := by grind
      rw [e3]
      simp only [Dv_mul_left hb, comb_mul hb]
    · rw [if_neg hd]
      unfold sel
      rw [if_neg hd]
      have hnd : ∀ s, ¬ Dv b (t + b * s) := by
        rintro s ⟨v, hv⟩; exact hd ⟨v - s, by grind⟩
      have hnd2 : ∀ s, ¬ Dv (b * c) (t + b * s) := by
        rintro s ⟨v, hv⟩; exact hnd s ⟨c * v, by grind⟩
      by_cases h0 : f t % 4 = 0
      · rw [if_pos h0, Int.add_zero]
        apply S_congr
        intro s _
        rw [if_neg (hnd2 s), comb_not (hnd s), hf.per (t + b * s) t ⟨s, by grind⟩, if_pos h0]
      · rw [if_neg h0, Int.add_zero]
        apply S_eq_zero
        intro s _
        rw [if_neg (hnd2 s), comb_not (hnd s), hf.per (t + b * s) t ⟨s, by grind⟩, if_neg h0]
  rw [S_congr this, S_add, dv_count hL]
theorem J_mul_right {a b c : G} (hb : Od b) (hc : Od c) (ha : Cop a b) (hac : Cop a c) :
    J a (b * c) = (J a b + J a c) % 4 := by
  have hf := fc_eqv hb
  have hg := fc_eqv hc
  have hL := C_crs hb
  have hM := C_crs hc
  have hcomb := comb_eqv hb.ne_zero hf hg
  have hO := hb.mul hc
  rw [J_eq hO (ha.mul_right hac) hcomb]
  have hP := CRS.prod hb.ne_zero hL hM
  have e1 : od (b * c) (fun z => comb b (fc b) (fc c) (a * z)) (comb b (fc b) (fc c)) =
      S (pairs (C b) (C c) (fun t s => t + b * s)) (sel (b * c) (comb b (fc b) (fc c)) (fun z => comb b (fc b) (fc c) (a * z) % 4)) % 4 := by
    unfold od
    rw [(C_crs hO).sum_eq hP (sel_per hcomb (fun z w e => (hcomb.comp (ha.mul_right hac)).per z w e))]
  rw [e1, comb_sum hb hL hM hf hg (fun z w e => (hcomb.comp (ha.mul_right hac)).per z w e)]
  have e2 : S (C b) (sel b (fc b) (fun t => S (C c) (fun s => comb b (fc b) (fc c) (a * (t + b * s)) % 4)))
      = norm c * S (C b) (sel b (fc b) (fun t => fc b (a * t))) := by
    rw [← S_mul]
    apply S_congr
    intro t _
    unfold sel
    by_cases hd : Dv b t
    · simp [hd]
    · rw [if_neg hd, if_neg hd]
      by_cases h0 : fc b t % 4 = 0
      · rw [if_pos h0, if_pos h0, ← hM.card hc.ne_zero, ← S_const]
        apply S_congr
        intro s _
        have hn : ¬ Dv b (a * (t + b * s)) := by
          intro hh
          obtain ⟨v, hv⟩ := ha.dv_of_dv_mul hh
          exact hd ⟨v - s, by grind⟩
        rw [comb_not hn, hf.per _ (a * t) ⟨a * s, by grind⟩, fc_mod]
      · rw [if_neg h0, if_neg h0]; simp
  have e3 : S (C c) (sel c (fc c) (fun s => comb b (fc b) (fc c) (a * (b * s)) % 4))
      = S (C c) (sel c (fc c) (fun s => fc c (a * s))) := by
    apply S_congr
    intro s _
    unfold sel
    have : a * (b * s) = b * (a * s) := by grind
    dsimp only
    rw [this, comb_mul hb.ne_zero]; simp only [fc_mod]
  rw [e2, e3, J_sum hb ha hf hL, J_sum hc hac hg hM]
  have := hc.norm4
  generalize S (C b) (sel b (fc b) (fun t => fc b (a * t))) = x
  obtain ⟨k, hk⟩ : ∃ k, norm c = 4 * k + 1 := ⟨q c, hc.q4.symm⟩
  rw [hk]
  have : (4 * k + 1) * x = 4 * (k * x) + x := by grind
  omega

/-! flipped pairs, kin -/
theorem Od.conj {m : G} (h : Od m) : Od (conj m) := by unfold Od; rw [norm_conj]; exact h
theorem J_conj {a m : G} (hm : Od m) (ha : Cop a m) : J (conj a) (conj m) = (- J a m) % 4 := by
  have hf := fc_eqv hm
  have hdv : ∀ z, Dv (conj m) z ↔ Dv m (conj z) := by
    intro z
    constructor
    · rintro ⟨t, rfl⟩; exact ⟨G.conj t, by rw [conj_mul, conj_conj]⟩
    · rintro ⟨t, ht⟩; exact ⟨G.conj t, by rw [← conj_mul, ← ht, conj_conj]⟩
  have hg : Eqv (conj m) (fun z => - fc m (G.conj z)) := by
    constructor
    · rintro z w ⟨t, ht⟩
      have : Cong m (G.conj z) (G.conj w) := ⟨G.conj t, by rw [← conj_sub, ht, conj_mul, conj_conj]⟩
      rw [fc_per hm this]
    · intro z hz
      have hz' : ¬ Dv m (G.conj z) := fun h => hz ((hdv z).mpr h)
      have e : G.conj (I * z) = -(I * G.conj z) := by apply G.ext <;> simp
      have h1 := hf.rot (-(I * G.conj z)) (by
        rintro ⟨t, ht⟩; exact hz' ⟨I * t, by have : I * I = -1 := I_mul_I; grind⟩)
      have e2 : I * -(I * G.conj z) = G.conj z := by have : I * I = -1 := I_mul_I; grind
      rw [e2] at h1
      rw [e]; omega
  have hcop : Cop (G.conj a) (G.conj m) := ha.conj
  rw [J_sum hm.conj hcop hg (C_crs hm).conj, S_map, J_sum hm ha hf (C_crs hm)]
  have : ∀ z ∈ C m, sel (G.conj m) (fun z => - fc m (G.conj z)) (fun z => - fc m (G.conj (G.conj a * z))) (G.conj z)
      = - sel m (fc m) (fun z => fc m (a * z)) z := by
    intro z _
    unfold sel
    have h1 : Dv (G.conj m) (G.conj z) ↔ Dv m z := by rw [hdv, conj_conj]
    have h2 : G.conj (G.conj a * G.conj z) = a * z := by rw [← conj_mul, conj_conj]
    simp only [h1, h2, conj_conj]
    repeat' split
    all_goals (first | omega | (dsimp only; omega))
  rw [S_congr this, S_neg]; omega
/-- the second number may be turned -/
theorem J_kin {a m m' : G} (hm : Od m) (hm' : Od m') (ha : Cop a m) (h : ∀ z w, Cong m z w ↔ Cong m' z w) : J a m' = J a m := by
  have hdv : ∀ z, Dv m z ↔ Dv m' z := fun z => by rw [← cong_zero, ← cong_zero, h]
  have hf := fc_eqv hm
  have hf' : Eqv m' (fc m) := ⟨fun z w e => hf.per z w ((h z w).mpr e), fun z hz => hf.rot z (fun hh => hz ((hdv z).mp hh))⟩
  have hL : CRS m' (C m) := ⟨(C_crs hm).nodup, fun z => by
      obtain ⟨w, hw, e⟩ := (C_crs hm).cov z; exact ⟨w, hw, (h z w).mp e⟩,
    fun z hz w hw e => (C_crs hm).inc z hz w hw ((h z w).mpr e)⟩
  have ha' : Cop a m' := by
    apply ha.of_dv
    exact (hdv m').mpr (dv_refl m') |> fun d => by
      have := (hdv m).mp (dv_refl m)
      exact this
  rw [J_sum hm' ha' hf' hL, J_sum hm ha hf (C_crs hm)]
  congr 1
  apply S_congr
  intro z _
  unfold sel
  simp only [hdv]
theorem Cong_I {m z w : G} : Cong m z w ↔ Cong (I * m) z w := by
  constructor
  · rintro ⟨t, ht⟩; exact ⟨-(I * t), by have : I * I = -1 := I_mul_I; grind⟩
  · rintro ⟨t, ht⟩; exact ⟨I * t, by grind⟩
theorem Od.I_mul {m : G} (h : Od m) : Od (I * m) := by
  unfold Od; rw [norm_mul]; have : norm I = 1 := rfl; rw [this, Int.one_mul]; exact h
theorem J_I_right {a m : G} (hm : Od m) (ha : Cop a m) : J a (I * m) = J a m :=
  J_kin hm hm.I_mul ha (fun _ _ => Cong_I)
theorem Cong_neg {m z w : G} : Cong m z w ↔ Cong (-m) z w := by
  constructor
  · rintro ⟨t, ht⟩; exact ⟨-t, by grind⟩
  · rintro ⟨t, ht⟩; exact ⟨-t, by grind⟩
theorem Od.neg {m : G} (h : Od m) : Od (-m) := by
  unfold Od norm at *; simp only [neg_re, neg_im]
  have e1 : -m.re * -m.re = m.re * m.re := by grind
  have e2 : -m.im * -m.im = m.im * m.im := by grind
  rw [e1, e2]; exact h
theorem J_neg_right {a m : G} (hm : Od m) (ha : Cop a m) : J a (-m) = J a m :=
  J_kin hm hm.neg ha (fun _ _ => Cong_neg)
theorem J_unit {a m : G} (hm : norm m = 1) : J a m = 0 := by
  have hall : ∀ z, Dv m z := fun z => ⟨conj m * z, by
    have := mul_conj m
    rw [hm] at this
    have e : m * (conj m * z) = (m * conj m) * z := by grind
    rw [e, this]; show z = 1 * z; grind⟩
  unfold J od
  rw [S_eq_zero]
  · rfl
  · intro z _; unfold sel; rw [if_pos (hall z)]
theorem neg_cop {m : G} : Cop (-1) m := ⟨-1, 0, by grind⟩
theorem J_neg_one {m : G} (hm : Od m) : J (-1) m = 2 * q m % 4 := by
  have : (-1 : G) = I * I := I_mul_I.symm
  rw [this, J_mul hm (I_cop m) (I_cop m), J_I hm]; omega
end
end FS
namespace FS
open G Classical
noncomputable section

/-- the quarter by an integer -/
def en (n : Int) (z : G) : Int := sec (cm n z.re) (cm n z.im)
theorem en_range (n : Int) (z : G) : 0 ≤ en n z ∧ en n z < 4 := sec_range _ _
theorem odd_sq {n : Int} (h1 : n % 2 = 1) : ∃ k, n * n = 8 * k + 1 := by
  obtain ⟨l, hl⟩ : ∃ l, n = 2 * l + 1 := ⟨n / 2, by omega⟩
  obtain ⟨j, hj⟩ : ∃ j, l * (l + 1) = 2 * j := by
    rcases Int.emod_two_eq l with h | h
    · obtain ⟨k, rfl⟩ : ∃ k, l = 2 * k := ⟨l / 2, by omega⟩
      exact ⟨k * (2 * k + 1), by grind⟩
    · obtain ⟨k, rfl⟩ : ∃ k, l = 2 * k + 1 := ⟨l / 2, by omega⟩
      exact ⟨(2 * k + 1) * (k + 1), by grind⟩
  exact ⟨j, by subst hl; grind⟩
theorem int_od {n : Int} (h1 : n % 2 = 1) : Od (n : G) := by
  unfold Od; rw [norm_int]; obtain ⟨k, hk⟩ := odd_sq h1; omega
theorem int_q_even {n : Int} (h1 : n % 2 = 1) : ∃ k, q (n : G) = 2 * k := by
  obtain ⟨k, hk⟩ := odd_sq h1
  unfold q; rw [norm_int]; exact ⟨k, by omega⟩
theorem Dv_int {n : Int} {z : G} : Dv (n : G) z ↔ n ∣ z.re ∧ n ∣ z.im := by
  constructor
  · rintro ⟨t, rfl⟩; exact ⟨⟨t.re, by simp⟩, ⟨t.im, by simp⟩⟩
  · rintro ⟨⟨s, hs⟩, ⟨t, ht⟩⟩; exact ⟨⟨s, t⟩, G.ext (by simp; omega) (by simp; omega)⟩
theorem en_per {n : Int} (h0 : 0 < n) (h1 : n % 2 = 1) {z w : G} (h : Cong (n : G) z w) : en n z = en n w := by
  obtain ⟨t, ht⟩ := h
  have e := G.ext_iff.mp ht
  simp only [sub_re, sub_im, int_mul_re, int_mul_im] at e
  unfold en
  rw [cm_of_cong h0 h1 e.1, cm_of_cong h0 h1 e.2]
theorem en_eqv {n : Int} (h0 : 0 < n) (h1 : n % 2 = 1) : Eqv (n : G) (en n) where
  per z w h := by rw [en_per h0 h1 h]
  rot z hz := by
    unfold en
    have e1 : (I * z).re = -z.im := by simp
    have e2 : (I * z).im = z.re := by simp
    rw [e1, e2, cm_neg h0 h1]
    apply sec_rot
    rintro ⟨a, b⟩
    exact hz (Dv_int.mpr ⟨(cm_zero h0 h1).mp a, (cm_zero h0 h1).mp b⟩)
theorem sec_zero {x y : Int} (h : ¬ (x = 0 ∧ y = 0)) : sec x y % 4 = 0 ↔ 0 < x ∧ 0 ≤ y := by
  unfold sec; repeat' split
  all_goals omega
/-- a symbol by an integer, over the first quarter -/
theorem J_grid {n : Int} (h0 : 0 < n) (h1 : n % 2 = 1) {a : G} (ha : Cop a (n : G)) :
    J a (n : G) = S (grid (rng 1 (n / 2).toNat) (rng 0 (n / 2 + 1).toNat)) (fun z => en n (a * z)) % 4 := by
  rw [J_sum (int_od h1) ha (en_eqv h0 h1) (int_crs h0 (-(n / 2)) (-(n / 2)))]
  congr 1
  have e : S (grid (rng 1 (n / 2).toNat) (rng 0 (n / 2 + 1).toNat)) (fun z => en n (a * z)) =
      S ((grid (rng (-(n / 2)) n.toNat) (rng (-(n / 2)) n.toNat)).filter (fun z => decide (0 < z.re ∧ 0 ≤ z.im)))
        (fun z => en n (a * z)) := by
    apply S_same (nodup_grid (nodup_rng _ _) (nodup_rng _ _)) ((nodup_grid (nodup_rng _ _) (nodup_rng _ _)).filter _)
    intro z
    rw [List.mem_filter, mem_grid, mem_grid, mem_rng, mem_rng, mem_rng, mem_rng]
    simp only [decide_eq_true_eq]
    omega
  rw [e, S_filter]
  apply S_congr
  intro z hz
  rw [mem_grid, mem_rng, mem_rng] at hz
  have c1 : cm n z.re = z.re := cm_self h0 h1 (by omega)
  have c2 : cm n z.im = z.im := cm_self h0 h1 (by omega)
  unfold sel
  by_cases hd : Dv (n : G) z
  · rw [if_pos hd]
    have := Dv_int.mp hd
    have a1 := (cm_zero h0 h1).mpr this.1
    have a2 := (cm_zero h0 h1).mpr this.2
    rw [if_neg]
    simp only [decide_eq_true_eq]; omega
  · rw [if_neg hd]
    have hne : ¬ (z.re = 0 ∧ z.im = 0) := by
      rintro ⟨b1, b2⟩
      apply hd; rw [Dv_int, b1, b2]; exact ⟨Int.dvd_zero _, Int.dvd_zero _⟩
    have := sec_zero hne
    have e3 : en n z = sec z.re z.im := by unfold en; rw [c1, c2]
    rw [e3]
    by_cases hp : 0 < z.re ∧ 0 ≤ z.im
    · rw [if_pos (this.mpr hp), if_pos (by simp [hp])]
    · rw [if_neg (fun h => hp (this.mp h)), if_neg (by simp only [decide_eq_true_eq]; exact hp)]

theorem sec_bits {x y : Int} (hx : x ≠ 0) (hy : y ≠ 0) :
    sec x y = (if x < 0 then 1 else 0) + (if y < 0 then 1 else 0) * 3 - 2 * ((if x < 0 then 1 else 0) * (if y < 0 then 1 else 0)) := by
  unfold sec; repeat' split
  all_goals omega
theorem sec_bits0 {x : Int} (hx : x ≠ 0) : sec x 0 = 2 * (if x < 0 then 1 else 0) := by
  unfold sec; repeat' split
  all_goals omega
/-- integers by integers -/
theorem J_int_int {a n : Int} (h0 : 0 < n) (h1 : n % 2 = 1) (ha : Cop (a : G) (n : G)) : J (a : G) (n : G) = 0 := by
  rw [J_grid h0 h1 ha, S_grid]
  have hlen : (n / 2 + 1).toNat = (n / 2).toNat + 1 := by omega
  rw [hlen]
  let α : Int → Int := fun u => if cm n (a * u) < 0 then 1 else 0
  have nz : ∀ u ∈ rng 1 (n / 2).toNat, cm n (a * u) ≠ 0 := by
    intro u hu h
    rw [mem_rng] at hu
    have hd : n ∣ a * u := (cm_zero h0 h1).mp h
    have : Dv (n : G) ((a : G) * (u : G)) := by
      rw [Dv_int]; simp; exact hd
    have := (Dv_int.mp (ha.dv_of_dv_mul this)).1
    obtain ⟨k, hk⟩ := this
    have := small_mul h0 hk (by simp; omega) (by simp; omega)
    simp at this; omega
  have e : ∀ u ∈ rng 1 (n / 2).toNat, S (rng 0 ((n / 2).toNat + 1)) (fun v => en n ((a : G) * ⟨u, v⟩)) =
      2 * α u + (((n / 2).toNat : Int) * α u + S (rng 1 (n / 2).toNat) α * 3 - 2 * (α u * S (rng 1 (n / 2).toNat) α)) := by
    intro u hu
    rw [S_rng_succ_left]
    have e1 : en n ((a : G) * ⟨u, 0⟩) = 2 * α u := by
      unfold en
      rw [int_mul_re, int_mul_im]
      simp only [Int.mul_zero]
      have : cm n 0 = 0 := cm_self h0 h1 (by omega)
      rw [this, sec_bits0 (nz u hu)]
    have e2 : S (rng (0 + 1) (n / 2).toNat) (fun v => en n ((a : G) * ⟨u, v⟩)) =
        S (rng 1 (n / 2).toNat) (fun v => α u + α v * 3 - 2 * (α u * α v)) := by
      apply S_congr
      intro v hv
      unfold en
      rw [int_mul_re, int_mul_im, sec_bits (nz u hu) (nz v hv)]
    rw [e1, e2, S_sub, S_add, S_const, length_rng, S_mul_right, S_mul, S_mul]
  rw [S_congr e, S_add, S_mul, S_sub, S_add, S_mul, S_const, length_rng, S_mul, S_mul_right]
  generalize S (rng 1 (n / 2).toNat) α = μ
  generalize ((n / 2).toNat : Int) = h
  obtain ⟨k, hk⟩ : ∃ k, μ * μ - μ = 2 * k := by
    rcases Int.emod_two_eq μ with h | h
    · obtain ⟨k, rfl⟩ : ∃ k, μ = 2 * k := ⟨μ / 2, by omega⟩
      exact ⟨k * (2 * k) * 2 - k * (2 * k) - k + 0 * k + (2 * (k * k) - k * (2 * k)), by grind⟩
    · obtain ⟨k, rfl⟩ : ∃ k, μ = 2 * k + 1 := ⟨μ / 2, by omega⟩
      exact ⟨k * (2 * k + 1), by grind⟩
  have : 2 * μ + (h * μ + h * (μ * 3) - 2 * (μ * μ)) = 4 * (h * μ) - 2 * (μ * μ - μ) := by grind
  rw [this]; omega
/-- .. of any sign -/
theorem J_int_int' {a n : Int} (h1 : n % 2 = 1) (ha : Cop (a : G) (n : G)) : J (a : G) (n : G) = 0 := by
  rcases Int.lt_or_gt_of_ne (show n ≠ 0 by omega) with h | h
  · have e : (n : G) = -((-n : Int) : G) := by apply G.ext <;> simp
    have ha' : Cop (a : G) ((-n : Int) : G) := by
      apply ha.of_dv; exact ⟨-1, by rw [e]; grind⟩
    rw [e, J_neg_right (int_od (by omega)) ha']
    exact J_int_int (by omega) (by omega) ha'
  · exact J_int_int h h1 ha
end
end FS
namespace FS
open G Classical
noncomputable section

/-- the sum over the points of a box at which p holds -/
def SB (B : Int) (p : G → Bool) (g : G → Int) : Int :=
  S (grid (rng (-B) (2 * B + 1).toNat) (rng (-B) (2 * B + 1).toNat)) (fun z => if p z = true then g z else 0)
def InB (B : Int) (p : G → Bool) : Prop := ∀ z, p z = true → -B ≤ z.re ∧ z.re ≤ B ∧ -B ≤ z.im ∧ z.im ≤ B
theorem box_nodup (B : Int) : (grid (rng (-B) (2 * B + 1).toNat) (rng (-B) (2 * B + 1).toNat)).Nodup :=
  nodup_grid (nodup_rng _ _) (nodup_rng _ _)
theorem mem_box {B : Int} {z : G} : z ∈ grid (rng (-B) (2 * B + 1).toNat) (rng (-B) (2 * B + 1).toNat) ↔
    -B ≤ z.re ∧ z.re ≤ B ∧ -B ≤ z.im ∧ z.im ≤ B := by
  rw [mem_grid, mem_rng, mem_rng]; omega
theorem SB_list {B : Int} {p : G → Bool} {L : List G} (h : InB B p) (hL : L.Nodup) (hm : ∀ z, z ∈ L ↔ p z = true)
    (g : G → Int) : SB B p g = S L g := by
  unfold SB
  rw [← S_filter]
  apply S_same ((box_nodup B).filter _) hL
  intro z
  rw [List.mem_filter, mem_box, hm]
  constructor
  · exact fun h => h.2
  · exact fun hz => ⟨h z hz, hz⟩
theorem SB_bij {B B' : Int} {p p' : G → Bool} (h : InB B p) (h' : InB B' p') (φ ψ : G → G)
    (h1 : ∀ z, p z = true → p' (φ z) = true ∧ ψ (φ z) = z) (h2 : ∀ w, p' w = true → p (ψ w) = true ∧ φ (ψ w) = w)
    (g : G → Int) : SB B' p' g = SB B p (fun z => g (φ z)) := by
  unfold SB
  rw [← S_filter, ← S_filter]
  apply S_bij ((box_nodup B).filter _) ((box_nodup B').filter _) φ
  · intro z hz
    rw [List.mem_filter] at hz ⊢
    have := (h1 z hz.2).1
    exact ⟨mem_box.mpr (h' _ this), this⟩
  · intro z hz w hw e
    rw [List.mem_filter] at hz hw
    rw [← (h1 z hz.2).2, e, (h1 w hw.2).2]
  · intro w hw
    rw [List.mem_filter] at hw
    have := h2 w hw.2
    exact ⟨ψ w, List.mem_filter.mpr ⟨mem_box.mpr (h _ this.1), this.1⟩, this.2⟩
theorem SB_congr {B : Int} {p : G → Bool} {g g' : G → Int} (e : ∀ z, p z = true → g z = g' z) : SB B p g = SB B p g' := by
  unfold SB
  apply S_congr
  intro z _
  by_cases hp : p z = true
  · rw [if_pos hp, if_pos hp, e z hp]
  · rw [if_neg hp, if_neg hp]
theorem SB_mod {B : Int} {p : G → Bool} {g g' : G → Int} (e : ∀ z, p z = true → g z % 4 = g' z % 4) :
    SB B p g % 4 = SB B p g' % 4 := by
  unfold SB
  apply S_mod
  intro z _
  by_cases hp : p z = true
  · rw [if_pos hp, if_pos hp, e z hp]
  · rw [if_neg hp, if_neg hp]
theorem SB_add {B : Int} {p : G → Bool} {g g' : G → Int} : SB B p (fun z => g z + g' z) = SB B p g + SB B p g' := by
  unfold SB
  rw [← S_add]
  apply S_congr
  intro z _
  split <;> simp
theorem SB_sub {B : Int} {p : G → Bool} {g g' : G → Int} : SB B p (fun z => g z - g' z) = SB B p g - SB B p g' := by
  unfold SB
  rw [← S_sub]
  apply S_congr
  intro z _
  split <;> simp

/-! the pieces; a = n x, c = n y -/
def pK (x y a c : Int) (z : G) : Bool :=
  decide (0 < x * z.re + y * z.im ∧ 2 * (x * z.re + y * z.im) < x * a + y * c ∧
    0 ≤ x * z.im - y * z.re ∧ 2 * (x * z.im - y * z.re) < x * a + y * c)
def pE (x y a : Int) (z : G) : Bool := decide (0 < z.re ∧ 2 * z.re < a ∧ 0 ≤ z.im ∧ x * z.im - y * z.re < 0)
def pE' (x y a : Int) (z : G) : Bool := decide (0 < z.im ∧ 2 * z.im < a ∧ z.re ≤ 0 ∧ 0 < x * z.re + y * z.im)
def pH (x y a c : Int) (z : G) : Bool :=
  decide (x * a + y * c < 2 * (x * z.re + y * z.im) ∧ 2 * z.re < a ∧ 2 * z.im < a + c)
def pH' (x y a c : Int) (z : G) : Bool :=
  decide (2 * (x * z.im - y * z.re) < x * a + y * c ∧ a < 2 * z.im ∧ 2 * z.re < a - c)
def pB (a : Int) (z : G) : Bool := decide (0 < z.re ∧ 2 * z.re < a ∧ 0 ≤ z.im ∧ 2 * z.im < a)
def pS (a c : Int) (z : G) : Bool := decide (a - c < 2 * z.re ∧ 2 * z.re < a ∧ a < 2 * z.im ∧ 2 * z.im < a + c)

theorem quad {x y d e : Int} (hx : 0 < x) (hy : 0 < y) :
    (0 < d → 0 ≤ e → 0 < x * d + y * e) ∧ (0 ≤ d → 0 < e → 0 < x * d + y * e) ∧
    (d < 0 → e ≤ 0 → x * d + y * e < 0) ∧ (d ≤ 0 → e < 0 → x * d + y * e < 0) ∧
    (d ≤ 0 → 0 < e → 0 < x * e - y * d) ∧ (d < 0 → 0 ≤ e → 0 < x * e - y * d) ∧
    (0 ≤ d → e < 0 → x * e - y * d < 0) ∧ (0 < d → e ≤ 0 → x * e - y * d < 0) := by
  have pd : 0 < d → 0 < x * d := Int.mul_pos hx
  have pe : 0 < e → 0 < y * e := Int.mul_pos hy
  have pd' : 0 < d → 0 < y * d := Int.mul_pos hy
  have pe' : 0 < e → 0 < x * e := Int.mul_pos hx
  have nd : d < 0 → x * d < 0 := Int.mul_neg_of_pos_of_neg hx
  have ne : e < 0 → y * e < 0 := Int.mul_neg_of_pos_of_neg hy
  have nd' : d < 0 → y * d < 0 := Int.mul_neg_of_pos_of_neg hy
  have ne' : e < 0 → x * e < 0 := Int.mul_neg_of_pos_of_neg hx
  have zd : d = 0 → x * d = 0 ∧ y * d = 0 := by rintro rfl; simp
  have ze : e = 0 → x * e = 0 ∧ y * e = 0 := by rintro rfl; simp
  refine ⟨?_, ?_, ?_, ?_, ?_, ?_, ?_, ?_⟩ <;> omega

/-- what the corners tell -/
structure Cor (x y a c u v p r D : Int) : Prop where
  z : u ≤ 0 → v ≤ 0 → p ≤ 0
  z' : u = 0 → v = 0 → r = 0
  j : (0 < u → 0 ≤ v → 0 < p) ∧ (0 ≤ u → 0 < v → 0 < p) ∧ (u < 0 → v ≤ 0 → p < 0) ∧ (u ≤ 0 → v < 0 → p < 0) ∧
    (u ≤ 0 → 0 < v → 0 < r) ∧ (u < 0 → 0 ≤ v → 0 < r) ∧ (0 ≤ u → v < 0 → r < 0) ∧ (0 < u → v ≤ 0 → r < 0)
  k : (a < 2 * u → c ≤ 2 * v → D < 2 * p) ∧ (a ≤ 2 * u → c < 2 * v → D < 2 * p) ∧
    (2 * u < a → 2 * v ≤ c → 2 * p < D) ∧ (2 * u ≤ a → 2 * v < c → 2 * p < D) ∧
    (2 * u ≤ a → c < 2 * v → 0 < r) ∧ (2 * u < a → c ≤ 2 * v → 0 < r) ∧
    (a ≤ 2 * u → 2 * v < c → r < 0) ∧ (a < 2 * u → 2 * v ≤ c → r < 0)
  l : (a - c < 2 * u → a + c ≤ 2 * v → D < 2 * p) ∧ (a - c ≤ 2 * u → a + c < 2 * v → D < 2 * p) ∧
    (2 * u < a - c → 2 * v ≤ a + c → 2 * p < D) ∧ (2 * u ≤ a - c → 2 * v < a + c → 2 * p < D) ∧
    (2 * u ≤ a - c → a + c < 2 * v → D < 2 * r) ∧ (2 * u < a - c → a + c ≤ 2 * v → D < 2 * r) ∧
    (a - c ≤ 2 * u → 2 * v < a + c → 2 * r < D) ∧ (a - c < 2 * u → 2 * v ≤ a + c → 2 * r < D)
  m : (-c < 2 * u → a ≤ 2 * v → 0 < p) ∧ (-c ≤ 2 * u → a < 2 * v → 0 < p) ∧
    (2 * u < -c → 2 * v ≤ a → p < 0) ∧ (2 * u ≤ -c → 2 * v < a → p < 0) ∧
    (2 * u ≤ -c → a < 2 * v → D < 2 * r) ∧ (2 * u < -c → a ≤ 2 * v → D < 2 * r) ∧
    (-c ≤ 2 * u → 2 * v < a → 2 * r < D) ∧ (-c < 2 * u → 2 * v ≤ a → 2 * r < D)
theorem cor {x y a c : Int} (hx : 0 < x) (hy : 0 < y) (hac : x * c = y * a) (u v : Int) :
    Cor x y a c u v (x * u + y * v) (x * v - y * u) (x * a + y * c) := by
  have e1 : x * (2 * u - a) + y * (2 * v - c) = 2 * (x * u + y * v) - (x * a + y * c) := by grind
  have e2 : x * (2 * v - c) - y * (2 * u - a) = 2 * (x * v - y * u) := by grind
  have e3 : x * (2 * u - (a - c)) + y * (2 * v - (a + c)) = 2 * (x * u + y * v) - (x * a + y * c) := by grind
  have e4 : x * (2 * v - (a + c)) - y * (2 * u - (a - c)) = 2 * (x * v - y * u) - (x * a + y * c) := by grind
  have e5 : x * (2 * u + c) + y * (2 * v - a) = 2 * (x * u + y * v) := by grind
  have e6 : x * (2 * v - a) - y * (2 * u + c) = 2 * (x * v - y * u) - (x * a + y * c) := by grind
  have q1 := quad (d := u) (e := v) hx hy
  have q0 : u ≤ 0 → v ≤ 0 → x * u + y * v ≤ 0 := by
    intro h1 h2
    have := Int.mul_nonneg (show 0 ≤ x by omega) (show 0 ≤ -u by omega)
    have := Int.mul_nonneg (show 0 ≤ y by omega) (show 0 ≤ -v by omega)
    have e1 : x * -u = -(x * u) := by grind
    have e2 : y * -v = -(y * v) := by grind
    omega
  have q0' : u = 0 → v = 0 → x * v - y * u = 0 := by
    rintro rfl rfl; simp
  have q2 := quad (d := 2 * u - a) (e := 2 * v - c) hx hy
  have q3 := quad (d := 2 * u - (a - c)) (e := 2 * v - (a + c)) hx hy
  have q4 := quad (d := 2 * u + c) (e := 2 * v - a) hx hy
  rw [e1, e2] at q2
  rw [e3, e4] at q3
  rw [e5, e6] at q4
  generalize x * u + y * v = p at *
  generalize x * v - y * u = r at *
  generalize x * a + y * c = D at *
  clear e1 e2 e3 e4 e5 e6 hac
  refine ⟨q0, q0', q1, ?_, ?_, ?_⟩
  · clear q1 q3 q4; refine ⟨?_, ?_, ?_, ?_, ?_, ?_, ?_, ?_⟩ <;> omega
  · clear q1 q2 q4; refine ⟨?_, ?_, ?_, ?_, ?_, ?_, ?_, ?_⟩ <;> omega
  · clear q1 q2 q3; refine ⟨?_, ?_, ?_, ?_, ?_, ?_, ?_, ?_⟩ <;> omega

set_option maxHeartbeats 4000000 in
theorem ident {a c u v p r D : Int} (ha : 0 < a) (hc : 0 < c) (oa : a % 2 = 1) (oc : c % 2 = 0) (oD : D % 2 = 1)
    (h : ∃ x y, Cor x y a c u v p r D) :
    (if 0 < p ∧ 2 * p < D ∧ 0 ≤ r ∧ 2 * r < D then 1 else 0) + (if 0 < u ∧ 2 * u < a ∧ 0 ≤ v ∧ r < 0 then 1 else 0) +
      (if D < 2 * p ∧ 2 * u < a ∧ 2 * v < a + c then 1 else 0) =
    (if 0 < u ∧ 2 * u < a ∧ 0 ≤ v ∧ 2 * v < a then 1 else 0) +
      (if a - c < 2 * u ∧ 2 * u < a ∧ a < 2 * v ∧ 2 * v < a + c then 1 else 0) +
      (if 0 < v ∧ 2 * v < a ∧ u ≤ 0 ∧ 0 < p then 1 else 0) +
      (if 2 * r < D ∧ a < 2 * v ∧ 2 * u < a - c then (1 : Int) else 0) := by
  obtain ⟨x, y, h⟩ := h
  obtain ⟨o1, o2, o3, o4, o5, o6, o7, o8⟩ := h.j
  obtain ⟨a1, a2, a3, a4, a5, a6, a7, a8⟩ := h.k
  obtain ⟨c1, c2, c3, c4, c5, c6, c7, c8⟩ := h.l
  obtain ⟨b1, b2, b3, b4, b5, b6, b7, b8⟩ := h.m
  have hz := h.z
  clear h
  by_cases hv0 : v < 0
  · -- below
    have k1 : ¬ (0 < p ∧ 0 ≤ r) := by clear a1 a2 a3 a4 a5 a6 a7 a8 b1 b2 b3 b4 b5 b6 b7 b8 c1 c2 c3 c4 c5 c6 c7 c8; omega
    have k2 : 2 * u < a → 2 * p < D := by clear o1 o2 o3 o4 o5 o6 o7 o8 b1 b2 b3 b4 b5 b6 b7 b8 c1 c2 c3 c4 c5 c6 c7 c8; omega
    clear a1 a2 a3 a4 a5 a6 a7 a8 b1 b2 b3 b4 b5 b6 b7 b8 c1 c2 c3 c4 c5 c6 c7 c8 o1 o2 o3 o4 o5 o6 o7 o8
    repeat' split
    all_goals omega
  by_cases hv2 : a + c < 2 * v
  · have k1 : ¬ (2 * p < D ∧ 2 * r < D) := by clear a1 a2 a3 a4 a5 a6 a7 a8 b1 b2 b3 b4 b5 b6 b7 b8 o1 o2 o3 o4 o5 o6 o7 o8; omega
    have k2 : 2 * u < a → 0 < r := by clear o1 o2 o3 o4 o5 o6 o7 o8 b1 b2 b3 b4 b5 b6 b7 b8 c1 c2 c3 c4 c5 c6 c7 c8; omega
    have k3 : 2 * u < a - c → D < 2 * r := by clear o1 o2 o3 o4 o5 o6 o7 o8 b1 b2 b3 b4 b5 b6 b7 b8 a1 a2 a3 a4 a5 a6 a7 a8; omega
    clear a1 a2 a3 a4 a5 a6 a7 a8 b1 b2 b3 b4 b5 b6 b7 b8 c1 c2 c3 c4 c5 c6 c7 c8 o1 o2 o3 o4 o5 o6 o7 o8
    repeat' split
    all_goals omega
  by_cases hv1 : 2 * v < a
  · by_cases hu : u ≤ 0
    · have k1 : 2 * p < D := by
        clear o1 o2 o3 o4 o5 o6 o7 o8 b1 b2 b3 b4 b5 b6 b7 b8; omega
      have k2 : 0 < v → 0 < r := o5 hu
      have k3 : 0 < p → 2 * r < D := by clear o1 o2 o3 o4 o5 o6 o7 o8 a1 a2 a3 a4 a5 a6 a7 a8 c1 c2 c3 c4 c5 c6 c7 c8; omega
      have k4 : 0 < p → 0 < v := fun h1 => by have := hz hu; clear b1 b2 b3 b4 b5 b6 b7 b8 a1 a2 a3 a4 a5 a6 a7 a8 c1 c2 c3 c4 c5 c6 c7 c8 o1 o2 o3 o4 o5 o6 o7 o8; omega
      clear a1 a2 a3 a4 a5 a6 a7 a8 b1 b2 b3 b4 b5 b6 b7 b8 c1 c2 c3 c4 c5 c6 c7 c8 o1 o2 o3 o4 o5 o6 o7 o8
      repeat' split
      all_goals omega
    · have k0 : 0 < p := o1 (by clear a1 a2 a3 a4 a5 a6 a7 a8 b1 b2 b3 b4 b5 b6 b7 b8 c1 c2 c3 c4 c5 c6 c7 c8 o1 o2 o3 o4 o5 o6 o7 o8; omega) (by clear a1 a2 a3 a4 a5 a6 a7 a8 b1 b2 b3 b4 b5 b6 b7 b8 c1 c2 c3 c4 c5 c6 c7 c8 o1 o2 o3 o4 o5 o6 o7 o8; omega)
      by_cases hu2 : 2 * u < a
      · have k1 : r < 0 → 2 * p < D := by clear o1 o2 o3 o4 o5 o6 o7 o8 b1 b2 b3 b4 b5 b6 b7 b8 c1 c2 c3 c4 c5 c6 c7 c8; omega
        have k2 : 2 * r < D := b7 (by clear a1 a2 a3 a4 a5 a6 a7 a8 b1 b2 b3 b4 b5 b6 b7 b8 c1 c2 c3 c4 c5 c6 c7 c8 o1 o2 o3 o4 o5 o6 o7 o8; omega) hv1
        clear a1 a2 a3 a4 a5 a6 a7 a8 b1 b2 b3 b4 b5 b6 b7 b8 c1 c2 c3 c4 c5 c6 c7 c8 o1 o2 o3 o4 o5 o6 o7 o8
        repeat' split
        all_goals omega
      · have k1 : ¬ (2 * p < D ∧ 0 ≤ r) := by clear o1 o2 o3 o4 o5 o6 o7 o8 b1 b2 b3 b4 b5 b6 b7 b8 c1 c2 c3 c4 c5 c6 c7 c8; omega
        clear a1 a2 a3 a4 a5 a6 a7 a8 b1 b2 b3 b4 b5 b6 b7 b8 c1 c2 c3 c4 c5 c6 c7 c8 o1 o2 o3 o4 o5 o6 o7 o8
        repeat' split
        all_goals omega
  · by_cases hu2 : 2 * u < a
    · by_cases hu3 : a - c < 2 * u
      · have k1 : r < 0 → 2 * p < D := by clear o1 o2 o3 o4 o5 o6 o7 o8 b1 b2 b3 b4 b5 b6 b7 b8 c1 c2 c3 c4 c5 c6 c7 c8; omega
        have k2 : 2 * r < D := by clear o1 o2 o3 o4 o5 o6 o7 o8 a1 a2 a3 a4 a5 a6 a7 a8 b1 b2 b3 b4 b5 b6 b7 b8; omega
        have k3 : 0 < p := by clear o1 o2 o3 o4 o5 o6 o7 o8 a1 a2 a3 a4 a5 a6 a7 a8 c1 c2 c3 c4 c5 c6 c7 c8; omega
        have k4 : r < 0 → 0 < u := by clear b1 b2 b3 b4 b5 b6 b7 b8 a1 a2 a3 a4 a5 a6 a7 a8 c1 c2 c3 c4 c5 c6 c7 c8; omega
        clear a1 a2 a3 a4 a5 a6 a7 a8 b1 b2 b3 b4 b5 b6 b7 b8 c1 c2 c3 c4 c5 c6 c7 c8 o1 o2 o3 o4 o5 o6 o7 o8
        repeat' split
        all_goals omega
      · have k1 : 2 * p < D := by clear o1 o2 o3 o4 o5 o6 o7 o8 a1 a2 a3 a4 a5 a6 a7 a8 b1 b2 b3 b4 b5 b6 b7 b8; omega
        have k2 : 2 * r < D → 0 < p := by clear o1 o2 o3 o4 o5 o6 o7 o8 a1 a2 a3 a4 a5 a6 a7 a8 c1 c2 c3 c4 c5 c6 c7 c8; omega
        have k3 : 0 < r := by clear b1 b2 b3 b4 b5 b6 b7 b8 c1 c2 c3 c4 c5 c6 c7 c8; omega
        clear a1 a2 a3 a4 a5 a6 a7 a8 b1 b2 b3 b4 b5 b6 b7 b8 c1 c2 c3 c4 c5 c6 c7 c8 o1 o2 o3 o4 o5 o6 o7 o8
        repeat' split
        all_goals omega
    · have k1 : ¬ (2 * p < D ∧ 0 ≤ r) := by clear o1 o2 o3 o4 o5 o6 o7 o8 b1 b2 b3 b4 b5 b6 b7 b8 c1 c2 c3 c4 c5 c6 c7 c8; omega
      clear a1 a2 a3 a4 a5 a6 a7 a8 b1 b2 b3 b4 b5 b6 b7 b8 c1 c2 c3 c4 c5 c6 c7 c8 o1 o2 o3 o4 o5 o6 o7 o8
      repeat' split
      all_goals omega
end
end FS
namespace FS
open G Classical
noncomputable section

theorem ite_mul1 (p : Prop) [Decidable p] (g : Int) : (if p then g else 0) = (if p then 1 else 0) * g := by
  split <;> simp

theorem S_single {α : Type} [DecidableEq α] {L : List α} (hL : L.Nodup) {l0 : α} (h : l0 ∈ L) (c : Int) :
    S L (fun l => if l = l0 then c else 0) = c := by
  induction L with
  | nil => simp at h
  | cons x L ih =>
    rw [List.nodup_cons] at hL
    rw [S_cons]
    rcases List.mem_cons.mp h with rfl | hw'
    · rw [if_pos rfl, S_eq_zero]
      · omega
      · intro z hz; rw [if_neg]; rintro rfl; exact hL.1 hz
    · rw [ih hL.2 hw', if_neg]
      · omega
      · rintro rfl; exact hL.1 hw'

/-- en, 0 at the multiples -/
def en0 (n : Int) (z : G) : Int := if Dv (n : G) z then 0 else en n z
def wt (n : Int) (z : G) : Int := if Dv (n : G) z then 0 else 1
theorem en0_per {n : Int} (h0 : 0 < n) (h1 : n % 2 = 1) {z w : G} (h : Cong (n : G) z w) : en0 n z = en0 n w := by
  unfold en0
  rw [en_per h0 h1 h]
  by_cases hd : Dv (n : G) z
  · rw [if_pos hd, if_pos (h.dv_iff.mp hd)]
  · rw [if_neg hd, if_neg (fun e => hd (h.dv_iff.mpr e))]
theorem wt_per {n : Int} {z w : G} (h : Cong (n : G) z w) : wt n z = wt n w := by
  unfold wt
  by_cases hd : Dv (n : G) z
  · rw [if_pos hd, if_pos (h.dv_iff.mp hd)]
  · rw [if_neg hd, if_neg (fun e => hd (h.dv_iff.mpr e))]
theorem wt_I {n : Int} {z : G} : wt n (I * z) = wt n z := by
  unfold wt; simp only [Dv_I]
theorem en0_I {n : Int} (h0 : 0 < n) (h1 : n % 2 = 1) (z : G) : en0 n (I * z) % 4 = (en0 n z + wt n z) % 4 := by
  unfold en0 wt
  by_cases hd : Dv (n : G) z
  · rw [if_pos hd, if_pos hd, if_pos (Dv_I.mpr hd)]; rfl
  · rw [if_neg hd, if_neg hd, if_neg (fun h => hd (Dv_I.mp h))]
    exact (en_eqv h0 h1).rot z hd

structure Geo (x y n a c : Int) (h k y2 : Nat) : Prop where
  hn : n = 2 * h + 1
  hx : x = 2 * k + 1
  hy : y = 2 * y2
  h2 : 0 < y2
  ha : a = n * x
  hc : c = n * y

namespace Geo
variable {x y n a c : Int} {h k y2 : Nat} (g : Geo x y n a c h k y2)
include g
theorem x0 : 0 < x := by have := g.hx; omega
theorem y0 : 0 < y := by have := g.hy; have := g.h2; omega
theorem n0 : 0 < n := by have := g.hn; omega
theorem n1 : n % 2 = 1 := by have := g.hn; omega
theorem x1 : x % 2 = 1 := by have := g.hx; omega
theorem hac : x * c = y * a := by rw [g.ha, g.hc]; grind
theorem a_eq : a = 2 * (h + n * k) + 1 := by rw [g.ha, g.hx]; have := g.hn; grind
theorem a_eq' : a = 2 * (k + x * h) + 1 := by rw [g.ha, g.hn]; have := g.hx; grind
theorem c_eq : c = 2 * (n * y2) := by rw [g.hc, g.hy]; grind
theorem a0 : 0 < a := by rw [g.ha]; exact Int.mul_pos g.n0 g.x0
theorem c0 : 0 < c := by rw [g.hc]; exact Int.mul_pos g.n0 g.y0
theorem a1 : a % 2 = 1 := by have := g.a_eq; omega
theorem c1 : c % 2 = 0 := by have := g.c_eq; omega
theorem D1 : (x * a + y * c) % 2 = 1 := by
  have e1 := g.a_eq; have e2 := g.hx; have e3 := g.hy
  generalize h + n * k = s at e1
  have : x * a + y * c = 2 * (2 * k * s + k + s + y2 * c) + 1 := by rw [e1, e2, e3]; grind
  omega
theorem D_eq : x * a + y * c = n * (x * x + y * y) := by rw [g.ha, g.hc]; grind
theorem cor (z : G) : Cor x y a c z.re z.im (x * z.re + y * z.im) (x * z.im - y * z.re) (x * a + y * c) :=
  FS.cor g.x0 g.y0 g.hac z.re z.im
theorem one : Geo x y 1 x y 0 k y2 := ⟨by simp, g.hx, g.hy, g.h2, by simp, by simp⟩

theorem inK : InB (a + c) (pK x y a c) := by
  intro z hz
  have := g.cor z
  have a0 := g.a0; have c0 := g.c0
  simp only [pK, decide_eq_true_eq] at hz
  obtain ⟨o1, o2, o3, o4, o5, o6, o7, o8⟩ := this.j
  obtain ⟨a1, a2, a3, a4, a5, a6, a7, a8⟩ := this.k
  obtain ⟨c1, c2, c3, c4, c5, c6, c7, c8⟩ := this.l
  obtain ⟨b1, b2, b3, b4, b5, b6, b7, b8⟩ := this.m
  have hz0 := this.z
  clear this
  generalize x * z.re + y * z.im = p at *
  generalize x * z.im - y * z.re = r at *
  generalize x * a + y * c = D at *
  have h1 : 0 ≤ z.im := by clear a1 a2 a3 a4 a5 a6 a7 a8 b1 b2 b3 b4 b5 b6 b7 b8 c1 c2 c3 c4 c5 c6 c7 c8; omega
  have h2 : 2 * z.im ≤ a + c := by clear a1 a2 a3 a4 a5 a6 a7 a8 b1 b2 b3 b4 b5 b6 b7 b8 o1 o2 o3 o4 o5 o6 o7 o8; omega
  have h3 : 2 * z.re ≤ a := by clear c1 c2 c3 c4 c5 c6 c7 c8 b1 b2 b3 b4 b5 b6 b7 b8 o1 o2 o3 o4 o5 o6 o7 o8; omega
  have h4 : -c ≤ 2 * z.re := by clear c1 c2 c3 c4 c5 c6 c7 c8 a1 a2 a3 a4 a5 a6 a7 a8 o1 o2 o3 o4 o5 o6 o7 o8; omega
  clear a1 a2 a3 a4 a5 a6 a7 a8 b1 b2 b3 b4 b5 b6 b7 b8 c1 c2 c3 c4 c5 c6 c7 c8 o1 o2 o3 o4 o5 o6 o7 o8
  omega
theorem inE : InB (a + c) (pE x y a) := by
  intro z hz
  have := g.cor z
  have a0 := g.a0; have c0 := g.c0
  simp only [pE, decide_eq_true_eq] at hz
  obtain ⟨a1, a2, a3, a4, a5, a6, a7, a8⟩ := this.k
  have h2 : 2 * z.im ≤ c := by
    clear a1 a2 a3 a4 a7 a8 this
    omega
  clear a1 a2 a3 a4 a5 a6 a7 a8 this
  omega
theorem inE' : InB (a + c) (pE' x y a) := by
  intro z hz
  have := g.cor z
  have a0 := g.a0; have c0 := g.c0
  simp only [pE', decide_eq_true_eq] at hz
  obtain ⟨b1, b2, b3, b4, b5, b6, b7, b8⟩ := this.m
  have h4 : -c ≤ 2 * z.re := by
    clear b1 b2 b5 b6 b7 b8 this
    omega
  clear b1 b2 b3 b4 b5 b6 b7 b8 this
  omega
theorem inH2 (z : G) (hz : pH x y a c z = true) : a - c ≤ 2 * z.re ∧ c ≤ 2 * z.im := by
  have := g.cor z
  have a0 := g.a0; have c0 := g.c0
  simp only [pH, decide_eq_true_eq] at hz
  obtain ⟨a1, a2, a3, a4, a5, a6, a7, a8⟩ := this.k
  obtain ⟨c1, c2, c3, c4, c5, c6, c7, c8⟩ := this.l
  have h2 : a - c ≤ 2 * z.re := by
    clear a1 a2 a3 a4 a5 a6 a7 a8 c1 c2 c5 c6 c7 c8 this
    omega
  have h3 : c ≤ 2 * z.im := by
    clear a1 a2 a5 a6 a7 a8 c1 c2 c3 c4 c5 c6 c7 c8 this
    omega
  exact ⟨h2, h3⟩
theorem inH : InB (a + c) (pH x y a c) := by
  intro z hz
  have := g.inH2 z hz
  have a0 := g.a0; have c0 := g.c0
  simp only [pH, decide_eq_true_eq] at hz
  omega
theorem inH' : InB (a + c) (pH' x y a c) := by
  intro z hz
  have := g.cor z
  have a0 := g.a0; have c0 := g.c0
  simp only [pH', decide_eq_true_eq] at hz
  obtain ⟨b1, b2, b3, b4, b5, b6, b7, b8⟩ := this.m
  obtain ⟨c1, c2, c3, c4, c5, c6, c7, c8⟩ := this.l
  have h2 : 2 * z.im ≤ a + c := by
    clear b1 b2 b3 b4 b5 b6 b7 b8 c1 c2 c3 c4 c7 c8 this
    omega
  have h3 : -c ≤ 2 * z.re := by
    clear c1 c2 c3 c4 c5 c6 c7 c8 b1 b2 b3 b4 b7 b8 this
    omega
  clear b1 b2 b3 b4 b5 b6 b7 b8 c1 c2 c3 c4 c5 c6 c7 c8 this
  omega
theorem inBg : InB (a + c) (pB a) := by
  intro z hz
  have a0 := g.a0; have c0 := g.c0
  simp only [pB, decide_eq_true_eq] at hz
  omega
theorem inS : InB (a + c) (pS a c) := by
  intro z hz
  have a0 := g.a0; have c0 := g.c0
  simp only [pS, decide_eq_true_eq] at hz
  omega
theorem diss (f : G → Int) : SB (a + c) (pK x y a c) f + SB (a + c) (pE x y a) f + SB (a + c) (pH x y a c) f =
    SB (a + c) (pB a) f + SB (a + c) (pS a c) f + SB (a + c) (pE' x y a) f + SB (a + c) (pH' x y a c) f := by
  unfold SB
  rw [← S_add, ← S_add, ← S_add, ← S_add, ← S_add]
  apply S_congr
  intro z _
  have e := ident g.a0 g.c0 g.a1 g.c1 g.D1 ⟨x, y, g.cor z⟩
  simp only [pK, pE, pH, pB, pS, pE', pH', decide_eq_true_eq]
  rw [ite_mul1 _ (f z), ite_mul1 _ (f z), ite_mul1 _ (f z), ite_mul1 _ (f z), ite_mul1 _ (f z), ite_mul1 _ (f z), ite_mul1 _ (f z)]
  rw [← Int.add_mul, ← Int.add_mul, ← Int.add_mul, ← Int.add_mul, ← Int.add_mul]
  exact congrArg (· * f z) e
theorem rotE (f : G → Int) : SB (a + c) (pE' x y a) f = SB (a + c) (pE x y a) (fun z => f (I * z)) := by
  apply SB_bij g.inE g.inE' (fun z => I * z) (fun w => -(I * w))
  · intro z hz
    refine ⟨?_, by have := I_mul_I; grind⟩
    simp only [pE, decide_eq_true_eq] at hz
    apply decide_eq_true
    simp only [mul_re, mul_im, I_re, I_im]
    have e : x * (0 * z.re - 1 * z.im) + y * (0 * z.im + 1 * z.re) = -(x * z.im - y * z.re) := by grind
    rw [e]; omega
  · intro w hw
    refine ⟨?_, by have := I_mul_I; grind⟩
    simp only [pE', decide_eq_true_eq] at hw
    apply decide_eq_true
    simp only [mul_re, mul_im, I_re, I_im, neg_re, neg_im]
    have e : x * -(0 * w.im + 1 * w.re) - y * -(0 * w.re - 1 * w.im) = -(x * w.re + y * w.im) := by grind
    rw [e]; omega
theorem rotH (f : G → Int) : SB (a + c) (pH' x y a c) f = SB (a + c) (pH x y a c) (fun z => f ⟨z.im - c, a - z.re⟩) := by
  apply SB_bij g.inH g.inH' (fun z => ⟨z.im - c, a - z.re⟩) (fun w => ⟨a - w.im, w.re + c⟩)
  · intro z hz
    refine ⟨?_, G.ext (by simp <;> omega) (by simp <;> omega)⟩
    simp only [pH, pH', decide_eq_true_eq] at hz ⊢
    have e : 2 * (x * (a - z.re) - y * (z.im - c)) = 2 * (x * a + y * c) - 2 * (x * z.re + y * z.im) := by grind
    rw [e]; omega
  · intro w hw
    refine ⟨?_, G.ext (by simp <;> omega) (by simp <;> omega)⟩
    simp only [pH, pH', decide_eq_true_eq] at hw ⊢
    have e : 2 * (x * (a - w.im) + y * (w.re + c)) = 2 * (x * a + y * c) - 2 * (x * w.im - y * w.re) := by grind
    rw [e]; omega
theorem diss_en : SB (a + c) (pK x y a c) (en0 n) % 4 = (SB (a + c) (pB a) (en0 n) + SB (a + c) (pS a c) (en0 n) +
    (SB (a + c) (pE x y a) (wt n) - SB (a + c) (pH x y a c) (wt n))) % 4 := by
  have h1 := g.diss (en0 n)
  rw [g.rotE, g.rotH] at h1
  have e1 : SB (a + c) (pE x y a) (fun z => en0 n (I * z)) % 4 = SB (a + c) (pE x y a) (fun z => en0 n z + wt n z) % 4 :=
    SB_mod (fun z _ => en0_I g.n0 g.n1 z)
  have e2 : SB (a + c) (pH x y a c) (fun z => en0 n ⟨z.im - c, a - z.re⟩) % 4 =
      SB (a + c) (pH x y a c) (fun z => en0 n z - wt n z) % 4 := by
    apply SB_mod
    intro z _
    have hc : Cong (n : G) (I * ⟨z.im - c, a - z.re⟩) z := by
      refine ⟨⟨-x, -y⟩, ?_⟩
      apply G.ext
      · simp; rw [g.ha]; grind
      · simp; rw [g.hc]; grind
    have h2 := en0_I g.n0 g.n1 ⟨z.im - c, a - z.re⟩
    have h3 : wt n ⟨z.im - c, a - z.re⟩ = wt n z := by rw [← wt_I]; exact wt_per hc
    rw [en0_per g.n0 g.n1 hc, h3] at h2
    omega
  rw [SB_add] at e1
  rw [SB_sub] at e2
  omega
end Geo

/-! sums over both squares -/
theorem S_two {F : Int → Int → Int} {n : Nat} (p1 : ∀ u v, F (u + n) v = F u v) (p2 : ∀ u v, F u (v + n) = F u v)
    (a b : Int) (r s k l : Nat) :
    S (rng a (r + n * k)) (fun u => S (rng b (s + n * l)) (F u)) =
      S (rng a r) (fun u => S (rng b s) (F u)) + l * S (rng a r) (fun u => S (rng 0 n) (F u)) +
      k * S (rng 0 n) (fun u => S (rng b s) (F u)) + k * l * S (rng 0 n) (fun u => S (rng 0 n) (F u)) := by
  have e1 : ∀ u, S (rng b (s + n * l)) (F u) = S (rng b s) (F u) + l * S (rng 0 n) (F u) := by
    intro u; rw [S_rng_append, S_rng_periods _ _ _ _ (p2 u)]
  rw [S_congr (fun u _ => e1 u), S_rng_append, S_add, S_mul, S_rng_periods]
  · rw [S_add, S_mul]; grind
  · intro u
    have e2 : F (u + n) = F u := by funext v; exact p1 u v
    rw [e2]
namespace Geo
variable {x y n a c : Int} {h k y2 : Nat} (g : Geo x y n a c h k y2)
include g
theorem perU (u v : Int) : en0 n ⟨u + ((2 * h + 1 : Nat) : Int), v⟩ = en0 n ⟨u, v⟩ := by
  apply en0_per g.n0 g.n1
  have := g.hn
  exact ⟨1, G.ext (by simp; omega) (by simp)⟩
theorem perV (u v : Int) : en0 n ⟨u, v + ((2 * h + 1 : Nat) : Int)⟩ = en0 n ⟨u, v⟩ := by
  apply en0_per g.n0 g.n1
  have := g.hn
  exact ⟨I, G.ext (by simp) (by simp; omega)⟩
theorem full : S (rng 0 (2 * h + 1)) (fun u => S (rng 0 (2 * h + 1)) (fun v => en0 n ⟨u, v⟩)) % 4 = 0 := by
  have hn := g.hn
  have e : (n.toNat) = 2 * h + 1 := by omega
  have h1 := all_sum (int_od g.n1) (int_crs g.n0 0 0) (en_eqv g.n0 g.n1)
  rw [S_grid, e] at h1
  obtain ⟨j, hj⟩ := int_q_even g.n1
  have : S (rng 0 (2 * h + 1)) (fun u => S (rng 0 (2 * h + 1)) (fun v => en0 n ⟨u, v⟩)) =
    S (rng 0 (2 * h + 1)) (fun u => S (rng 0 (2 * h + 1)) (fun v => if Dv (n : G) ⟨u, v⟩ then 0 else en n ⟨u, v⟩ % 4)) := by
    apply S_congr; intro u _; apply S_congr; intro v _
    have := en_range n ⟨u, v⟩
    unfold en0
    split <;> omega
  rw [this, h1, hj]; omega
theorem en0_self {u v : Int} (hu : -(h : Int) ≤ u ∧ u ≤ h) (hv : -(h : Int) ≤ v ∧ v ≤ h) :
    en0 n ⟨u, v⟩ = if u = 0 ∧ v = 0 then 0 else sec u v := by
  have hn := g.hn
  have e1 : cm n u = u := cm_self g.n0 g.n1 (by omega)
  have e2 : cm n v = v := cm_self g.n0 g.n1 (by omega)
  have : Dv (n : G) ⟨u, v⟩ ↔ u = 0 ∧ v = 0 := by
    rw [Dv_int, ← cm_zero g.n0 g.n1, ← cm_zero g.n0 g.n1]; simp only [e1, e2]
  unfold en0 en
  simp only [this, e1, e2]
theorem big : SB (a + c) (pB a) (en0 n) % 4 = (3 * (h * k : Int)) % 4 := by
  have hn := g.hn
  have ha := g.a_eq
  have hl := SB_list g.inBg (L := grid (rng 1 (h + (2 * h + 1) * k)) (rng 0 (h + 1 + (2 * h + 1) * k)))
    (nodup_grid (nodup_rng _ _) (nodup_rng _ _)) (fun z => by
      have e : (((2 * h + 1) * k : Nat) : Int) = n * k := by rw [hn]; push_cast; rfl
      rw [mem_grid, mem_rng, mem_rng]
      simp only [pB, decide_eq_true_eq]
      omega) (en0 n)
  rw [hl, S_grid, S_two (F := fun u v => en0 n ⟨u, v⟩) (n := 2 * h + 1) g.perU g.perV]
  have f := g.full
  have t1 : S (rng 1 h) (fun u => S (rng 0 (h + 1)) (fun v => en0 n ⟨u, v⟩)) = 0 := by
    apply S_eq_zero; intro u hu; apply S_eq_zero; intro v hv
    rw [mem_rng] at hu hv
    rw [g.en0_self (by omega) (by omega)]
    unfold sec; repeat' split
    all_goals omega
  have t2 : S (rng 1 h) (fun u => S (rng 0 (2 * h + 1)) (fun v => en0 n ⟨u, v⟩)) = h * (h * 3) := by
    have : ∀ u ∈ rng 1 h, S (rng 0 (2 * h + 1)) (fun v => en0 n ⟨u, v⟩) = h * 3 := by
      intro u hu
      rw [mem_rng] at hu
      rw [S_rng_period_any 0 (-(h : Int)) (2 * h + 1) _ (fun v => g.perV u v)]
      have : 2 * h + 1 = h + (h + 1) := by omega
      rw [this, S_rng_append]
      have e1 : S (rng (-(h : Int)) h) (fun v => en0 n ⟨u, v⟩) = S (rng (-(h : Int)) h) (fun _ => 3) := by
        apply S_congr; intro v hv; rw [mem_rng] at hv
        rw [g.en0_self (by omega) (by omega)]
        unfold sec; repeat' split
        all_goals omega
      have e2 : S (rng (-(h : Int) + h) (h + 1)) (fun v => en0 n ⟨u, v⟩) = 0 := by
        apply S_eq_zero; intro v hv; rw [mem_rng] at hv
        rw [g.en0_self (by omega) (by omega)]
        unfold sec; repeat' split
        all_goals omega
      rw [e1, e2, S_const, length_rng]; omega
    rw [S_congr this, S_const, length_rng]
  have t3 : S (rng 0 (2 * h + 1)) (fun u => S (rng 0 (h + 1)) (fun v => en0 n ⟨u, v⟩)) = 2 * h + h * (h + 1) := by
    rw [S_comm, S_rng_succ_left]
    have r1 : S (rng 0 (2 * h + 1)) (fun u => en0 n ⟨u, 0⟩) = 2 * h := by
      rw [S_rng_period_any 0 (-(h : Int)) (2 * h + 1) _ (fun u => g.perU u 0)]
      have : 2 * h + 1 = h + (h + 1) := by omega
      rw [this, S_rng_append]
      have e1 : S (rng (-(h : Int)) h) (fun u => en0 n ⟨u, 0⟩) = S (rng (-(h : Int)) h) (fun _ => 2) := by
        apply S_congr; intro v hv; rw [mem_rng] at hv
        rw [g.en0_self (by omega) (by omega)]
        unfold sec; repeat' split
        all_goals omega
      have e2 : S (rng (-(h : Int) + h) (h + 1)) (fun u => en0 n ⟨u, 0⟩) = 0 := by
        apply S_eq_zero; intro v hv; rw [mem_rng] at hv
        rw [g.en0_self (by omega) (by omega)]
        unfold sec; repeat' split
        all_goals omega
      rw [e1, e2, S_const, length_rng]; omega
    have r2 : ∀ v ∈ rng (0 + 1) h, S (rng 0 (2 * h + 1)) (fun u => en0 n ⟨u, v⟩) = h + 1 := by
      intro v hv
      rw [mem_rng] at hv
      rw [S_rng_period_any 0 (-(h : Int)) (2 * h + 1) _ (fun u => g.perU u v)]
      have : 2 * h + 1 = (h + 1) + h := by omega
      rw [this, S_rng_append]
      have e1 : S (rng (-(h : Int)) (h + 1)) (fun u => en0 n ⟨u, v⟩) = S (rng (-(h : Int)) (h + 1)) (fun _ => 1) := by
        apply S_congr; intro u hu; rw [mem_rng] at hu
        rw [g.en0_self (by omega) (by omega)]
        unfold sec; repeat' split
        all_goals omega
      have e2 : S (rng (-(h : Int) + (h + 1 : Nat)) h) (fun u => en0 n ⟨u, v⟩) = 0 := by
        apply S_eq_zero; intro u hu; rw [mem_rng] at hu
        rw [g.en0_self (by omega) (by omega)]
        unfold sec; repeat' split
        all_goals omega
      rw [e1, e2, S_const, length_rng]; omega
    rw [r1, S_congr r2, S_const, length_rng]
  rw [t1, t2, t3]
  generalize S (rng 0 (2 * h + 1)) (fun u => S (rng 0 (2 * h + 1)) (fun v => en0 n ⟨u, v⟩)) = f' at *
  obtain ⟨w, rfl⟩ : ∃ w, f' = 4 * w := ⟨f' / 4, by omega⟩
  have : (0 : Int) + k * (h * (h * 3)) + k * (2 * h + h * (h + 1)) + k * k * (4 * w) = 4 * (k * (h * h) + k * k * w) + 3 * (h * k) := by grind
  rw [this]; omega
theorem sml : SB (a + c) (pS a c) (en0 n) % 4 = 0 := by
  have hn := g.hn
  have a1 := g.a1
  have hc := g.c_eq
  have hl := SB_list g.inS (L := grid (rng ((a - c + 1) / 2) (0 + (2 * h + 1) * y2)) (rng ((a + 1) / 2) (0 + (2 * h + 1) * y2)))
    (nodup_grid (nodup_rng _ _) (nodup_rng _ _)) (fun z => by
      have e : (((2 * h + 1) * y2 : Nat) : Int) = n * y2 := by rw [hn]; push_cast; rfl
      rw [mem_grid, mem_rng, mem_rng]
      simp only [pS, decide_eq_true_eq]
      omega) (en0 n)
  rw [hl, S_grid, S_two (F := fun u v => en0 n ⟨u, v⟩) (n := 2 * h + 1) g.perU g.perV]
  have f := g.full
  generalize S (rng 0 (2 * h + 1)) (fun u => S (rng 0 (2 * h + 1)) (fun v => en0 n ⟨u, v⟩)) = f' at *
  obtain ⟨w, rfl⟩ : ∃ w, f' = 4 * w := ⟨f' / 4, by omega⟩
  have r0 : ∀ (a : Int) (F : Int → Int), S (rng a 0) F = 0 := fun a F => S_rng_zero a F
  simp only [r0, S_zero]
  have : (0 : Int) + y2 * 0 + y2 * 0 + y2 * y2 * (4 * w) = 4 * (y2 * y2 * w) := by grind
  rw [this]; omega
end Geo
end
end FS
namespace FS
open G Classical
noncomputable section

theorem SB_filter {B : Int} {p : G → Bool} {L : List G} {t : G → Bool} (h : InB B p) (hL : L.Nodup)
    (hm : ∀ z, p z = true ↔ z ∈ L ∧ t z = true) (g : G → Int) : SB B p g = S L (fun z => if t z = true then g z else 0) := by
  rw [← S_filter]
  exact SB_list h (hL.filter _) (fun z => by rw [List.mem_filter, hm]) g

/-- 1 where the rest of y j by x lies in the first half -/
def cc (x y j : Int) : Int := if 0 < y * j % x ∧ 2 * (y * j % x) < x then 1 else 0

theorem cc_inner {x Y l : Int} (hx : 0 < x) (hx1 : x % 2 = 1) :
    (if x * l < Y then 1 else 0) - (if x * (2 * l + 1) < 2 * Y then (1 : Int) else 0) =
      if l = Y / x then (if 0 < Y % x ∧ 2 * (Y % x) < x then 1 else 0) else 0 := by
  have e := Int.emod_add_mul_ediv Y x
  have r1 := Int.emod_nonneg Y (show x ≠ 0 by omega)
  have r2 := Int.emod_lt_of_pos Y hx
  generalize Y % x = ρ at *
  generalize hq : Y / x = m at *
  have e2 : x * (2 * l + 1) = 2 * (x * l) + x := by grind
  rw [e2]
  rcases Int.lt_trichotomy l m with hl | hl | hl
  · have : x * l ≤ x * (m - 1) := Int.mul_le_mul_of_nonneg_left (by omega) (by omega)
    have e3 : x * (m - 1) = x * m - x := by grind
    rw [if_pos (by omega), if_pos (by omega), if_neg (by omega)]; rfl
  · subst hl
    rw [if_pos rfl]
    repeat' split
    all_goals omega
  · have : x * (m + 1) ≤ x * l := Int.mul_le_mul_of_nonneg_left (by omega) (by omega)
    have e3 : x * (m + 1) = x * m + x := by grind
    rw [if_neg (by omega), if_neg (by omega), if_neg (by omega)]; rfl

namespace Geo
variable {x y n a c : Int} {h k y2 : Nat} (g : Geo x y n a c h k y2)
include g
theorem cE (m : Nat) (hm : a = 2 * m + 1) : SB (a + c) (pE x y a) (fun _ => 1) =
    S (rng 1 m) (fun u => S (rng 0 (a + c + 1).toNat) (fun v => if x * v < y * u then 1 else 0)) := by
  rw [SB_filter g.inE (L := grid (rng 1 m) (rng 0 (a + c + 1).toNat)) (t := fun z => decide (x * z.im < y * z.re))
    (nodup_grid (nodup_rng _ _) (nodup_rng _ _)), S_grid]
  · simp only [decide_eq_true_eq]
  · intro z
    have hb := g.inE z
    rw [mem_grid, mem_rng, mem_rng]
    have c0 := g.c0
    simp only [pE, decide_eq_true_eq] at hb ⊢
    constructor
    · intro hz; have := hb hz; omega
    · intro hz; omega
theorem cH (m : Nat) (hm : a = 2 * m + 1) : SB (a + c) (pH x y a c) (fun _ => 1) =
    S (rng 1 m) (fun u => S (rng 0 (a + c + 1).toNat) (fun v => if x * (2 * v + 1) < 2 * (y * u) then 1 else 0)) := by
  have c0 := g.c0
  have c1 := g.c1
  have hac := g.hac
  have key : ∀ j l : Int, x * a + y * c < 2 * (x * (m - l) + y * (c / 2 + j)) ↔ x * (2 * l + 1) < 2 * (y * j) := by
    intro j l
    obtain ⟨d, hd⟩ : ∃ d, c = 2 * d := ⟨c / 2, by omega⟩
    have e1 : c / 2 = d := by omega
    rw [e1, hm, hd]
    have e2 : 2 * (x * (m - l) + y * (d + j)) = 2 * (x * m) - 2 * (x * l) + 2 * (y * d) + 2 * (y * j) := by grind
    have e3 : x * (2 * m + 1) + y * (2 * d) = 2 * (x * m) + x + 2 * (y * d) := by grind
    have e4 : x * (2 * l + 1) = 2 * (x * l) + x := by grind
    rw [e2, e3, e4]; omega
  let t : G → Bool := fun z => decide (x * (2 * z.im + 1) < 2 * (y * z.re))
  have e1 : S (rng 1 m) (fun u => S (rng 0 (a + c + 1).toNat) (fun v => if x * (2 * v + 1) < 2 * (y * u) then 1 else 0)) =
      S ((grid (rng 1 m) (rng 0 (a + c + 1).toNat)).filter t) (fun _ => 1) := by
    rw [S_filter, S_grid]; simp only [t, decide_eq_true_eq]
  rw [e1]
  unfold SB
  rw [← S_filter]
  apply S_bij ((nodup_grid (nodup_rng _ _) (nodup_rng _ _)).filter _) ((box_nodup _).filter _)
    (fun z => ⟨m - z.im, c / 2 + z.re⟩) (g := fun _ => 1)
  · intro z hz
    rw [List.mem_filter, mem_grid, mem_rng, mem_rng] at hz
    rw [List.mem_filter, mem_box]
    simp only [t, decide_eq_true_eq] at hz
    have hp : pH x y a c ⟨m - z.im, c / 2 + z.re⟩ = true := by
      apply decide_eq_true
      refine ⟨(key z.re z.im).mpr hz.2, ?_, ?_⟩
      · simp only; omega
      · simp only; omega
    exact ⟨g.inH _ hp, hp⟩
  · intro z hz w hw e
    have := G.ext_iff.mp e
    simp only at this
    exact G.ext (by omega) (by omega)
  · intro w hw
    rw [List.mem_filter, mem_box] at hw
    refine ⟨⟨w.im - c / 2, m - w.re⟩, ?_, G.ext (by simp only; omega) (by simp only; omega)⟩
    have hb := hw.1
    have hp := hw.2
    have hb2 := g.inH2 w hp
    simp only [pH, decide_eq_true_eq] at hp
    have hk := (key (w.im - c / 2) (m - w.re)).mp (by
      have e1 : m - (m - w.re) = w.re := by omega
      have e2 : c / 2 + (w.im - c / 2) = w.im := by omega
      rw [e1, e2]; exact hp.1)
    rw [List.mem_filter, mem_grid, mem_rng, mem_rng]
    simp only [t, decide_eq_true_eq]
    -- the count is above 0
    have hpos : 0 < w.im - c / 2 := by
      apply Decidable.byContradiction
      intro hneg
      have a1 := Int.mul_nonneg (show 0 ≤ y by have := g.y0; omega) (show 0 ≤ -(w.im - c / 2) by omega)
      have a2 := Int.mul_nonneg (show 0 ≤ x by have := g.x0; omega) (show 0 ≤ 2 * (m - w.re) + 1 by omega)
      have a3 : y * -(w.im - c / 2) = - (y * (w.im - c / 2)) := by grind
      omega
    refine ⟨?_, hk⟩
    omega
theorem cDiff (m : Nat) (hm : a = 2 * m + 1) : SB (a + c) (pE x y a) (fun _ => 1) - SB (a + c) (pH x y a c) (fun _ => 1) =
    S (rng 1 m) (cc x y) := by
  rw [g.cE m hm, g.cH m hm, ← S_sub]
  apply S_congr
  intro j hj
  rw [mem_rng] at hj
  rw [← S_sub]
  have e : ∀ l ∈ rng 0 (a + c + 1).toNat, (if x * l < y * j then 1 else 0) - (if x * (2 * l + 1) < 2 * (y * j) then (1 : Int) else 0) =
      if l = y * j / x then cc x y j else 0 := fun l _ => cc_inner g.x0 g.x1
  rw [S_congr e]
  apply S_single (nodup_rng _ _)
  rw [mem_rng]
  have x0 := g.x0
  have y0 := g.y0
  have c0 := g.c0
  have a0 := g.a0
  have e1 := Int.emod_add_mul_ediv (y * j) x
  have r1 := Int.emod_nonneg (y * j) (show x ≠ 0 by omega)
  have p1 : 0 ≤ y * j := Int.mul_nonneg (by omega) (by omega)
  refine ⟨Int.ediv_nonneg p1 (by omega), ?_⟩
  have p2 : y * j ≤ y * a := Int.mul_le_mul_of_nonneg_left (by omega) (by omega)
  rw [← g.hac] at p2
  have p3 : x * (y * j / x) ≤ x * c := by omega
  have := Int.le_of_mul_le_mul_left p3 x0
  omega
theorem dvE : SB (a + c) (pE x y a) (fun z => if Dv (n : G) z then 1 else 0) = SB (x + y) (pE x y x) (fun _ => 1) := by
  have n0 := g.n0
  have e : SB (a + c) (pE x y a) (fun z => if Dv (n : G) z then 1 else 0) =
      SB (a + c) (fun z => pE x y a z && decide (Dv (n : G) z)) (fun _ => 1) := by
    unfold SB; apply S_congr; intro z _
    by_cases h1 : pE x y a z = true <;> by_cases h2 : Dv (n : G) z <;> simp [h1, h2]
  rw [e]
  apply SB_bij g.one.inE (fun z hz => g.inE z (by simp at hz; exact hz.1)) (fun z => (n : G) * z) (fun w => ⟨w.re / n, w.im / n⟩)
    (g := fun _ => 1)
  · intro z hz
    simp only [pE, decide_eq_true_eq] at hz
    have e1 : n * z.re / n = z.re := Int.mul_ediv_cancel_left _ (by omega)
    have e2 : n * z.im / n = z.im := Int.mul_ediv_cancel_left _ (by omega)
    refine ⟨?_, G.ext (by rw [int_mul_re]; exact e1) (by rw [int_mul_im]; exact e2)⟩
    rw [Bool.and_eq_true]
    refine ⟨decide_eq_true ?_, decide_eq_true ⟨z, rfl⟩⟩
    rw [int_mul_re, int_mul_im, g.ha]
    refine ⟨Int.mul_pos n0 hz.1, ?_, Int.mul_nonneg (by omega) hz.2.2.1, ?_⟩
    · have := Int.mul_lt_mul_of_pos_left hz.2.1 n0
      have e3 : n * (2 * z.re) = 2 * (n * z.re) := by grind
      omega
    · have := Int.mul_neg_of_pos_of_neg n0 hz.2.2.2
      have e3 : n * (x * z.im - y * z.re) = x * (n * z.im) - y * (n * z.re) := by grind
      omega
  · intro w hw
    rw [Bool.and_eq_true] at hw
    obtain ⟨t, rfl⟩ := of_decide_eq_true hw.2
    have hp := hw.1
    simp only [pE, decide_eq_true_eq] at hp
    rw [int_mul_re, int_mul_im] at *
    have e1 : n * t.re / n = t.re := Int.mul_ediv_cancel_left _ (by omega)
    have e2 : n * t.im / n = t.im := Int.mul_ediv_cancel_left _ (by omega)
    rw [e1, e2]
    refine ⟨decide_eq_true ?_, rfl⟩
    rw [g.ha] at hp
    refine ⟨Int.lt_of_mul_lt_mul_left (a := n) (by simp; omega) (by omega), ?_, ?_, ?_⟩
    · have e3 : n * (2 * t.re) = 2 * (n * t.re) := by grind
      exact Int.lt_of_mul_lt_mul_left (a := n) (by simp only; omega) (by omega)
    · exact Int.le_of_mul_le_mul_left (a := n) (by simp; omega) n0
    · have e3 : n * (x * t.im - y * t.re) = x * (n * t.im) - y * (n * t.re) := by grind
      exact Int.lt_of_mul_lt_mul_left (a := n) (by simp only; omega) (by omega)
theorem dvH : SB (a + c) (pH x y a c) (fun z => if Dv (n : G) z then 1 else 0) = SB (x + y) (pH x y x y) (fun _ => 1) := by
  have n0 := g.n0
  have e : SB (a + c) (pH x y a c) (fun z => if Dv (n : G) z then 1 else 0) =
      SB (a + c) (fun z => pH x y a c z && decide (Dv (n : G) z)) (fun _ => 1) := by
    unfold SB; apply S_congr; intro z _
    by_cases h1 : pH x y a c z = true <;> by_cases h2 : Dv (n : G) z <;> simp [h1, h2]
  rw [e]
  have e3 : ∀ t : G, n * (2 * (x * t.re + y * t.im)) = 2 * (x * (n * t.re) + y * (n * t.im)) := fun t => by grind
  have e4 : n * (x * x + y * y) = x * (n * x) + y * (n * y) := by grind
  have e5 : n * (x + y) = n * x + n * y := by grind
  have e6 : ∀ s : Int, n * (2 * s) = 2 * (n * s) := fun s => by grind
  apply SB_bij g.one.inH (fun z hz => g.inH z (by simp at hz; exact hz.1)) (fun z => (n : G) * z) (fun w => ⟨w.re / n, w.im / n⟩)
    (g := fun _ => 1)
  · intro z hz
    simp only [pH, decide_eq_true_eq] at hz
    have e1 : n * z.re / n = z.re := Int.mul_ediv_cancel_left _ (by omega)
    have e2 : n * z.im / n = z.im := Int.mul_ediv_cancel_left _ (by omega)
    refine ⟨?_, G.ext (by rw [int_mul_re]; exact e1) (by rw [int_mul_im]; exact e2)⟩
    rw [Bool.and_eq_true]
    refine ⟨decide_eq_true ?_, decide_eq_true ⟨z, rfl⟩⟩
    rw [int_mul_re, int_mul_im, g.ha, g.hc]
    have a1 := Int.mul_lt_mul_of_pos_left hz.1 n0
    have a2 := Int.mul_lt_mul_of_pos_left hz.2.1 n0
    have a3 := Int.mul_lt_mul_of_pos_left hz.2.2 n0
    rw [e3, e4] at a1
    rw [e6] at a2 a3
    rw [e5] at a3
    exact ⟨a1, a2, a3⟩
  · intro w hw
    rw [Bool.and_eq_true] at hw
    obtain ⟨t, rfl⟩ := of_decide_eq_true hw.2
    have hp := hw.1
    simp only [pH, decide_eq_true_eq] at hp
    rw [int_mul_re, int_mul_im] at *
    have e1 : n * t.re / n = t.re := Int.mul_ediv_cancel_left _ (by omega)
    have e2 : n * t.im / n = t.im := Int.mul_ediv_cancel_left _ (by omega)
    rw [e1, e2]
    refine ⟨decide_eq_true ?_, rfl⟩
    rw [g.ha, g.hc] at hp
    refine ⟨?_, ?_, ?_⟩
    · apply Int.lt_of_mul_lt_mul_left (a := n) _ (by omega)
      simp only
      rw [e3, e4]; exact hp.1
    · apply Int.lt_of_mul_lt_mul_left (a := n) _ (by omega)
      simp only
      rw [e6]; exact hp.2.1
    · apply Int.lt_of_mul_lt_mul_left (a := n) _ (by omega)
      simp only
      rw [e6, e5]; exact hp.2.2
theorem cnt (hcop : ∃ s t : Int, x * s + y * t = 1) :
    SB (a + c) (pE x y a) (wt n) - SB (a + c) (pH x y a c) (wt n) = h * k := by
  have w1 : ∀ p, SB (a + c) p (wt n) = SB (a + c) p (fun _ => 1) - SB (a + c) p (fun z => if Dv (n : G) z then 1 else 0) := by
    intro p; rw [← SB_sub]; apply SB_congr; intro z _; unfold wt; split <;> rfl
  rw [w1, w1, g.dvE, g.dvH]
  have d1 := g.cDiff (k + (2 * k + 1) * h) (by rw [g.a_eq', g.hx]; push_cast; rfl)
  have d2 := g.one.cDiff k g.hx
  rw [S_rng_append] at d1
  have x0 := g.x0
  have hx := g.hx
  have per : ∀ j, cc x y (j + ((2 * k + 1 : Nat) : Int)) = cc x y j := by
    intro j
    have e : ((2 * k + 1 : Nat) : Int) = x := by omega
    unfold cc
    rw [e]
    have : y * (j + x) = y * j + x * y := by grind
    rw [this, Int.add_mul_emod_self_left]
  rw [S_rng_periods _ _ _ _ per] at d1
  -- one period
  have one : S (rng 0 (2 * k + 1)) (cc x y) = k := by
    obtain ⟨s, t, hst⟩ := hcop
    have e := S_bij (L1 := rng 0 (2 * k + 1)) (L2 := rng 0 (2 * k + 1)) (nodup_rng _ _) (nodup_rng _ _) (fun j => y * j % x)
      (fun j _ => by
        rw [mem_rng]
        have := Int.emod_nonneg (y * j) (show x ≠ 0 by omega)
        have := Int.emod_lt_of_pos (y * j) x0
        omega)
      (fun i hi j hj e => by
        rw [mem_rng] at hi hj
        have hd : x ∣ y * (i - j) := by
          have := Int.emod_emod_of_dvd
          have h1 : (y * i - y * j) % x = 0 := by rw [Int.sub_emod, e]; simp
          have e1 : y * (i - j) = y * i - y * j := by grind
          rw [e1]; exact Int.dvd_of_emod_eq_zero h1
        obtain ⟨w, hw⟩ := hd
        have h2 : i - j = x * (s * (i - j) + t * w) := by
          have : (i - j) = (x * s + y * t) * (i - j) := by rw [hst]; omega
          grind
        have := small_mul x0 h2 (by omega) (by omega)
        omega)
      (fun r hr => by
        rw [mem_rng] at hr
        refine ⟨(t * r) % x, ?_, ?_⟩
        · rw [mem_rng]
          have := Int.emod_nonneg (t * r) (show x ≠ 0 by omega)
          have := Int.emod_lt_of_pos (t * r) x0
          omega
        · have h1 : y * (t * r % x) % x = (y * t * r) % x := by
            have := Int.emod_add_mul_ediv (t * r) x
            have e1 : y * (t * r % x) = y * t * r + x * (-(y * (t * r / x))) := by grind
            rw [e1, Int.add_mul_emod_self_left]
          rw [h1]
          have e2 : y * t * r = r + x * (-(s * r)) := by
            have : y * t = 1 - x * s := by omega
            rw [this]; grind
          rw [e2, Int.add_mul_emod_self_left]
          exact Int.emod_eq_of_lt (by omega) (by omega))
      (fun r => if 0 < r ∧ 2 * r < x then 1 else 0)
    have e2 : S (rng 0 (2 * k + 1)) (cc x y) = S (rng 0 (2 * k + 1)) (fun r => if 0 < r ∧ 2 * r < x then 1 else 0) := by
      rw [e]; rfl
    rw [e2]
    have : 2 * k + 1 = 1 + (k + k) := by omega
    rw [this, S_rng_append, S_rng_append]
    have z1 : S (rng 0 1) (fun r => if 0 < r ∧ 2 * r < x then (1 : Int) else 0) = 0 := by
      apply S_eq_zero; intro r hr; rw [mem_rng] at hr; rw [if_neg]; omega
    have z2 : S (rng (0 + (1 : Nat)) k) (fun r => if 0 < r ∧ 2 * r < x then (1 : Int) else 0) = S (rng (0 + (1 : Nat)) k) (fun _ => 1) := by
      apply S_congr; intro r hr; rw [mem_rng] at hr; rw [if_pos]; omega
    have z3 : S (rng (0 + (1 : Nat) + k) k) (fun r => if 0 < r ∧ 2 * r < x then (1 : Int) else 0) = 0 := by
      apply S_eq_zero; intro r hr; rw [mem_rng] at hr; rw [if_neg]; omega
    rw [z1, z2, z3, S_const, length_rng]; omega
  rw [one] at d1
  have : SB (x + y) (pE x y x) (fun _ => 1) - SB (x + y) (pH x y x y) (fun _ => 1) = S (rng 1 k) (cc x y) := d2
  omega
/-- the sum over the turned square -/
theorem sumK (hcop : ∃ s t : Int, x * s + y * t = 1) : SB (a + c) (pK x y a c) (en0 n) % 4 = 0 := by
  rw [g.diss_en, g.cnt hcop]
  have h1 := g.big
  have h2 := g.sml
  omega
end Geo
end
end FS
namespace FS
open G Classical
noncomputable section

theorem P_int_mul (n : Int) (b z : G) : P ((n : G) * b) z = n * P b z := by simp [P]; grind
theorem Q_int_mul (n : Int) (b z : G) : Q ((n : G) * b) z = n * Q b z := by simp [Q]; grind
theorem norm_int_mul (n : Int) (b : G) : norm ((n : G) * b) = n * (n * norm b) := by rw [norm_mul, norm_int]; grind

namespace Geo
variable {x y n a c : Int} {h k y2 : Nat} (g : Geo x y n a c h k y2)
include g
theorem bOd : Od ⟨x, y⟩ := by
  unfold Od norm
  simp only
  rw [g.hx, g.hy]
  have : (2 * (k : Int) + 1) * (2 * k + 1) + 2 * y2 * (2 * y2) = 2 * (2 * (k * k) + 2 * k + 2 * (y2 * y2)) + 1 := by grind
  omega
/-- (1) -/
theorem od1 (hcop : ∃ s t : Int, x * s + y * t = 1) :
    od ((n : G) * ⟨x, y⟩) (comb (n : G) (en n) (fc ⟨x, y⟩)) (fc ((n : G) * ⟨x, y⟩)) = 0 := by
  have hb := g.bOd
  have hn := int_od g.n1
  have hO := hn.mul hb
  have n0 := g.n0
  have hN := hb.pos
  have key : S (C ((n : G) * ⟨x, y⟩)) (sel ((n : G) * ⟨x, y⟩) (fc ((n : G) * ⟨x, y⟩)) (fun z => comb (n : G) (en n) (fc ⟨x, y⟩) z % 4))
      = SB (a + c) (pK x y a c) (en0 n) := by
    have hD : x * a + y * c = n * norm ⟨x, y⟩ := by rw [g.D_eq]; rfl
    have hlist : ∀ z, z ∈ (C ((n : G) * ⟨x, y⟩)).filter (pK x y a c) ↔ pK x y a c z = true := by
      intro z
      rw [List.mem_filter]
      refine ⟨fun h => h.2, fun h => ⟨?_, h⟩⟩
      rw [mem_C hO.ne_zero, P_int_mul, Q_int_mul, norm_int_mul]
      simp only [pK, decide_eq_true_eq] at h
      rw [hD] at h
      have e1 : P ⟨x, y⟩ z = x * z.re + y * z.im := by simp [P]; grind
      have e2 : Q ⟨x, y⟩ z = x * z.im - y * z.re := by simp [Q]; grind
      rw [← e1, ← e2] at h
      generalize P ⟨x, y⟩ z = p at *
      generalize Q ⟨x, y⟩ z = r at *
      have a1 := Int.mul_lt_mul_of_pos_left h.2.1 n0
      have a2 := Int.mul_lt_mul_of_pos_left h.2.2.2 n0
      have a3 := Int.mul_pos n0 h.1
      have a4 := Int.mul_nonneg (show 0 ≤ n by omega) h.2.2.1
      have a5 := Int.mul_pos n0 (Int.mul_pos n0 hN)
      have e3 : n * (2 * p) = 2 * (n * p) := by grind
      have e4 : n * (2 * r) = 2 * (n * r) := by grind
      omega
    rw [SB_list g.inK ((C_crs hO).nodup.filter _) hlist, S_filter]
    apply S_congr
    intro z hz
    rw [mem_C hO.ne_zero] at hz
    have ho : norm ((n : G) * ⟨x, y⟩) % 2 = 1 := hO
    have hp := hO.pos
    have c1 : cm (norm ((n : G) * ⟨x, y⟩)) (P ((n : G) * ⟨x, y⟩) z) = n * P ⟨x, y⟩ z := by
      rw [cm_self hp ho (by omega), P_int_mul]
    have c2 : cm (norm ((n : G) * ⟨x, y⟩)) (Q ((n : G) * ⟨x, y⟩) z) = n * Q ⟨x, y⟩ z := by
      rw [cm_self hp ho (by omega), Q_int_mul]
    rw [P_int_mul, Q_int_mul, norm_int_mul] at hz
    have e1 : P ⟨x, y⟩ z = x * z.re + y * z.im := by simp [P]; grind
    have e2 : Q ⟨x, y⟩ z = x * z.im - y * z.re := by simp [Q]; grind
    have hfc : fc ((n : G) * ⟨x, y⟩) z = sec (n * P ⟨x, y⟩ z) (n * Q ⟨x, y⟩ z) := by unfold fc; rw [c1, c2]
    have b1 : 2 * P ⟨x, y⟩ z < n * norm ⟨x, y⟩ := by
      have : n * (2 * P ⟨x, y⟩ z) < n * (n * norm ⟨x, y⟩) := by
        have e3 : n * (2 * P ⟨x, y⟩ z) = 2 * (n * P ⟨x, y⟩ z) := by grind
        omega
      exact Int.lt_of_mul_lt_mul_left this (by omega)
    have b2 : 2 * Q ⟨x, y⟩ z < n * norm ⟨x, y⟩ := by
      have : n * (2 * Q ⟨x, y⟩ z) < n * (n * norm ⟨x, y⟩) := by
        have e3 : n * (2 * Q ⟨x, y⟩ z) = 2 * (n * Q ⟨x, y⟩ z) := by grind
        omega
      exact Int.lt_of_mul_lt_mul_left this (by omega)
    have s1 : 0 < n * P ⟨x, y⟩ z ↔ 0 < P ⟨x, y⟩ z :=
      ⟨fun h => Int.lt_of_mul_lt_mul_left (a := n) (by simpa using h) (by omega), fun h => Int.mul_pos n0 h⟩
    have s2 : 0 ≤ n * Q ⟨x, y⟩ z ↔ 0 ≤ Q ⟨x, y⟩ z :=
      ⟨fun h => Int.le_of_mul_le_mul_left (a := n) (by simpa using h) n0, fun h => Int.mul_nonneg (by omega) h⟩
    have hpk : pK x y a c z = true ↔ (0 < P ⟨x, y⟩ z ∧ 0 ≤ Q ⟨x, y⟩ z) := by
      simp only [pK, decide_eq_true_eq]
      rw [hD, ← e1, ← e2]; omega
    unfold sel
    by_cases hd : Dv ((n : G) * ⟨x, y⟩) z
    · rw [if_pos hd]
      have := (dv_iff_PQ hO.ne_zero).mp hd
      have d1 := (cm_zero hp ho).mpr this.1
      rw [c1] at d1
      rw [if_neg]
      rw [hpk]
      intro h; have := s1.mpr h.1; omega
    · rw [if_neg hd]
      have hne : ¬ (n * P ⟨x, y⟩ z = 0 ∧ n * Q ⟨x, y⟩ z = 0) := by
        rintro ⟨h1, h2⟩
        apply hd
        rw [dv_iff_PQ hO.ne_zero]
        exact ⟨(cm_zero hp ho).mp (by rw [c1, h1]), (cm_zero hp ho).mp (by rw [c2, h2])⟩
      rw [hfc]
      by_cases hk : pK x y a c z = true
      · have hk' := hpk.mp hk
        rw [if_pos ((sec_zero hne).mpr ⟨s1.mpr hk'.1, s2.mpr hk'.2⟩), if_pos hk]
        unfold en0
        by_cases hdn : Dv (n : G) z
        · rw [if_pos hdn]
          obtain ⟨t, rfl⟩ := hdn
          dsimp only
          rw [comb_mul hn.ne_zero]
          have ep : P ⟨x, y⟩ ((n : G) * t) = n * P ⟨x, y⟩ t := by simp [P]; grind
          have eq' : Q ⟨x, y⟩ ((n : G) * t) = n * Q ⟨x, y⟩ t := by simp [Q]; grind
          rw [ep] at hk' b1
          rw [eq'] at hk' b2
          have f1 : 0 < P ⟨x, y⟩ t := Int.lt_of_mul_lt_mul_left (a := n) (by simpa using hk'.1) (by omega)
          have f2 : 0 ≤ Q ⟨x, y⟩ t := Int.le_of_mul_le_mul_left (a := n) (by simpa using hk'.2) n0
          have f3 : 2 * P ⟨x, y⟩ t < norm ⟨x, y⟩ := Int.lt_of_mul_lt_mul_left (a := n) (by
            have e3 : n * (2 * P ⟨x, y⟩ t) = 2 * (n * P ⟨x, y⟩ t) := by grind
            omega) (by omega)
          have f4 : 2 * Q ⟨x, y⟩ t < norm ⟨x, y⟩ := Int.lt_of_mul_lt_mul_left (a := n) (by
            have e3 : n * (2 * Q ⟨x, y⟩ t) = 2 * (n * Q ⟨x, y⟩ t) := by grind
            omega) (by omega)
          have hob : norm (⟨x, y⟩ : G) % 2 = 1 := hb
          unfold fc
          rw [cm_self hN hob (by omega), cm_self hN hob (by omega)]
          unfold sec; rw [if_pos ⟨f1, f2⟩]; rfl
        · rw [if_neg hdn]; dsimp only; rw [comb_not hdn]
          have := en_range n z; omega
      · rw [if_neg hk, if_neg]
        intro hh
        exact hk (hpk.mpr ⟨s1.mp ((sec_zero hne).mp hh).1, s2.mp ((sec_zero hne).mp hh).2⟩)
  unfold od
  rw [key]; exact g.sumK hcop

/-- (3) -/
theorem od3 (hc : Cop ⟨x, y⟩ (n : G)) :
    od ((n : G) * ⟨x, y⟩) (comb (n : G) (en n) (fc ⟨x, y⟩)) (comb ⟨x, y⟩ (fc ⟨x, y⟩) (en n)) =
      (J ⟨x, y⟩ (n : G) - J (n : G) ⟨x, y⟩) % 4 := by
  have hb := g.bOd
  have hn := int_od g.n1
  have n0 := g.n0
  generalize hbb : (⟨x, y⟩ : G) = b at *
  have hO := hb.mul hn
  have he : (n : G) * b = b * (n : G) := by grind
  have hf := en_eqv g.n0 g.n1
  have hfb := fc_eqv hb
  have e1 := comb_eqv hn.ne_zero hf hfb
  have e2 := comb_eqv hb.ne_zero hfb hf
  rw [he] at e1 ⊢
  have hL := C_crs hb
  have hM := int_crs n0 0 0
  generalize (grid (rng 0 n.toNat) (rng 0 n.toNat)) = M at hM
  have hP := CRS.prod hb.ne_zero hL hM
  have e3 : od (b * (n : G)) (comb (n : G) (en n) (fc b)) (comb b (fc b) (en n)) =
      S (pairs (C b) M (fun t s => t + b * s)) (sel (b * (n : G)) (comb b (fc b) (en n)) (fun z => comb (n : G) (en n) (fc b) z % 4)) % 4 := by
    unfold od
    rw [(C_crs hO).sum_eq hP (sel_per e2 (fun z w e => e1.per z w e))]
  rw [e3, comb_sum hb hL hM hfb hf (fun z w e => e1.per z w e)]
  obtain ⟨v, hv, hcv⟩ := hc.symm.inv
  -- the inner sums
  have inner : ∀ t, S M (fun s => comb (n : G) (en n) (fc b) (t + b * s) % 4) = 6 * q (n : G) + fc b (v * t) := by
    intro t
    have hM' : CRS (n : G) (M.map (fun s => t + b * s)) := hM.map
      (fun z w ⟨u, hu⟩ => hc.cong_of_cong_mul ⟨u, by grind⟩)
      (fun w => by
        obtain ⟨b', _, hb'⟩ := hc.inv
        refine ⟨b' * (w - t), ?_⟩
        obtain ⟨u, hu⟩ := hb'
        refine ⟨-(u * (w - t)), ?_⟩
        have : b * (b' * (w - t)) = (b * b') * (w - t) := by grind
        rw [this]
        have : b * b' = 1 + (n : G) * u := by grind
        rw [this]; grind)
      (fun z w ⟨u, hu⟩ => ⟨b * u, by grind⟩)
    rw [← S_map M (fun s => t + b * s) (fun z => comb (n : G) (en n) (fc b) z % 4), ← all_sum hn hM' hf,
      ← dv_count hM' (fc b (v * t)), ← S_add]
    apply S_congr
    intro z hz
    obtain ⟨s, _, rfl⟩ := List.mem_map.mp hz
    by_cases hd : Dv (n : G) (t + b * s)
    · rw [if_pos hd, if_pos hd]
      obtain ⟨w, hw⟩ := hd
      rw [hw, comb_mul hn.ne_zero, fc_mod, Int.zero_add]
      apply fc_per hb
      -- w = v t
      obtain ⟨u, hu⟩ := hcv
      refine ⟨v * s - u * w, ?_⟩
      have : t = (n : G) * w - b * s := by grind
      rw [this]
      have e5 : v * ((n : G) * w - b * s) = ((n : G) * v) * w - b * (v * s) := by grind
      rw [e5]
      have : (n : G) * v = 1 + b * u := by grind
      rw [this]; grind
    · rw [if_neg hd, if_neg hd, comb_not hd]; omega
  have s1 : S (C b) (sel b (fc b) (fun t => S M (fun s => comb (n : G) (en n) (fc b) (t + b * s) % 4))) =
      q b * (6 * q (n : G)) + S (C b) (sel b (fc b) (fun t => fc b (v * t))) := by
    rw [← sel_count hb hL hfb, ← S_add]
    apply S_congr
    intro t _
    unfold sel
    simp only [inner]
    repeat' split
    all_goals omega
  have s2 : S M (sel (n : G) (en n) (fun s => comb (n : G) (en n) (fc b) (b * s) % 4)) = S M (sel (n : G) (en n) (fun s => en n (b * s))) := by
    apply S_congr
    intro s _
    unfold sel
    by_cases hd : Dv (n : G) s
    · rw [if_pos hd, if_pos hd]
    · rw [if_neg hd, if_neg hd]
      have : ¬ Dv (n : G) (b * s) := fun h => hd (hc.dv_of_dv_mul h)
      simp only [comb_not this]
      have := en_range n (b * s)
      split <;> omega
  rw [s1, s2]
  have j1 := J_sum hb hv hfb hL
  have j2 := J_sum hn hc hf hM
  have j3 := J_mul hb hc.symm hv
  rw [J_cong hb hcv, J_one hb] at j3
  obtain ⟨w, hw⟩ := int_q_even g.n1
  have : q b * (6 * q (n : G)) = 4 * (3 * (q b * w)) := by rw [hw]; grind
  rw [this]
  omega
/-- (2) -/
theorem od2 (hcop : ∃ s t : Int, x * s + y * t = 1) :
    od ((n : G) * ⟨x, y⟩) (fc ((n : G) * ⟨x, y⟩)) (comb ⟨x, y⟩ (fc ⟨x, y⟩) (en n)) = (2 * (h * q ⟨x, y⟩)) % 4 := by
  have hb := g.bOd
  have hn := int_od g.n1
  have n0 := g.n0
  have hnh := g.hn
  -- no number of the square but 0 lies on its middle lines
  have hmid : ∀ t, norm ⟨x, y⟩ ∣ Q ⟨x, y⟩ t → Q ⟨x, y⟩ t = 0 → ¬ Dv ⟨x, y⟩ t → -norm ⟨x, y⟩ < 2 * P ⟨x, y⟩ t → 2 * P ⟨x, y⟩ t < norm ⟨x, y⟩ → False := by
    intro t _ hq hd l1 l2
    obtain ⟨s, u, hsu⟩ := hcop
    -- x t.im = y t.re
    have e1 : x * t.im = y * t.re := by simp [Q] at hq; grind
    have e2 : t.re = x * (s * t.re + u * t.im) := by
      have : t.re = (x * s + y * u) * t.re := by rw [hsu]; omega
      grind
    have e3 : t.im = y * (s * t.re + u * t.im) := by
      have : t.im = (x * s + y * u) * t.im := by rw [hsu]; omega
      grind
    apply hd
    exact ⟨((s * t.re + u * t.im : Int) : G), G.ext (by simp; omega) (by simp; omega)⟩
  generalize hbb : (⟨x, y⟩ : G) = b at *
  have hO := hb.mul hn
  have hN := hb.pos
  have hob : norm b % 2 = 1 := hb
  have he : (n : G) * b = b * (n : G) := by grind
  have hf := en_eqv g.n0 g.n1
  have hfb := fc_eqv hb
  have e1 := fc_eqv (hn.mul hb)
  have e2 := comb_eqv hb.ne_zero hfb hf
  have hL := C_crs hb
  have hM := int_crs n0 (-(h : Int)) (-(h : Int))
  have hP := CRS.prod hb.ne_zero hL hM
  have per : ∀ z w, Cong (b * (n : G)) z w → fc ((n : G) * b) z % 4 = fc ((n : G) * b) w % 4 := by
    rw [← he]; exact e1.per
  have e3 : od ((n : G) * b) (fc ((n : G) * b)) (comb b (fc b) (en n)) =
      S (pairs (C b) (grid (rng (-(h : Int)) n.toNat) (rng (-(h : Int)) n.toNat)) (fun t s => t + b * s))
        (sel (b * (n : G)) (comb b (fc b) (en n)) (fun z => fc ((n : G) * b) z % 4)) % 4 := by
    unfold od
    rw [he] at *
    rw [(C_crs hO).sum_eq hP (sel_per e2 (fun z w e => per z w e))]
  rw [e3, comb_sum hb hL hM hfb hf per]
  have hnN : norm ((n : G) * b) = n * (n * norm b) := norm_int_mul n b
  have hodd : norm ((n : G) * b) % 2 = 1 := hn.mul hb
  have hpos : 0 < norm ((n : G) * b) := (hn.mul hb).pos
  have small : ∀ v : Int, -(n * norm b) < 2 * v → 2 * v < n * norm b → cm (norm ((n : G) * b)) (n * v) = n * v := by
    intro v l1 l2
    apply cm_self hpos hodd
    rw [hnN] at hodd ⊢
    have a1 := Int.mul_lt_mul_of_pos_left l2 n0
    have a2 := Int.mul_lt_mul_of_pos_left l1 n0
    have a3 : n * (2 * v) = 2 * (n * v) := by grind
    have a4 : n * -(n * norm b) = -(n * (n * norm b)) := by grind
    omega
  have fcv : ∀ z, -(n * norm b) < 2 * P b z → 2 * P b z < n * norm b → -(n * norm b) < 2 * Q b z → 2 * Q b z < n * norm b →
      fc ((n : G) * b) z = sec (n * P b z) (n * Q b z) := by
    intro z l1 l2 l3 l4
    unfold fc
    rw [P_int_mul, Q_int_mul, small _ l1 l2, small _ l3 l4]
  -- bounds of sums
  have bnd : ∀ p s : Int, -norm b < 2 * p → 2 * p < norm b → -(h : Int) ≤ s → s ≤ h →
      -(n * norm b) < 2 * (p + norm b * s) ∧ 2 * (p + norm b * s) < n * norm b := by
    intro p s l1 l2 l3 l4
    have a1 := Int.mul_le_mul_of_nonneg_left l4 (show 0 ≤ norm b by omega)
    have a2 := Int.mul_le_mul_of_nonneg_left l3 (show 0 ≤ norm b by omega)
    have a3 : n * norm b = 2 * (norm b * h) + norm b := by rw [hnh]; grind
    have a4 : norm b * -(h : Int) = -(norm b * h) := by grind
    omega
  have sgn : ∀ p s : Int, 0 < p → 2 * p < norm b → (0 < p + norm b * s ↔ 0 ≤ s) ∧ p + norm b * s ≠ 0 := by
    intro p s l1 l2
    by_cases hs : 0 ≤ s
    · have := Int.mul_nonneg (show 0 ≤ norm b by omega) hs
      omega
    · have := Int.mul_le_mul_of_nonneg_left (show s ≤ -1 by omega) (show 0 ≤ norm b by omega)
      omega
  have nsgn : ∀ v : Int, (n * v < 0 ↔ v < 0) ∧ (n * v = 0 ↔ v = 0) := by
    intro v
    constructor
    · constructor
      · intro hh; exact Int.lt_of_mul_lt_mul_left (a := n) (by simpa using hh) (by omega)
      · intro hh; exact Int.mul_neg_of_pos_of_neg n0 hh
    · constructor
      · intro hh; rcases Int.mul_eq_zero.mp hh with h1 | h1
        · omega
        · exact h1
      · rintro rfl; simp
  have hnt : n.toNat = h + (h + 1) := by omega
  have s1 : S (C b) (sel b (fc b) (fun t => S (grid (rng (-(h : Int)) n.toNat) (rng (-(h : Int)) n.toNat)) (fun s => fc ((n : G) * b) (t + b * s) % 4))) =
      q b * (4 * (h * n) - 2 * (h * h)) := by
    rw [← sel_count hb hL hfb]
    apply S_congr
    intro t ht
    rw [mem_C hb.ne_zero] at ht
    unfold sel
    by_cases hd : Dv b t
    · rw [if_pos hd, if_pos hd]
    · rw [if_neg hd, if_neg hd]
      by_cases h0 : fc b t % 4 = 0
      · rw [if_pos h0, if_pos h0]
        have hpq : 0 < P b t ∧ 0 < Q b t := by
          have hne : ¬ (P b t = 0 ∧ Q b t = 0) := by
            rintro ⟨h1, h2⟩; apply hd; rw [dv_iff_PQ hb.ne_zero, h1, h2]; exact ⟨Int.dvd_zero _, Int.dvd_zero _⟩
          have e5 : fc b t = sec (P b t) (Q b t) := by
            unfold fc; rw [cm_self hN hob (by omega), cm_self hN hob (by omega)]
          rw [e5] at h0
          have := (sec_zero hne).mp h0
          refine ⟨this.1, ?_⟩
          rcases Int.lt_or_eq_of_le this.2 with h3 | h3
          · exact h3
          · exact (hmid t (by rw [← h3]; exact Int.dvd_zero _) h3.symm hd ht.1 ht.2.1).elim
        dsimp only
        rw [S_grid]
        have e6 : ∀ u ∈ rng (-(h : Int)) n.toNat, S (rng (-(h : Int)) n.toNat) (fun v => fc ((n : G) * b) (t + b * ⟨u, v⟩) % 4) =
            (n * (if u < 0 then 1 else 0) + h * 3 - 2 * ((if u < 0 then 1 else 0) * h)) := by
          intro u hu
          rw [mem_rng] at hu
          have e7 : ∀ v ∈ rng (-(h : Int)) n.toNat, fc ((n : G) * b) (t + b * ⟨u, v⟩) % 4 =
              (if u < 0 then 1 else 0) + (if v < 0 then 1 else 0) * 3 - 2 * ((if u < 0 then 1 else 0) * (if v < 0 then 1 else 0)) := by
            intro v hv
            rw [mem_rng] at hv
            have b1 := bnd (P b t) u ht.1 ht.2.1 (by omega) (by omega)
            have b2 := bnd (Q b t) v ht.2.2.1 ht.2.2.2 (by omega) (by omega)
            have p1 : P b (t + b * ⟨u, v⟩) = P b t + norm b * u := by rw [P_add, P_mul]
            have p2 : Q b (t + b * ⟨u, v⟩) = Q b t + norm b * v := by rw [Q_add, Q_mul]
            rw [fc_mod, fcv _ (by rw [p1]; exact b1.1) (by rw [p1]; exact b1.2) (by rw [p2]; exact b2.1) (by rw [p2]; exact b2.2), p1, p2]
            have g1 := sgn (P b t) u hpq.1 ht.2.1
            have g2 := sgn (Q b t) v hpq.2 ht.2.2.2
            have m1 := nsgn (P b t + norm b * u)
            have m2 := nsgn (Q b t + norm b * v)
            rw [sec_bits (fun hh => g1.2 (m1.2.mp hh)) (fun hh => g2.2 (m2.2.mp hh))]
            have t1 : n * (P b t + norm b * u) < 0 ↔ u < 0 := by rw [m1.1]; omega
            have t2 : n * (Q b t + norm b * v) < 0 ↔ v < 0 := by rw [m2.1]; omega
            simp only [t1, t2]
          rw [S_congr e7, S_sub, S_add, S_const, length_rng, S_mul_right, S_mul, S_mul]
          have e8 : S (rng (-(h : Int)) n.toNat) (fun v => if v < 0 then (1 : Int) else 0) = h := by
            rw [hnt, S_rng_append]
            have z1 : S (rng (-(h : Int)) h) (fun v => if v < 0 then (1 : Int) else 0) = S (rng (-(h : Int)) h) (fun _ => 1) := by
              apply S_congr; intro v hv; rw [mem_rng] at hv; rw [if_pos (by omega)]
            have z2 : S (rng (-(h : Int) + h) (h + 1)) (fun v => if v < 0 then (1 : Int) else 0) = 0 := by
              apply S_eq_zero; intro v hv; rw [mem_rng] at hv; rw [if_neg (by omega)]
            rw [z1, z2, S_const, length_rng]; omega
          rw [e8]
          have : ((n.toNat : Nat) : Int) = n := by omega
          rw [this]
        rw [S_congr e6, S_sub, S_add, S_mul, S_const, length_rng, S_mul, S_mul_right]
        have e8 : S (rng (-(h : Int)) n.toNat) (fun v => if v < 0 then (1 : Int) else 0) = h := by
          rw [hnt, S_rng_append]
          have z1 : S (rng (-(h : Int)) h) (fun v => if v < 0 then (1 : Int) else 0) = S (rng (-(h : Int)) h) (fun _ => 1) := by
            apply S_congr; intro v hv; rw [mem_rng] at hv; rw [if_pos (by omega)]
          have z2 : S (rng (-(h : Int) + h) (h + 1)) (fun v => if v < 0 then (1 : Int) else 0) = 0 := by
            apply S_eq_zero; intro v hv; rw [mem_rng] at hv; rw [if_neg (by omega)]
          rw [z1, z2, S_const, length_rng]; omega
        rw [e8]
        have : ((n.toNat : Nat) : Int) = n := by omega
        rw [this]; grind
      · rw [if_neg h0, if_neg h0]
  have s2 : S (grid (rng (-(h : Int)) n.toNat) (rng (-(h : Int)) n.toNat)) (sel (n : G) (en n) (fun s => fc ((n : G) * b) (b * s) % 4)) = 0 := by
    apply S_eq_zero
    intro s hs
    rw [mem_grid, mem_rng, mem_rng] at hs
    unfold sel
    by_cases hd : Dv (n : G) s
    · rw [if_pos hd]
    · rw [if_neg hd]
      by_cases h0 : en n s % 4 = 0
      · rw [if_pos h0]
        have hne : ¬ (s.re = 0 ∧ s.im = 0) := by
          rintro ⟨h1, h2⟩; apply hd; rw [Dv_int, h1, h2]; exact ⟨Int.dvd_zero _, Int.dvd_zero _⟩
        have e5 : en n s = sec s.re s.im := by
          unfold en; rw [cm_self n0 g.n1 (by omega), cm_self n0 g.n1 (by omega)]
        rw [e5] at h0
        have hpq := (sec_zero hne).mp h0
        have b1 := bnd 0 s.re (by omega) (by omega) (by omega) (by omega)
        have b2 := bnd 0 s.im (by omega) (by omega) (by omega) (by omega)
        rw [Int.zero_add] at b1 b2
        dsimp only
        rw [fcv _ (by rw [P_mul]; exact b1.1) (by rw [P_mul]; exact b1.2) (by rw [Q_mul]; exact b2.1) (by rw [Q_mul]; exact b2.2),
          P_mul, Q_mul]
        have p1 := Int.mul_pos n0 (Int.mul_pos hN hpq.1)
        have p2 := Int.mul_nonneg (show 0 ≤ n by omega) (Int.mul_nonneg (show 0 ≤ norm b by omega) hpq.2)
        unfold sec; rw [if_pos ⟨p1, p2⟩]; rfl
      · rw [if_neg h0]
  rw [s1, s2]
  obtain ⟨w, hw⟩ : ∃ w : Int, (h : Int) * h = 2 * w + h := by
    rcases Int.emod_two_eq (h : Int) with h1 | h1
    · obtain ⟨l, hl⟩ : ∃ l : Int, (h : Int) = 2 * l := ⟨h / 2, by omega⟩
      exact ⟨2 * (l * l) - l, by rw [hl]; grind⟩
    · obtain ⟨l, hl⟩ : ∃ l : Int, (h : Int) = 2 * l + 1 := ⟨h / 2, by omega⟩
      exact ⟨2 * (l * l) + l, by rw [hl]; grind⟩
  have : q b * (4 * (h * n) - 2 * (h * h)) = 4 * (q b * (h * n) - q b * w - h * q b) + 2 * (h * q b) := by rw [hw]; grind
  rw [this]; omega
theorem recip (hcop : ∃ s t : Int, x * s + y * t = 1) (hc : Cop ⟨x, y⟩ (n : G)) :
    J ⟨x, y⟩ (n : G) = (J (n : G) ⟨x, y⟩ + 2 * (h * q ⟨x, y⟩)) % 4 := by
  have hb := g.bOd
  have hn := int_od g.n1
  have hf := en_eqv g.n0 g.n1
  have hfb := fc_eqv hb
  have e1 := comb_eqv hn.ne_zero hf hfb
  have e2 := comb_eqv hb.ne_zero hfb hf
  have he : (⟨x, y⟩ : G) * (n : G) = (n : G) * ⟨x, y⟩ := by grind
  rw [he] at e2
  have h1 := g.od1 hcop
  have h2 := g.od2 hcop
  have h3 := g.od3 hc
  have h4 := od_chain (hn.mul hb) e1 (fc_eqv (hn.mul hb)) e2
  have := J_range ⟨x, y⟩ (n : G)
  omega
end Geo
end
end FS
namespace FS
open G Classical
noncomputable section

/-- 1 where n leaves 3 by 4 -/
def ep (n : Int) : Int := if n % 4 = 3 then 1 else 0
theorem q_int {n : Int} (h : n % 2 = 1) : ∃ A, q (n : G) = 2 * A ∧ n * n = 4 * (2 * A) + 1 := by
  obtain ⟨k, hk⟩ := odd_sq h
  refine ⟨k, ?_, by omega⟩
  unfold q; rw [norm_int]; omega
theorem od_of_parts {x y : Int} (hx : x % 2 = 1) (hy : y % 2 = 0) : Od ⟨x, y⟩ := by
  obtain ⟨k, hk⟩ := odd_sq hx
  obtain ⟨l, rfl⟩ : ∃ l, y = 2 * l := ⟨y / 2, by omega⟩
  unfold Od norm; simp only
  have : 2 * l * (2 * l) = 4 * (l * l) := by grind
  omega
theorem q_parts {x y l : Int} (hx : x % 2 = 1) (hy : y = 2 * l) : ∃ A, q ⟨x, y⟩ = 2 * A + l * l ∧ q (x : G) = 2 * A := by
  obtain ⟨A, h1, h2⟩ := q_int hx
  refine ⟨A, ?_, h1⟩
  subst hy
  unfold q norm; simp only
  have : 2 * l * (2 * l) = 4 * (l * l) := by grind
  rw [h2]; omega
theorem sq_par (l : Int) : ∃ w, l * l = 2 * w + l := by
  rcases Int.emod_two_eq l with h1 | h1
  · obtain ⟨t, ht⟩ : ∃ t : Int, l = 2 * t := ⟨l / 2, by omega⟩
    exact ⟨2 * (t * t) - t, by rw [ht]; grind⟩
  · obtain ⟨t, ht⟩ : ∃ t : Int, l = 2 * t + 1 := ⟨l / 2, by omega⟩
    exact ⟨2 * (t * t) + t, by rw [ht]; grind⟩
theorem neg_eq (b : G) : -b = -1 * b := by grind
theorem G.Cop.int_neg {b : G} {n : Int} (h : Cop b (n : G)) : Cop b ((-n : Int) : G) := by
  obtain ⟨s, t, e⟩ := h
  have : ((-n : Int) : G) = -(n : G) := by apply G.ext <;> simp
  exact ⟨s, -t, by rw [this]; grind⟩

theorem R1 {x y n : Int} (hx : 0 < x) (hx1 : x % 2 = 1) (hy : 0 < y) (hy1 : y % 2 = 0) (hn : 0 < n) (hn1 : n % 2 = 1)
    (hcop : ∃ s t : Int, x * s + y * t = 1) (hc : Cop ⟨x, y⟩ (n : G)) :
    J ⟨x, y⟩ (n : G) = (J (n : G) ⟨x, y⟩ + 2 * (ep n * q ⟨x, y⟩)) % 4 := by
  have g : Geo x y n (n * x) (n * y) (n / 2).toNat (x / 2).toNat (y / 2).toNat :=
    ⟨by omega, by omega, by omega, by omega, rfl, rfl⟩
  rw [g.recip hcop hc]
  have hh : ((n / 2).toNat : Int) = n / 2 := by omega
  rw [hh]
  obtain ⟨w, hw⟩ : ∃ w, n / 2 = 2 * w + ep n := by
    unfold ep; refine ⟨n / 4, ?_⟩; split <;> omega
  rw [hw]
  have : 2 * ((2 * w + ep n) * q ⟨x, y⟩) = 4 * (w * q ⟨x, y⟩) + 2 * (ep n * q ⟨x, y⟩) := by grind
  rw [this]; omega
/-- any signs of x and y -/
theorem R2 {x y n : Int} (hx1 : x % 2 = 1) (hy1 : y % 2 = 0) (hn : 0 < n) (hn1 : n % 2 = 1)
    (hcop : ∃ s t : Int, x * s + y * t = 1) (hc : Cop ⟨x, y⟩ (n : G)) :
    J ⟨x, y⟩ (n : G) = (J (n : G) ⟨x, y⟩ + 2 * (ep n * q ⟨x, y⟩)) % 4 := by
  -- first x above 0
  have main : ∀ x : Int, 0 < x → x % 2 = 1 → (∃ s t : Int, x * s + y * t = 1) → Cop ⟨x, y⟩ (n : G) →
      J ⟨x, y⟩ (n : G) = (J (n : G) ⟨x, y⟩ + 2 * (ep n * q ⟨x, y⟩)) % 4 := by
    intro x hx hx1 hcop hc
    rcases Int.lt_trichotomy y 0 with h | h | h
    · have e : (⟨x, y⟩ : G) = conj ⟨x, -y⟩ := G.ext rfl (by simp)
      have hc' : Cop ⟨x, -y⟩ (n : G) := by
        have := hc.conj
        rw [conj_int] at this
        exact this
      have r := R1 hx hx1 (show 0 < -y by omega) (by omega) hn hn1
        (by
          obtain ⟨s, t, h⟩ := hcop
          exact ⟨s, -t, by rw [← h]; grind⟩) hc'
      have c1 := J_conj (int_od hn1) hc'
      have c2 := J_conj (od_of_parts hx1 (show -y % 2 = 0 by omega)) hc'.symm
      rw [conj_int, ← e] at c1 c2
      have hq : q (⟨x, y⟩ : G) = q ⟨x, -y⟩ := by rw [e]; unfold q; rw [norm_conj]
      rw [c1, c2, hq]; omega
    · subst h
      obtain ⟨s, t, h⟩ := hcop
      have hx' : x = 1 := by
        have h1 : x * s = 1 := by simpa using h
        exact Int.eq_one_of_mul_eq_one_right (by omega) h1
      subst hx'
      have e : (⟨1, 0⟩ : G) = 1 := rfl
      rw [e, J_one (int_od hn1), J_unit norm_one]
      have : q 1 = 0 := rfl
      rw [this]; simp
    · exact R1 hx hx1 h hy1 hn hn1 hcop hc
  rcases Int.lt_or_gt_of_ne (show x ≠ 0 by omega) with h | h
  · have e : (⟨x, y⟩ : G) = -⟨-x, -y⟩ := G.ext (by simp) (by simp)
    have hc' : Cop ⟨-x, -y⟩ (n : G) := by
      have := hc.neg
      exact this
    have hO : Od ⟨-x, -y⟩ := od_of_parts (by omega) (by omega)
    have r : J ⟨-x, -y⟩ (n : G) = (J (n : G) ⟨-x, -y⟩ + 2 * (ep n * q ⟨-x, -y⟩)) % 4 := by
      -- use main with y replaced: by conj
      have e2 : (⟨-x, -y⟩ : G) = conj ⟨-x, y⟩ := G.ext rfl (by simp)
      have hc2 : Cop ⟨-x, y⟩ (n : G) := by
        have := hc'.conj
        rw [conj_int] at this
        have e3 : conj ⟨-x, -y⟩ = ⟨-x, y⟩ := G.ext rfl (by simp)
        rwa [e3] at this
      have r := main (-x) (by omega) (by omega)
        (by
          obtain ⟨s, t, h⟩ := hcop
          exact ⟨-s, t, by rw [← h]; grind⟩) hc2
      have c1 := J_conj (int_od hn1) hc2
      have c2 := J_conj (od_of_parts (show -x % 2 = 1 by omega) hy1) hc2.symm
      rw [conj_int, ← e2] at c1 c2
      have hq : q (⟨-x, -y⟩ : G) = q ⟨-x, y⟩ := by rw [e2]; unfold q; rw [norm_conj]
      rw [c1, c2, hq]; omega
    have j1 := J_mul (int_od hn1) (neg_cop (m := (n : G))) hc'
    rw [← neg_eq, ← e, J_neg_one (int_od hn1)] at j1
    have j2 := J_neg_right hO hc'.symm
    rw [← e] at j2
    obtain ⟨A, hA, _⟩ := q_int hn1
    have hq : q (⟨x, y⟩ : G) = q ⟨-x, -y⟩ := by unfold q norm; simp only; grind
    rw [j1, j2, hA, hq]
    have := J_range ⟨-x, -y⟩ (n : G)
    omega
  · exact main x h hx1 hcop hc
/-- n of any sign -/
theorem R3 {x y n : Int} (hx1 : x % 2 = 1) (hy1 : y % 2 = 0) (hn1 : n % 2 = 1)
    (hcop : ∃ s t : Int, x * s + y * t = 1) (hc : Cop ⟨x, y⟩ (n : G)) :
    J ⟨x, y⟩ (n : G) = (J (n : G) ⟨x, y⟩ + 2 * (ep n * q ⟨x, y⟩)) % 4 := by
  rcases Int.lt_or_gt_of_ne (show n ≠ 0 by omega) with h | h
  · have hO := od_of_parts hx1 hy1
    have hc' := hc.int_neg
    have r := R2 hx1 hy1 (show 0 < -n by omega) (by omega) hcop hc'
    have e : (n : G) = -((-n : Int) : G) := by apply G.ext <;> simp
    have j1 := J_neg_right (int_od (show -n % 2 = 1 by omega)) hc'
    rw [← e] at j1
    have j2 := J_mul hO neg_cop hc'.symm
    rw [← neg_eq, ← e, J_neg_one hO] at j2
    rw [j1, j2, r]
    have : ep n = 1 - ep (-n) := by unfold ep; split <;> split <;> omega
    rw [this]
    have : (1 - ep (-n)) * q ⟨x, y⟩ = q ⟨x, y⟩ - ep (-n) * q ⟨x, y⟩ := by grind
    rw [this]; omega
  · exact R2 hx1 hy1 h hn1 hcop hc
/-- what integers divide both parts -/
theorem prim_part {x y : Int} (h : x % 2 = 1) : ∃ d x' y' : Int, x = d * x' ∧ y = d * y' ∧ (∃ s t : Int, x' * s + y' * t = 1) ∧
    d % 2 = 1 ∧ x' % 2 = 1 := by
  obtain ⟨d, s, t, h1, ⟨x', hx'⟩, ⟨y', hy'⟩⟩ := int_bezout x y
  have hd : d ≠ 0 := by rintro rfl; simp at hx'; omega
  refine ⟨d, x', y', hx', hy', ⟨s, t, ?_⟩, ?_, ?_⟩
  · apply Int.eq_of_mul_eq_mul_left hd
    have : d * (x' * s + y' * t) = (d * x') * s + (d * y') * t := by grind
    rw [this, ← hx', ← hy', h1]; omega
  · rcases Int.emod_two_eq d with h2 | h2
    · exfalso; rw [hx', Int.mul_emod, h2] at h; simp at h
    · exact h2
  · rcases Int.emod_two_eq x' with h2 | h2
    · exfalso; rw [hx', Int.mul_emod, h2] at h; simp at h
    · exact h2
theorem even_of_mul {d y : Int} (hd : d % 2 = 1) (h : (d * y) % 2 = 0) : y % 2 = 0 := by
  rcases Int.emod_two_eq y with h2 | h2
  · exact h2
  · rw [Int.mul_emod, hd, h2] at h; simp at h
theorem q_int_mul {d : Int} {b : G} (hd : d % 2 = 1) (hb : Od b) : ∃ w, q ((d : G) * b) = 2 * w + q b := by
  obtain ⟨k, hk⟩ := odd_sq hd
  have h1 := ((int_od hd).mul hb).q4
  have h2 := hb.q4
  rw [norm_mul, norm_int, hk, ← h2] at h1
  exact ⟨4 * (k * q b) + k, by grind⟩
/-- reciprocity with an integer -/
theorem Rsig {b : G} {n : Int} (hx1 : b.re % 2 = 1) (hy1 : b.im % 2 = 0) (hn1 : n % 2 = 1) (hc : Cop b (n : G)) :
    J b (n : G) = (J (n : G) b + 2 * (ep n * q b)) % 4 := by
  obtain ⟨d, x', y', e1, e2, hcop, hd, hx'⟩ := prim_part (y := b.im) hx1
  have hy' : y' % 2 = 0 := even_of_mul hd (by rw [← e2]; exact hy1)
  have hO := od_of_parts hx' hy'
  have hdO := int_od hd
  have e : b = (d : G) * ⟨x', y'⟩ := G.ext (by simp; omega) (by simp; omega)
  rw [e] at hc ⊢
  have c1 : Cop (d : G) (n : G) := hc.of_dv_left ⟨⟨x', y'⟩, rfl⟩
  have c2 : Cop ⟨x', y'⟩ (n : G) := hc.of_dv_left ⟨(d : G), by grind⟩
  obtain ⟨w, hw⟩ := q_int_mul hd hO
  rw [J_mul (int_od hn1) c1 c2, J_mul_right hdO hO c1.symm c2.symm, J_int_int' hn1 c1, J_int_int' hd c1.symm,
    R3 hx' hy' hn1 hcop c2, hw]
  have : ep n * (2 * w + q ⟨x', y'⟩) = 2 * (ep n * w) + ep n * q ⟨x', y'⟩ := by grind
  rw [this]; omega

/-! primary pairs -/
def Prim (m : G) : Prop := m.im % 2 = 0 ∧ (m.re + m.im) % 4 = 1
theorem Prim.re {m : G} (h : Prim m) : m.re % 2 = 1 := by unfold Prim at h; omega
theorem Prim.od {m : G} (h : Prim m) : Od m := od_of_parts h.re h.1
/-- a primary pair is an integer that leaves 1 by 4 times a primary one without common divisors -/
theorem Prim.parts {m : G} (h : Prim m) : ∃ (d : Int) (p : G), m = (d : G) * p ∧ d % 4 = 1 ∧ Prim p ∧
    (∃ s t : Int, p.re * s + p.im * t = 1) := by
  obtain ⟨d, x', y', e1, e2, ⟨s, t, hst⟩, hd, hx'⟩ := prim_part (y := m.im) h.re
  have hy' : y' % 2 = 0 := even_of_mul hd (by rw [← e2]; exact h.1)
  have h2 := h.2
  by_cases hd4 : d % 4 = 1
  · refine ⟨d, ⟨x', y'⟩, G.ext (by simp; omega) (by simp; omega), hd4, ⟨hy', ?_⟩, s, t, hst⟩
    simp only
    rw [e1, e2] at h2
    obtain ⟨k, rfl⟩ : ∃ k, d = 4 * k + 1 := ⟨d / 4, by omega⟩
    have : (4 * k + 1) * x' + (4 * k + 1) * y' = 4 * (k * x' + k * y') + (x' + y') := by grind
    omega
  · refine ⟨-d, ⟨-x', -y'⟩, G.ext (by simp; grind) (by simp; grind), by omega, ⟨by simp only; omega, ?_⟩, -s, -t, ?_⟩
    · simp only
      rw [e1, e2] at h2
      obtain ⟨k, rfl⟩ : ∃ k, d = 4 * k - 1 := ⟨d / 4 + 1, by omega⟩
      have : (4 * k - 1) * x' + (4 * k - 1) * y' = 4 * (k * x' + k * y') - (x' + y') := by grind
      omega
    · simp only
      have e3 : -x' * -s = x' * s := by grind
      have e4 : -y' * -t = y' * t := by grind
      omega
theorem cop_part {c d s t : Int} (h : c * s + d * t = 1) : Cop (c : G) ⟨c, d⟩ := by
  refine ⟨⟨s, t⟩, ⟨0, -t⟩, G.ext ?_ ?_⟩
  · simp; grind
  · simp; grind
/-- reciprocity, both without common divisors -/
theorem recip_prim {a b c d : Int} (h1 : Prim ⟨a, b⟩) (h2 : Prim ⟨c, d⟩) (p1 : ∃ s t : Int, a * s + b * t = 1)
    (p2 : ∃ s t : Int, c * s + d * t = 1) (hc : Cop ⟨a, b⟩ ⟨c, d⟩) :
    J ⟨a, b⟩ ⟨c, d⟩ = (J ⟨c, d⟩ ⟨a, b⟩ + 2 * (q ⟨a, b⟩ * q ⟨c, d⟩)) % 4 := by
  obtain ⟨s1, t1, hst1⟩ := p1
  obtain ⟨s2, t2, hst2⟩ := p2
  have o1 := h1.od
  have o2 := h2.od
  have ha := h1.re
  have hcc := h2.re
  have hb := h1.1
  have hd := h2.1
  have hab := h1.2
  have hcd := h2.2
  simp only at ha hcc hb hd hab hcd
  obtain ⟨β, hβ⟩ : ∃ β, b = 2 * β := ⟨b / 2, by omega⟩
  obtain ⟨δ, hδ⟩ : ∃ δ, d = 2 * δ := ⟨d / 2, by omega⟩
  -- m
  generalize hm : a * c + b * d = m
  have hm2 : m = a * c + 4 * (β * δ) := by rw [← hm, hβ, hδ]; grind
  have hac : (a * c) % 2 = 1 := by rw [Int.mul_emod, ha, hcc]; rfl
  have hm1 : m % 2 = 1 := by omega
  have cong1 : Cong ⟨c, d⟩ ((c : G) * ⟨a, b⟩) (m : G) := ⟨⟨0, b⟩, G.ext (by simp <;> grind) (by simp <;> grind)⟩
  have cong2 : Cong ⟨a, b⟩ ((a : G) * ⟨c, d⟩) (m : G) := ⟨⟨0, d⟩, G.ext (by simp <;> grind) (by simp <;> grind)⟩
  have cc : Cop (c : G) ⟨c, d⟩ := cop_part hst2
  have ca : Cop (a : G) ⟨a, b⟩ := cop_part hst1
  have cm1 : Cop (m : G) ⟨c, d⟩ := (cc.mul_left hc).of_cong cong1
  have cm2 : Cop (m : G) ⟨a, b⟩ := (ca.mul_left hc.symm).of_cong cong2
  have e1 := J_mul o2 cc hc
  rw [J_cong o2 cong1] at e1
  have e2 := J_mul o1 ca hc.symm
  rw [J_cong o1 cong2] at e2
  have r1 := Rsig (b := ⟨c, d⟩) hcc hd hm1 cm1.symm
  have r2 := Rsig (b := ⟨a, b⟩) ha hb hm1 cm2.symm
  have r3 := Rsig (b := ⟨c, d⟩) hcc hd hcc cc.symm
  have r4 := Rsig (b := ⟨a, b⟩) ha hb ha ca.symm
  -- J λ c = q c
  have cdc : Cop (d : G) (c : G) := cop_int (s := t2) (t := s2) (by omega)
  have cba : Cop (b : G) (a : G) := cop_int (s := t1) (t := s1) (by omega)
  have k1 : J ⟨c, d⟩ (c : G) = q (c : G) % 4 := by
    have : Cong (c : G) ⟨c, d⟩ ((d : G) * I) := ⟨1, G.ext (by simp) (by simp)⟩
    rw [J_cong (int_od hcc) this, J_mul (int_od hcc) cdc (I_cop _), J_int_int' hcc cdc, J_I (int_od hcc)]; omega
  have k2 : J ⟨a, b⟩ (a : G) = q (a : G) % 4 := by
    have : Cong (a : G) ⟨a, b⟩ ((b : G) * I) := ⟨1, G.ext (by simp) (by simp)⟩
    rw [J_cong (int_od ha) this, J_mul (int_od ha) cba (I_cop _), J_int_int' ha cba, J_I (int_od ha)]; omega
  -- J (λ conj π) m
  have cpm : Cop (conj ⟨a, b⟩) (m : G) := by
    have := cm2.symm.conj
    rwa [conj_int] at this
  have cprod := cm1.symm.mul_left cpm
  have cg : Cong (m : G) (⟨c, d⟩ * conj ⟨a, b⟩) (((a * d - b * c : Int) : G) * I) :=
    ⟨1, G.ext (by simp; grind) (by simp; grind)⟩
  have cx : Cop ((a * d - b * c : Int) : G) (m : G) := (cprod.of_cong cg).of_dv_left ⟨I, rfl⟩
  have k3 : (J ⟨c, d⟩ (m : G) - J ⟨a, b⟩ (m : G)) % 4 = q (m : G) % 4 := by
    have j1 := J_mul (int_od hm1) cm1.symm cpm
    rw [J_cong (int_od hm1) cg, J_mul (int_od hm1) cx (I_cop _), J_int_int' hm1 cx, J_I (int_od hm1)] at j1
    have j2 := J_conj (int_od hm1) cm2.symm
    rw [conj_int] at j2
    omega
  -- the rest is arithmetic
  obtain ⟨A, qA, qa⟩ := q_parts ha hβ
  obtain ⟨B, qB, qc⟩ := q_parts hcc hδ
  obtain ⟨A', ea, eaa⟩ := q_int ha
  obtain ⟨C', ec, ecc⟩ := q_int hcc
  obtain ⟨M', em, emm⟩ := q_int hm1
  obtain ⟨wβ, hwβ⟩ := sq_par β
  obtain ⟨wδ, hwδ⟩ := sq_par δ
  have qm : ∃ w, q (m : G) = q (a : G) + q (c : G) + 2 * (β * δ) + 4 * w := by
    have e : m * m = (a * a) * (c * c) + 8 * (a * c) * (β * δ) + 16 * ((β * δ) * (β * δ)) := by rw [hm2]; grind
    rw [eaa, ecc] at e
    obtain ⟨u, hu⟩ : ∃ u, a * c = 2 * u + 1 := ⟨a * c / 2, by omega⟩
    rw [hu, emm] at e
    rw [ea, ec, em]
    exact ⟨4 * (A' * C') + u * (β * δ) + (β * δ) * (β * δ), by grind⟩
  obtain ⟨w, qm⟩ := qm
  -- ep
  obtain ⟨ka, hka⟩ : ∃ k, ep a = β + 2 * k := by
    unfold ep
    split
    · exact ⟨(1 - β) / 2, by omega⟩
    · exact ⟨-β / 2, by omega⟩
  obtain ⟨kc, hkc⟩ : ∃ k, ep c = δ + 2 * k := by
    unfold ep
    split
    · exact ⟨(1 - δ) / 2, by omega⟩
    · exact ⟨-δ / 2, by omega⟩
  obtain ⟨km, hkm⟩ : ∃ k, ep m = β + δ + 2 * k := by
    have h4 : m % 4 = (a * c) % 4 := by omega
    have h5 : (a * c) % 4 = ((a % 4) * (c % 4)) % 4 := Int.mul_emod _ _ _
    unfold ep
    have ra : a % 4 = 1 ∨ a % 4 = 3 := by omega
    have rc : c % 4 = 1 ∨ c % 4 = 3 := by omega
    have hsum : (m % 4 = 3 ∧ (β + δ) % 2 = 1) ∨ (m % 4 = 1 ∧ (β + δ) % 2 = 0) := by
      rcases ra with ra | ra <;> rcases rc with rc | rc <;> rw [ra, rc] at h5 <;> omega
    rcases hsum with ⟨z1, z2⟩ | ⟨z1, z2⟩
    · rw [if_pos z1]; exact ⟨(1 - (β + δ)) / 2, by omega⟩
    · rw [if_neg (by omega)]; exact ⟨-(β + δ) / 2, by omega⟩
  rw [hka] at r4
  rw [hkc] at r3
  rw [hkm] at r1 r2
  rw [qA] at r2 r4 ⊢
  rw [qB] at r1 r3 ⊢
  rw [hwβ] at r2 r4 ⊢
  rw [hwδ] at r1 r3 ⊢
  rw [k1] at r3
  rw [k2] at r4
  have x1 : (β + δ + 2 * km) * (2 * B + (2 * wδ + δ)) = 2 * ((β + δ + 2 * km) * (B + wδ) + km * δ) + (β * δ + δ * δ) := by grind
  have x2 : (β + δ + 2 * km) * (2 * A + (2 * wβ + β)) = 2 * ((β + δ + 2 * km) * (A + wβ) + km * β) + (β * δ + β * β) := by grind
  have x3 : (δ + 2 * kc) * (2 * B + (2 * wδ + δ)) = 2 * ((δ + 2 * kc) * (B + wδ) + kc * δ) + δ * δ := by grind
  have x4 : (β + 2 * ka) * (2 * A + (2 * wβ + β)) = 2 * ((β + 2 * ka) * (A + wβ) + ka * β) + β * β := by grind
  have x5 : (2 * A + (2 * wβ + β)) * (2 * B + (2 * wδ + δ)) = 2 * ((A + wβ) * (2 * B + (2 * wδ + δ)) + β * (B + wδ)) + β * δ := by grind
  rw [x1] at r1
  rw [x2] at r2
  rw [x3] at r3
  rw [x4] at r4
  rw [x5]
  generalize (β + δ + 2 * km) * (B + wδ) + km * δ = y1 at *
  generalize (β + δ + 2 * km) * (A + wβ) + km * β = y2 at *
  generalize (δ + 2 * kc) * (B + wδ) + kc * δ = y3 at *
  generalize (β + 2 * ka) * (A + wβ) + ka * β = y4 at *
  generalize (A + wβ) * (2 * B + (2 * wδ + δ)) + β * (B + wδ) = y5 at *
  have n1 := J_range ⟨a, b⟩ ⟨c, d⟩
  have n2 := J_range ⟨c, d⟩ ⟨a, b⟩
  rw [hwβ] at r2 r4
  rw [hwδ] at r1 r3
  rw [qa] at r4 qm
  rw [qc] at r3 qm
  generalize β * δ = z at *
  clear hwβ hwδ x1 x2 x3 x4 x5 hm2 hac hm hm1 hst1 hst2 ea ec em eaa ecc emm
  omega
end
end FS
namespace FS
open G Classical
noncomputable section

/-- reciprocity -/
theorem recip {m n : G} (hm : Prim m) (hn : Prim n) (hc : Cop m n) : J m n = (J n m + 2 * (q m * q n)) % 4 := by
  obtain ⟨d, p, rfl, hd, hp, p1⟩ := hm.parts
  obtain ⟨e, r, rfl, he, hr, p2⟩ := hn.parts
  have hdO := int_od (show d % 2 = 1 by omega)
  have heO := int_od (show e % 2 = 1 by omega)
  have hpO := hp.od
  have hrO := hr.od
  have cd : Cop (d : G) ((e : G) * r) := hc.of_dv_left ⟨p, rfl⟩
  have cp : Cop p ((e : G) * r) := hc.of_dv_left ⟨(d : G), by grind⟩
  have cde : Cop (d : G) (e : G) := cd.of_dv ⟨r, rfl⟩
  have cdr : Cop (d : G) r := cd.of_dv ⟨(e : G), by grind⟩
  have cpe : Cop p (e : G) := cp.of_dv ⟨r, rfl⟩
  have cpr : Cop p r := cp.of_dv ⟨(e : G), by grind⟩
  have ep0 : ep d = 0 := by unfold ep; rw [if_neg (by omega)]
  have ee0 : ep e = 0 := by unfold ep; rw [if_neg (by omega)]
  have r1 := Rsig hr.re hr.1 (show d % 2 = 1 by omega) cdr.symm
  have r2 := Rsig hp.re hp.1 (show e % 2 = 1 by omega) cpe
  have r3 := recip_prim (a := p.re) (b := p.im) (c := r.re) (d := r.im) hp hr p1 p2 cpr
  have hpe : (⟨p.re, p.im⟩ : G) = p := rfl
  have hre : (⟨r.re, r.im⟩ : G) = r := rfl
  rw [hpe, hre] at r3
  obtain ⟨w1, hw1⟩ := q_int_mul (show d % 2 = 1 by omega) hpO
  obtain ⟨w2, hw2⟩ := q_int_mul (show e % 2 = 1 by omega) hrO
  have a1 := J_mul (heO.mul hrO) cd cp
  have a2 := J_mul_right heO hrO cde cdr
  have a3 := J_mul_right heO hrO cpe cpr
  have b1 := J_mul (hdO.mul hpO) (cde.symm.mul_right cpe.symm) (cdr.symm.mul_right cpr.symm)
  have b2 := J_mul_right hdO hpO cde.symm cpe.symm
  have b3 := J_mul_right hdO hpO cdr.symm cpr.symm
  have z1 := J_int_int' (show e % 2 = 1 by omega) cde
  have z2 := J_int_int' (show d % 2 = 1 by omega) cde.symm
  rw [ep0] at r1
  rw [ee0] at r2
  rw [hw1, hw2]
  have : (2 * w1 + q p) * (2 * w2 + q r) = 2 * (w1 * (2 * w2 + q r) + q p * w2) + q p * q r := by grind
  rw [this]
  omega

/-! 1 + i -/
def E : G := ⟨1, 1⟩
theorem E_cop {m : G} (hm : Od m) : Cop E m := by
  -- norm m = 2 k + 1, norm E = 2
  have h := mul_conj m
  have h2 := mul_conj E
  have e : norm E = 2 := rfl
  obtain ⟨k, hk⟩ : ∃ k, norm m = 2 * k + 1 := ⟨norm m / 2, by unfold Od at hm; omega⟩
  refine ⟨-(conj E * (k : G)), conj m, ?_⟩
  have e1 : E * -(conj E * (k : G)) + m * conj m = -((E * conj E) * (k : G)) + m * conj m := by grind
  rw [e1, h, h2, hk, e]
  apply G.ext <;> simp <;> omega
theorem two_eq : ((2 : Int) : G) = -(I * (E * E)) := rfl
theorem J_E_int_step {n : Int} (hn : n % 4 = 1) : J E ((n + 4 : Int) : G) = (J E (n : G) + 1) % 4 := by
  have hb : Prim ⟨n + 2, 2⟩ := ⟨by simp only; omega, by simp only; omega⟩
  have hbO := hb.od
  have hnO := int_od (show n % 2 = 1 by omega)
  have hn4 := int_od (show (n + 4) % 2 = 1 by omega)
  have hre : (⟨n + 2, 2⟩ : G).re % 2 = 1 := by simp only; omega
  have him : (⟨n + 2, 2⟩ : G).im % 2 = 0 := by simp only; omega
  have c1 : Cong (n : G) ⟨n + 2, 2⟩ (((2 : Int) : G) * E) := ⟨1, G.ext (by simp [E] <;> omega) (by simp [E])⟩
  have c2 : Cong ⟨n + 2, 2⟩ (n : G) (I * (E * (E * E))) := ⟨1, G.ext (by simp [E] <;> omega) (by simp [E] <;> omega)⟩
  have c3 : Cong ((n + 4 : Int) : G) ⟨n + 2, 2⟩ (((2 : Int) : G) * (I * E)) := ⟨1, G.ext (by simp [E] <;> omega) (by simp [E])⟩
  have c4 : Cong ⟨n + 2, 2⟩ ((n + 4 : Int) : G) (I * (I * (E * (E * E)))) := ⟨1, G.ext (by simp [E] <;> omega) (by simp [E] <;> omega)⟩
  have k2 : ∀ {m : Int}, m % 2 = 1 → Cop ((2 : Int) : G) (m : G) := by
    intro m hm
    rw [two_eq]
    exact Cop.neg ((I_cop _).mul_left ((E_cop (int_od hm)).mul_left (E_cop (int_od hm))))
  have k2n := k2 (show n % 2 = 1 by omega)
  have k2n4 := k2 (show (n + 4) % 2 = 1 by omega)
  have eb := E_cop hbO
  have en := E_cop hnO
  have en4 := E_cop hn4
  have copbn : Cop ⟨n + 2, 2⟩ (n : G) := (k2n.mul_left en).of_cong c1.symm
  have copbn4 : Cop ⟨n + 2, 2⟩ ((n + 4 : Int) : G) := (k2n4.mul_left ((I_cop _).mul_left en4)).of_cong c3.symm
  have r1 := Rsig hre him (show n % 2 = 1 by omega) copbn
  have r2 := Rsig hre him (show (n + 4) % 2 = 1 by omega) copbn4
  have ep0 : ep n = 0 := by unfold ep; rw [if_neg (by omega)]
  have ee0 : ep (n + 4) = 0 := by unfold ep; rw [if_neg (by omega)]
  rw [ep0] at r1
  rw [ee0] at r2
  rw [J_cong hnO c1, J_mul hnO k2n en, J_int_int' (show n % 2 = 1 by omega) k2n,
    J_cong hbO c2, J_mul hbO (I_cop _) (eb.mul_left (eb.mul_left eb)), J_mul hbO eb (eb.mul_left eb), J_mul hbO eb eb, J_I hbO] at r1
  rw [J_cong hn4 c3, J_mul hn4 k2n4 ((I_cop _).mul_left en4), J_int_int' (show (n + 4) % 2 = 1 by omega) k2n4, J_mul hn4 (I_cop _) en4, J_I hn4,
    J_cong hbO c4, J_mul hbO (I_cop _) ((I_cop _).mul_left (eb.mul_left (eb.mul_left eb))), J_mul hbO (I_cop _) (eb.mul_left (eb.mul_left eb)),
    J_mul hbO eb (eb.mul_left eb), J_mul hbO eb eb, J_I hbO] at r2
  obtain ⟨t, rfl⟩ : ∃ t, n = 4 * t + 1 := ⟨n / 4, by omega⟩
  have q1 : q ⟨4 * t + 1 + 2, 2⟩ = 4 * (t * t) + 6 * t + 3 := by
    unfold q norm; simp only
    have : (4 * t + 1 + 2) * (4 * t + 1 + 2) + 2 * 2 - 1 = 4 * (4 * (t * t) + 6 * t + 3) := by grind
    rw [this]; omega
  have q2 : q ((4 * t + 1 + 4 : Int) : G) = 4 * (t * t) + 10 * t + 6 := by
    unfold q; rw [norm_int]
    have : (4 * t + 1 + 4) * (4 * t + 1 + 4) - 1 = 4 * (4 * (t * t) + 10 * t + 6) := by grind
    rw [this]; omega
  rw [q1] at r1 r2
  rw [q2] at r2
  have n1 := J_range E ((4 * t + 1 + 4 : Int) : G)
  omega
theorem J_E_int {n : Int} (hn : n % 4 = 1) : J E (n : G) = (n - 1) / 4 % 4 := by
  have up : ∀ k : Nat, J E ((1 + 4 * k : Int) : G) = (k : Int) % 4 := by
    intro k
    induction k with
    | zero => exact J_unit rfl
    | succ k ih =>
      have := J_E_int_step (n := 1 + 4 * k) (by omega)
      have e : (1 + 4 * ((k + 1 : Nat) : Int)) = 1 + 4 * k + 4 := by omega
      rw [e, this, ih]; omega
  have down : ∀ k : Nat, J E ((1 - 4 * k : Int) : G) = (-(k : Int)) % 4 := by
    intro k
    induction k with
    | zero => exact J_unit rfl
    | succ k ih =>
      have := J_E_int_step (n := 1 - 4 * ((k + 1 : Nat) : Int)) (by omega)
      have e : (1 - 4 * ((k + 1 : Nat) : Int)) + 4 = 1 - 4 * (k : Int) := by omega
      rw [e, ih] at this
      have := J_range E ((1 - 4 * ((k + 1 : Nat) : Int) : Int) : G)
      omega
  rcases Int.le_total 1 n with h | h
  · have := up ((n - 1) / 4).toNat
    have e : (1 + 4 * (((n - 1) / 4).toNat : Int)) = n := by omega
    rw [e] at this
    omega
  · have := down ((1 - n) / 4).toNat
    have e : (1 - 4 * (((1 - n) / 4).toNat : Int)) = n := by omega
    rw [e] at this
    omega
theorem J_E_prim {x y : Int} (hb : Prim ⟨x, y⟩) (p1 : ∃ s t : Int, x * s + y * t = 1) :
    J E ⟨x, y⟩ = ((x - y - y * y - 1) / 4) % 4 := by
  obtain ⟨s, t, hst⟩ := p1
  have hO := hb.od
  have hx := hb.re
  have hy := hb.1
  have hxy := hb.2
  simp only at hx hy hxy
  have hs1 : (x + y) % 2 = 1 := by omega
  have hsO := int_od hs1
  have hxO := int_od hx
  have eb := E_cop hO
  have cx : Cop (x : G) ⟨x, y⟩ := cop_part hst
  have cg1 : Cong ⟨x, y⟩ ((x : G) * E) ((x + y : Int) : G) := ⟨I, G.ext (by simp [E]; omega) (by simp [E])⟩
  have cs : Cop ((x + y : Int) : G) ⟨x, y⟩ := (cx.mul_left eb).of_cong cg1
  have j1 := J_mul hO cx eb
  rw [J_cong hO cg1] at j1
  have r1 := Rsig hx hy hs1 cs.symm
  have r2 := Rsig hx hy hx cx.symm
  have ep0 : ep (x + y) = 0 := by unfold ep; rw [if_neg (by omega)]
  have cg2 : Cong ((x + y : Int) : G) ⟨x, y⟩ ((y : G) * (I * E)) := ⟨1, G.ext (by simp [E]) (by simp [E])⟩
  have cy : Cop (y : G) ((x + y : Int) : G) := cop_int (s := t - s) (t := s) (by grind)
  have cg3 : Cong (x : G) ⟨x, y⟩ ((y : G) * I) := ⟨1, G.ext (by simp) (by simp)⟩
  have cyx : Cop (y : G) (x : G) := cop_int (s := t) (t := s) (by omega)
  have es := E_cop hsO
  rw [J_cong hsO cg2, J_mul hsO cy ((I_cop _).mul_left es), J_int_int' hs1 cy, J_mul hsO (I_cop _) es, J_I hsO,
    J_E_int hxy, ep0] at r1
  rw [J_cong hxO cg3, J_mul hxO cyx (I_cop _), J_int_int' hx cyx, J_I hxO] at r2
  obtain ⟨β, rfl⟩ : ∃ β, y = 2 * β := ⟨y / 2, by omega⟩
  obtain ⟨u, hu⟩ : ∃ u, x = 1 - 2 * β + 4 * u := ⟨(x + 2 * β) / 4, by omega⟩
  obtain ⟨w, hw⟩ := sq_par β
  have e1 : q ((x + 2 * β : Int) : G) = 4 * (u * u) + 2 * u := by
    unfold q; rw [norm_int]
    have : (x + 2 * β) * (x + 2 * β) - 1 = 4 * (4 * (u * u) + 2 * u) := by rw [hu]; grind
    rw [this]; omega
  have e2 : q (x : G) = 4 * (u * u) - 4 * (u * β) + (2 * w + β) + 2 * u - β := by
    unfold q; rw [norm_int, ← hw]
    have : x * x - 1 = 4 * (4 * (u * u) - 4 * (u * β) + β * β + 2 * u - β) := by rw [hu]; grind
    rw [this]; omega
  have e3 : q ⟨x, 2 * β⟩ = 4 * (u * u) - 4 * (u * β) + 2 * (2 * w + β) + 2 * u - β := by
    unfold q norm; simp only; rw [← hw]
    have : x * x + 2 * β * (2 * β) - 1 = 4 * (4 * (u * u) - 4 * (u * β) + 2 * (β * β) + 2 * u - β) := by rw [hu]; grind
    rw [this]; omega
  obtain ⟨k, hk⟩ : ∃ k, ep x = β + 2 * k := by
    unfold ep
    split
    · exact ⟨(1 - β) / 2, by omega⟩
    · exact ⟨-β / 2, by omega⟩
  have e4 : (x - 2 * β - 2 * β * (2 * β) - 1) / 4 = u - β - (2 * w + β) := by
    rw [← hw]
    have : x - 2 * β - 2 * β * (2 * β) - 1 = 4 * (u - β - β * β) := by rw [hu]; grind
    rw [this]; omega
  have e5 : (x + 2 * β - 1) / 4 = u := by omega
  rw [e1, e5] at r1
  rw [e2, e3, hk] at r2
  rw [e4]
  have e6 : (β + 2 * k) * (4 * (u * u) - 4 * (u * β) + 2 * (2 * w + β) + 2 * u - β) =
      2 * ((β + 2 * k) * (2 * (u * u) - 2 * (u * β) + (2 * w + β) + u) - k * β) - β * β := by grind
  rw [e6, hw] at r2
  have n1 := J_range E ⟨x, 2 * β⟩
  have n2 := J_range ((x : Int) : G) ⟨x, 2 * β⟩
  generalize (β + 2 * k) * (2 * (u * u) - 2 * (u * β) + (2 * w + β) + u) - k * β = y1 at *
  generalize u * u = y2 at *
  generalize u * β = y3 at *
  clear hw e6 e4 e3 e2 e1 hst cg1 cg2 cg3
  omega
/-- 1 + i by a primary pair -/
theorem J_E {m : G} (hm : Prim m) : J E m = ((m.re - m.im - m.im * m.im - 1) / 4) % 4 := by
  obtain ⟨d, p, rfl, hd, hp, p1⟩ := hm.parts
  have hdO := int_od (show d % 2 = 1 by omega)
  rw [J_mul_right hdO hp.od (E_cop hdO) (E_cop hp.od), J_E_int hd]
  have := J_E_prim (x := p.re) (y := p.im) hp p1
  have hpe : (⟨p.re, p.im⟩ : G) = p := rfl
  rw [hpe] at this
  rw [this, int_mul_re, int_mul_im]
  have hy := hp.1
  have hxy := hp.2
  obtain ⟨β, hβ⟩ : ∃ β, p.im = 2 * β := ⟨p.im / 2, by omega⟩
  obtain ⟨u, hu⟩ : ∃ u, p.re = 1 - 2 * β + 4 * u := ⟨(p.re + 2 * β) / 4, by omega⟩
  obtain ⟨k, rfl⟩ : ∃ k, d = 4 * k + 1 := ⟨d / 4, by omega⟩
  rw [hβ, hu]
  have e1 : (1 - 2 * β + 4 * u - 2 * β - 2 * β * (2 * β) - 1) = 4 * (u - β - β * β) := by grind
  have e2 : ((4 * k + 1) * (1 - 2 * β + 4 * u) - (4 * k + 1) * (2 * β) - (4 * k + 1) * (2 * β) * ((4 * k + 1) * (2 * β)) - 1) =
      4 * (k + u - β - β * β + 4 * (k * u - k * β - 4 * (k * k) * (β * β) - 2 * k * (β * β))) := by grind
  rw [e1, e2]
  generalize β * β = z
  generalize k * u - k * β - 4 * (k * k) * z - 2 * k * z = z'
  omega
end
end FS
namespace FS
open G Classical

/-! what the program computes, as plain functions -/
/-- the nearest integer -/
def near (x n : Int) : Int := (2 * x + n - 1) / (2 * n)
def quo (a m : G) : G := ⟨near (a * conj m).re (norm m), near (a * conj m).im (norm m)⟩
def rst (a m : G) : G := a - m * quo a m
def halve (z : G) : G := ⟨(z.re + z.im) / 2, (z.im - z.re) / 2⟩
def turnBack (z : G) : G := ⟨z.im, -z.re⟩
def primB (z : G) : Bool := z.im % 2 == 0 && (z.re + z.im) % 4 == 1
def chg (m : G) (times power : Int) (l : G) : Int :=
  (times * ((m.re - m.im - m.im * m.im - 1) / 4) + power * ((norm m - 1) / 4) +
    (if (norm m - 1) / 4 % 2 = 1 ∧ (norm l - 1) / 4 % 2 = 1 then 2 else 0)) % 4

theorem near_spec {x n : Int} (hn : 0 < n) : -n < 2 * (n * near x n) - 2 * x ∧ 2 * (n * near x n) - 2 * x < n ∨ 2 * (x - n * near x n) = n := by
  unfold near
  have h1 := Int.emod_add_mul_ediv (2 * x + n - 1) (2 * n)
  have h2 := Int.emod_nonneg (2 * x + n - 1) (show 2 * n ≠ 0 by omega)
  have h3 := Int.emod_lt_of_pos (2 * x + n - 1) (show 0 < 2 * n by omega)
  generalize (2 * x + n - 1) / (2 * n) = t at *
  have h4 : 2 * n * t = 2 * (n * t) := by grind
  omega
theorem rst_cong (a m : G) : Cong m a (rst a m) := ⟨quo a m, by unfold rst; grind⟩
theorem rst_norm {a m : G} (hm : m ≠ 0) : 2 * norm (rst a m) ≤ norm m := by
  have hN := norm_pos hm
  have hr := near_spec (x := (a * conj m).re) hN
  have hi := near_spec (x := (a * conj m).im) hN
  have e : rst a m * conj m = ⟨(a * conj m).re - norm m * near (a * conj m).re (norm m), (a * conj m).im - norm m * near (a * conj m).im (norm m)⟩ := by
    have : rst a m * conj m = a * conj m - (m * conj m) * quo a m := by unfold rst; grind
    rw [this, mul_conj]; apply G.ext <;> simp [quo]
  generalize (a * conj m) = w at *
  generalize near w.re (norm m) = p at *
  generalize near w.im (norm m) = t at *
  have e2 : norm (rst a m) * norm m = (w.re - norm m * p) * (w.re - norm m * p) + (w.im - norm m * t) * (w.im - norm m * t) := by
    have h1 : norm (rst a m) * norm (conj m) = norm (rst a m) * norm m := by rw [norm_conj]
    rw [← h1, ← norm_mul, e]; rfl
  generalize hX : w.re - norm m * p = X at *
  generalize hY : w.im - norm m * t = Y at *
  generalize norm m = N at *
  have b1 : 4 * (X * X) ≤ N * N := by
    have := Int.mul_nonneg (show 0 ≤ N - 2 * X by omega) (show 0 ≤ N + 2 * X by omega); grind
  have b2 : 4 * (Y * Y) ≤ N * N := by
    have := Int.mul_nonneg (show 0 ≤ N - 2 * Y by omega) (show 0 ≤ N + 2 * Y by omega); grind
  have : 2 * norm (rst a m) * N ≤ N * N := by
    have : 2 * norm (rst a m) * N = 2 * (norm (rst a m) * N) := by grind
    omega
  exact Int.le_of_mul_le_mul_right this hN
theorem sq_mod2 (x : Int) : (x * x) % 2 = x % 2 := by
  obtain ⟨w, hw⟩ := sq_par x; omega
theorem norm_mod2 (z : G) : norm z % 2 = (z.re + z.im) % 2 := by
  have h1 := sq_mod2 z.re
  have h2 := sq_mod2 z.im
  unfold norm; omega
theorem halve_mul {z : G} (h : norm z % 2 = 0) : z = E * halve z := by
  rw [norm_mod2] at h
  apply G.ext <;> simp [E, halve] <;> omega
theorem halve_norm {z : G} (h : norm z % 2 = 0) : norm z = 2 * norm (halve z) := by
  conv => lhs; rw [halve_mul h, norm_mul]
  rfl
theorem turnBack_mul (z : G) : z = I * turnBack z := by
  apply G.ext <;> simp [turnBack]
theorem turnBack_norm (z : G) : norm (turnBack z) = norm z := by
  unfold turnBack norm; simp only; grind
theorem primB_iff {z : G} : primB z = true ↔ Prim z := by
  unfold primB Prim
  simp only [Bool.and_eq_true, beq_iff_eq]
/-- how many turns are left -/
def turns (z : G) : Nat :=
  if z.im % 2 = 0 then (if (z.re + z.im) % 4 = 1 then 0 else 2) else (if (z.im - z.re) % 4 = 1 then 1 else 3)
theorem turns_down {z : G} (h : norm z % 2 = 1) (hp : primB z = false) : turns (turnBack z) < turns z := by
  rw [norm_mod2] at h
  have hp' : ¬ (z.im % 2 = 0 ∧ (z.re + z.im) % 4 = 1) := by
    intro hh
    have := primB_iff.mpr hh
    rw [this] at hp; simp at hp
  unfold turns turnBack
  simp only
  repeat' split
  all_goals omega

noncomputable section
theorem J_E_pow {m : G} (hm : Prim m) {l : G} (hl : Cop l m) (t : Nat) :
    J (E ^ t * l) m = ((t : Int) * ((m.re - m.im - m.im * m.im - 1) / 4) + J l m) % 4 ∧ Cop (E ^ t * l) m := by
  have hO := hm.od
  induction t with
  | zero =>
    have e : E ^ 0 * l = l := by show 1 * l = l; grind
    rw [e]
    refine ⟨?_, hl⟩
    have := J_range l m
    simp; omega
  | succ t ih =>
    have e : E ^ (t + 1) * l = E * (E ^ t * l) := by show (E ^ t * E) * l = _; grind
    rw [e]
    refine ⟨?_, (E_cop hO).mul_left ih.2⟩
    rw [J_mul hO (E_cop hO) ih.2, ih.1, J_E hm]
    generalize (m.re - m.im - m.im * m.im - 1) / 4 = x
    have : ((t + 1 : Nat) : Int) * x = t * x + x := by push_cast; grind
    rw [this]; omega
theorem J_I_pow {m : G} (hO : Od m) {l : G} (hl : Cop l m) (t : Nat) :
    J (I ^ t * l) m = ((t : Int) * q m + J l m) % 4 ∧ Cop (I ^ t * l) m := by
  induction t with
  | zero =>
    have e : I ^ 0 * l = l := by show 1 * l = l; grind
    rw [e]
    refine ⟨?_, hl⟩
    have := J_range l m
    simp; omega
  | succ t ih =>
    have e : I ^ (t + 1) * l = I * (I ^ t * l) := by show (I ^ t * I) * l = _; grind
    rw [e]
    refine ⟨?_, (I_cop m).mul_left ih.2⟩
    rw [J_mul hO (I_cop m) ih.2, ih.1, J_I hO]
    have : ((t + 1 : Nat) : Int) * q m = t * q m + q m := by push_cast; grind
    rw [this]; omega
theorem E_pow_cop {m : G} (hO : Od m) (t : Nat) : Cop (E ^ t) m := by
  induction t with
  | zero => exact one_cop m
  | succ t ih => exact ih.mul_left (E_cop hO)
theorem I_pow_cop (m : G) (t : Nat) : Cop (I ^ t) m := by
  induction t with
  | zero => exact one_cop m
  | succ t ih => exact ih.mul_left (I_cop m)
/-- what the steps keep -/
structure Kept (a b f s : G) (tot : Int) : Prop where
  prim : Prim s
  cop : Cop f s ↔ Cop a b
  val : Cop a b → (tot + J f s) % 4 = J a b
/-- one step -/
theorem Kept.step {a b f s l : G} {tot : Int} {t p : Nat} (h : Kept a b f s tot)
    (hr : rst f s = E ^ t * (I ^ p * l)) (hl : Prim l) : Kept a b s l (tot + chg s t p l) := by
  have hO := h.prim.od
  have cg := rst_cong f s
  have c1 : Cop f s ↔ Cop l s := by
    constructor
    · intro hh
      have := hh.of_cong cg
      rw [hr] at this
      exact this.of_dv_left ⟨E ^ t * I ^ p, by grind⟩
    · intro hh
      have := (E_pow_cop hO t).mul_left ((I_pow_cop s p).mul_left hh)
      rw [← hr] at this
      exact this.of_cong cg.symm
  refine ⟨hl, ?_, ?_⟩
  · rw [← h.cop, c1]; exact ⟨Cop.symm, Cop.symm⟩
  · intro hab
    have hls := c1.mp (h.cop.mpr hab)
    have v := h.val hab
    rw [J_cong hO cg, hr] at v
    have e1 := J_I_pow hO hls p
    have e2 := J_E_pow h.prim e1.2 t
    rw [e2.1, e1.1, recip hl h.prim hls] at v
    rw [← v]
    unfold chg
    have q1 : (norm s - 1) / 4 = q s := rfl
    have q2 : (norm l - 1) / 4 = q l := rfl
    rw [q1, q2]
    generalize (s.re - s.im - s.im * s.im - 1) / 4 = x
    generalize (t : Int) * x = y1
    generalize (p : Int) * q s = y2
    have : ∃ w, 2 * (q l * q s) = 4 * w + (if q s % 2 = 1 ∧ q l % 2 = 1 then 2 else 0) := by
      by_cases h1 : q s % 2 = 1
      · by_cases h2 : q l % 2 = 1
        · obtain ⟨u, hu⟩ : ∃ u, q s = 2 * u + 1 := ⟨q s / 2, by omega⟩
          obtain ⟨v, hv⟩ : ∃ v, q l = 2 * v + 1 := ⟨q l / 2, by omega⟩
          rw [if_pos ⟨h1, h2⟩, hu, hv]; exact ⟨2 * (u * v) + u + v, by grind⟩
        · obtain ⟨v, hv⟩ : ∃ v, q l = 2 * v := ⟨q l / 2, by omega⟩
          rw [if_neg (by omega), hv]; exact ⟨v * q s, by grind⟩
      · obtain ⟨u, hu⟩ : ∃ u, q s = 2 * u := ⟨q s / 2, by omega⟩
        rw [if_neg (by omega), hu]; exact ⟨q l * u, by grind⟩
    obtain ⟨w, hw⟩ := this
    rw [hw]; omega
theorem dv_of_rst_zero {f s : G} (h : rst f s = 0) : Dv s f := by
  have := rst_cong f s
  rw [h] at this
  exact cong_zero.mp this
theorem norm_one_cop {f s : G} (h : norm s = 1) : Cop f s := ⟨0, conj s, by rw [mul_conj, h]; show f * 0 + 1 = 1; grind⟩
theorem norm_one_of_cop {f s : G} (hd : Dv s f) (hc : Cop f s) : norm s = 1 := by
  obtain ⟨u, rfl⟩ := hd
  obtain ⟨x, y, h⟩ := hc
  have : s * (u * x + y) = 1 := by grind
  have e := congrArg norm this
  rw [norm_mul] at e
  exact Int.eq_one_of_mul_eq_one_right (norm_nonneg s) e
/-- the symbol, None where it is none -/
def symV (a b : G) : Option Int := if Cop a b then some (J a b) else none
/-- at the end -/
theorem Kept.done {a b f s : G} {tot : Int} (h : Kept a b f s tot) (hr : rst f s = 0) :
    symV a b = if norm s = 1 then some (tot % 4) else none := by
  have hd := dv_of_rst_zero hr
  unfold symV
  by_cases h1 : norm s = 1
  · rw [if_pos h1]
    have hc := h.cop.mp (norm_one_cop h1)
    rw [if_pos hc]
    have := h.val hc
    rw [J_unit h1] at this
    rw [← this]; congr 1; omega
  · rw [if_neg h1, if_neg]
    intro hc
    exact h1 (norm_one_of_cop hd (h.cop.mpr hc))
theorem Cong_I_pow {m z w : G} (p : Nat) : Cong m z w ↔ Cong (I ^ p * m) z w := by
  induction p with
  | zero => have : I ^ 0 * m = m := by show 1 * m = m; grind
            rw [this]
  | succ p ih =>
    have e : I ^ (p + 1) * m = I * (I ^ p * m) := by show (I ^ p * I) * m = _; grind
    rw [ih, Cong_I, e]
theorem Od.I_pow_mul {m : G} (h : Od m) (p : Nat) : Od (I ^ p * m) := by
  induction p with
  | zero => have : I ^ 0 * m = m := by show 1 * m = m; grind
            rw [this]; exact h
  | succ p ih =>
    have e : I ^ (p + 1) * m = I * (I ^ p * m) := by show (I ^ p * I) * m = _; grind
    rw [e]; exact ih.I_mul
theorem I_pow_four (p : Nat) : ∃ j : Nat, I ^ p * I ^ j = 1 := by
  induction p with
  | zero => exact ⟨0, rfl⟩
  | succ p ih =>
    obtain ⟨j, hj⟩ := ih
    refine ⟨j + 3, ?_⟩
    have e1 : I ^ (p + 1) = I ^ p * I := rfl
    have e2 : I ^ (j + 3) = I ^ j * I * I * I := rfl
    have : I * I = -1 := I_mul_I
    rw [e1, e2]; grind
theorem cop_I_pow {a m : G} (p : Nat) : Cop a (I ^ p * m) ↔ Cop a m := by
  constructor
  · exact fun h => h.of_dv ⟨I ^ p, by grind⟩
  · intro h
    obtain ⟨j, hj⟩ := I_pow_four p
    exact h.of_dv ⟨I ^ j, by
      have : I ^ p * m * I ^ j = (I ^ p * I ^ j) * m := by grind
      rw [this, hj]; grind⟩
theorem symV_I_pow {a m : G} (hO : Od m) (p : Nat) : symV a (I ^ p * m) = symV a m := by
  unfold symV
  by_cases h : Cop a m
  · rw [if_pos h, if_pos ((cop_I_pow p).mpr h), J_kin hO (hO.I_pow_mul p) h (fun z w => Cong_I_pow p)]
  · rw [if_neg h, if_neg (fun hh => h ((cop_I_pow p).mp hh))]
/-- at the start -/
theorem Kept.start {a b s : G} {p : Nat} (hb : b = I ^ p * s) (hs : Prim s) : Kept a b a s 0 := by
  subst hb
  refine ⟨hs, (cop_I_pow p).symm, fun hc => ?_⟩
  have hc' := (cop_I_pow p).mp hc
  rw [J_kin hs.od (hs.od.I_pow_mul p) hc' (fun z w => Cong_I_pow p)]
  have := J_range a s
  omega
end
end FS
namespace FS
open G Classical

theorem I_pow_mod (k : Nat) : I ^ k = I ^ (k % 4) := by
  have h4 : ∀ j : Nat, I ^ (j + 4) = I ^ j := by
    intro j
    have e2 : I ^ (j + 4) = I ^ j * I * I * I * I := rfl
    have : I * I = -1 := I_mul_I
    rw [e2]; grind
  induction k using Nat.strongRecOn with
  | _ k ih =>
    by_cases h : k < 4
    · rw [Nat.mod_eq_of_lt h]
    · have e : k = (k - 4) + 4 := by omega
      rw [e, h4, ih (k - 4) (by omega)]
      congr 1; omega
theorem pow_add (a : G) (k l : Nat) : a ^ (k + l) = a ^ k * a ^ l := by
  induction l with
  | zero => show a ^ k = a ^ k * 1; grind
  | succ l ih =>
    have e1 : a ^ (k + (l + 1)) = a ^ (k + l) * a := rfl
    have e2 : a ^ (l + 1) = a ^ l * a := rfl
    rw [e1, e2, ih]; grind

/-- a product -/
def PR (L : List G) : G := L.foldr (· * ·) 1
theorem PR_cons (a : G) (L : List G) : PR (a :: L) = a * PR L := rfl
theorem PR_perm {L M : List G} (h : L.Perm M) : PR L = PR M := by
  induction h with
  | nil => rfl
  | cons a _ ih => rw [PR_cons, PR_cons, ih]
  | swap a b l => simp only [PR_cons]; grind
  | trans _ _ h1 h2 => exact h1.trans h2
theorem PR_mul (a : G) (L : List G) : PR (L.map (fun r => a * r)) = a ^ L.length * PR L := by
  induction L with
  | nil => show (1 : G) = a ^ 0 * 1; show (1 : G) = 1 * 1; grind
  | cons x L ih =>
    rw [List.map_cons, PR_cons, PR_cons, ih, List.length_cons]
    have : a ^ (L.length + 1) = a ^ L.length * a := rfl
    rw [this]; grind
theorem PR_cop {m : G} {L : List G} (h : ∀ r ∈ L, Cop r m) : Cop (PR L) m := by
  induction L with
  | nil => exact one_cop m
  | cons x L ih => exact (h x (by simp)).mul_left (ih (fun r hr => h r (by simp [hr])))
theorem PR_I {m : G} {L : List G} {f : G → Nat} {g h : G → G} (e : ∀ r ∈ L, Cong m (g r) (I ^ f r * h r)) :
    Cong m (PR (L.map g)) (I ^ (L.map f).sum * PR (L.map h)) := by
  induction L with
  | nil => exact Cong.of_eq (by show (1 : G) = 1 * 1; grind)
  | cons x L ih =>
    rw [List.map_cons, List.map_cons, List.map_cons, PR_cons, PR_cons, List.sum_cons, pow_add]
    have := (e x (by simp)).mul (ih (fun r hr => e r (by simp [hr])))
    exact this.trans (Cong.of_eq (by grind))

noncomputable section
/-- what pairs it does not divide are coprime to it -/
def PP (p : G) : Prop := ∀ z, ¬ Dv p z → Cop z p
def RR (m : G) : List G := (C m).filter (fun z => decide (¬ Dv m z ∧ fc m z = 0))
theorem mem_RR {m z : G} : z ∈ RR m ↔ z ∈ C m ∧ ¬ Dv m z ∧ fc m z = 0 := by
  unfold RR; rw [List.mem_filter]; simp only [decide_eq_true_eq]
theorem fc_I_pow {m : G} (hm : Od m) (z : G) (hz : ¬ Dv m z) (k : Nat) : fc m (I ^ k * z) % 4 = (fc m z + k) % 4 ∧ ¬ Dv m (I ^ k * z) := by
  induction k with
  | zero =>
    have : I ^ 0 * z = z := by show 1 * z = z; grind
    rw [this]; exact ⟨by simp, hz⟩
  | succ k ih =>
    have e : I ^ (k + 1) * z = I * (I ^ k * z) := by show (I ^ k * I) * z = _; grind
    rw [e]
    have := (fc_eqv hm).rot _ ih.2
    exact ⟨by rw [this]; omega, fun h => ih.2 (Dv_I.mp h)⟩
theorem RR_uniq {m r r' : G} {k : Nat} (hm : Od m) (h : r ∈ RR m) (h' : r' ∈ RR m) (e : Cong m (I ^ k * r) r') : r = r' := by
  rw [mem_RR] at h h'
  have h1 := (fc_I_pow hm r h.2.1 k).1
  rw [fc_per hm e, h.2.2, h'.2.2] at h1
  have : I ^ k * r = r := by
    rw [I_pow_mod, show k % 4 = 0 by omega]; show 1 * r = r; grind
  rw [this] at e
  exact (C_crs hm).inc r h.1 r' h'.1 e
theorem rep_exists {m z : G} (hm : Od m) (hz : ¬ Dv m z) : ∃ r, r ∈ RR m ∧ ∃ k : Nat, Cong m (I ^ k * z) r ∧ ((k : Int) + fc m z) % 4 = 0 := by
  have hr := fc_range m z
  have h1 := fc_I_pow hm z hz (4 - fc m z).toNat
  obtain ⟨r, hr1, hr2⟩ := (C_crs hm).cov (I ^ (4 - fc m z).toNat * z)
  refine ⟨r, mem_RR.mpr ⟨hr1, fun h => h1.2 (hr2.dv_iff.mpr h), ?_⟩, _, hr2, by omega⟩
  have := fc_per hm hr2
  have := fc_range m r
  omega
theorem sum_mod4 {L : List G} {f : G → Nat} {g : G → Int} (h : ∀ r ∈ L, (f r : Int) = g r) : (((L.map f).sum : Nat) : Int) = S L g := by
  induction L with
  | nil => rfl
  | cons x L ih =>
    rw [List.map_cons, List.sum_cons, S_cons, ← ih (fun r hr => h r (by simp [hr])), ← h x (by simp)]; push_cast; rfl
/-- Gauss -/
theorem euler {p a : G} (hp : Od p) (hP : PP p) (ha : Cop a p) : Cong p (a ^ (q p).toNat) (I ^ (J a p).toNat) := by
  have nd : ∀ r ∈ RR p, ¬ Dv p (a * r) := fun r hr h => (mem_RR.mp hr).2.1 (ha.dv_of_dv_mul h)
  let φ : G → G := fun r => if h : ¬ Dv p (a * r) then Classical.choose (rep_exists hp h) else 0
  have hφ : ∀ r ∈ RR p, φ r ∈ RR p ∧ ∃ k : Nat, Cong p (I ^ k * (a * r)) (φ r) ∧ ((k : Int) + fc p (a * r)) % 4 = 0 := by
    intro r hr
    have e : φ r = Classical.choose (rep_exists hp (nd r hr)) := by
      show (if h : ¬ Dv p (a * r) then Classical.choose (rep_exists hp h) else 0) = _
      rw [dif_pos (nd r hr)]
    rw [e]
    exact Classical.choose_spec (rep_exists hp (nd r hr))
  have perm : ((RR p).map φ).Perm (RR p) := by
    apply perm_of_bij ((C_crs hp).nodup.filter _) ((C_crs hp).nodup.filter _) φ (fun r hr => (hφ r hr).1)
    · intro r hr r' hr' e
      obtain ⟨_, k, h1, _⟩ := hφ r hr
      obtain ⟨_, k', h1', _⟩ := hφ r' hr'
      rw [e] at h1
      have h2 := h1.trans h1'.symm
      have h3 : Cong p (a * (I ^ k * r)) (a * (I ^ k' * r')) := by
        have e1 : I ^ k * (a * r) = a * (I ^ k * r) := by grind
        have e2 : I ^ k' * (a * r') = a * (I ^ k' * r') := by grind
        rw [e1, e2] at h2; exact h2
      have h4 := ha.cong_of_cong_mul h3
      obtain ⟨j, hj⟩ := I_pow_four k'
      have h5 := h4.mul_left (I ^ j)
      have e3 : I ^ j * (I ^ k' * r') = r' := by
        have : I ^ j * (I ^ k' * r') = (I ^ k' * I ^ j) * r' := by grind
        rw [this, hj]; grind
      have e4 : I ^ j * (I ^ k * r) = I ^ (j + k) * r := by rw [pow_add]; grind
      rw [e3, e4] at h5
      exact RR_uniq hp hr hr' h5
    · intro w hw
      obtain ⟨c, hc, hac⟩ := ha.inv
      have ndc : ¬ Dv p (c * w) := fun h => (mem_RR.mp hw).2.1 (hc.dv_of_dv_mul h)
      obtain ⟨r, hr, k, hk, _⟩ := rep_exists hp ndc
      refine ⟨r, hr, ?_⟩
      obtain ⟨h0, k', hk', _⟩ := hφ r hr
      symm
      apply RR_uniq hp hw h0 (k := k' + k)
      refine Cong.trans ?_ hk'
      have h1 := (hk.mul_left (I ^ k' * a))
      have e1 : I ^ k' * a * r = I ^ k' * (a * r) := by grind
      have e2 : I ^ k' * a * (I ^ k * (c * w)) = (a * c) * (I ^ (k' + k) * w) := by rw [pow_add]; grind
      rw [e1, e2] at h1
      have h2 := hac.mul_right (I ^ (k' + k) * w)
      have e3 : 1 * (I ^ (k' + k) * w) = I ^ (k' + k) * w := by grind
      rw [e3] at h2
      exact h2.symm.trans h1
  have key : Cong p (PR ((RR p).map (fun r => a * r))) (I ^ ((RR p).map (fun r => (fc p (a * r)).toNat)).sum * PR ((RR p).map φ)) := by
    apply PR_I
    intro r hr
    obtain ⟨_, k, h1, h2⟩ := hφ r hr
    have h3 := h1.mul_left (I ^ (fc p (a * r)).toNat)
    have e : I ^ (fc p (a * r)).toNat * (I ^ k * (a * r)) = a * r := by
      have : I ^ (fc p (a * r)).toNat * (I ^ k * (a * r)) = I ^ ((fc p (a * r)).toNat + k) * (a * r) := by rw [pow_add]; grind
      rw [this, I_pow_mod]
      have hr2 := fc_range p (a * r)
      rw [show ((fc p (a * r)).toNat + k) % 4 = 0 by omega]
      show 1 * (a * r) = _; grind
    rw [e] at h3
    exact h3
  rw [PR_mul, PR_perm perm] at key
  have hlen : (RR p).length = (q p).toNat := by
    have h1 := sel_count hp (C_crs hp) (fc_eqv hp) 1
    have h2 : ((RR p).length : Int) = S (C p) (sel p (fc p) (fun _ => 1)) := by
      have := S_const 1 (RR p)
      rw [Int.mul_one] at this
      rw [← this]
      unfold RR
      rw [S_filter]
      apply S_congr
      intro z _
      have := fc_mod p z
      unfold sel
      simp only [decide_eq_true_eq]
      by_cases hd : Dv p z
      · simp [hd]
      · simp only [hd, not_false_eq_true, true_and, if_false, this]
    omega
  have hJ : J a p = S (RR p) (fun r => fc p (a * r)) % 4 := by
    rw [J_sum hp ha (fc_eqv hp) (C_crs hp)]
    congr 1
    unfold RR
    rw [S_filter]
    apply S_congr
    intro z _
    have := fc_mod p z
    unfold sel
    simp only [decide_eq_true_eq]
    by_cases hd : Dv p z
    · simp [hd]
    · simp only [hd, not_false_eq_true, true_and, if_false, this]
  have hI : I ^ ((RR p).map (fun r => (fc p (a * r)).toNat)).sum = I ^ (J a p).toNat := by
    rw [I_pow_mod]
    congr 1
    have := sum_mod4 (L := RR p) (f := fun r => (fc p (a * r)).toNat) (g := fun r => fc p (a * r))
      (fun r _ => by have := fc_range p (a * r); omega)
    omega
  rw [hlen, hI] at key
  have hc : Cop (PR (RR p)) p := PR_cop (fun r hr => hP r (mem_RR.mp hr).2.1)
  apply hc.cong_of_cong_mul
  have e1 : PR (RR p) * a ^ (q p).toNat = a ^ (q p).toNat * PR (RR p) := by grind
  have e2 : PR (RR p) * I ^ (J a p).toNat = I ^ (J a p).toNat * PR (RR p) := by grind
  rw [e1, e2]; exact key
end

/-! what the law reckons -/
def lrest (a m : G) : G := a - m * ⟨(a * conj m).re / norm m, (a * conj m).im / norm m⟩
theorem lrest_cong (a m : G) : Cong m a (lrest a m) :=
  ⟨⟨(a * conj m).re / norm m, (a * conj m).im / norm m⟩, by unfold lrest; grind⟩
theorem lrest_zero {a m : G} (hm : m ≠ 0) : lrest a m = 0 ↔ Dv m a := by
  constructor
  · intro h
    have := lrest_cong a m
    rw [h] at this
    exact cong_zero.mp this
  · rintro ⟨t, rfl⟩
    have hN := norm_pos hm
    have e : m * t * conj m = (norm m : G) * t := by rw [← mul_conj]; grind
    unfold lrest
    rw [e, int_mul_re, int_mul_im, Int.mul_ediv_cancel_left _ (by omega), Int.mul_ediv_cancel_left _ (by omega)]
    have : (⟨t.re, t.im⟩ : G) = t := rfl
    rw [this]; grind
def lpow (f p : G) : Nat → G
  | 0 => 1
  | k + 1 => lrest (lpow f p k * f) p
theorem lpow_cong (f p : G) (k : Nat) : Cong p (f ^ k) (lpow f p k) := by
  induction k with
  | zero => exact Cong.refl p 1
  | succ k ih =>
    have e : f ^ (k + 1) = f ^ k * f := rfl
    rw [e]
    exact (ih.mul_right f).trans (lrest_cong _ _)
/-- the power of i that is left; 9 for none -/
def lfind (g p : G) : Int :=
  if lrest (g - 1) p = 0 then 0 else if lrest (g - I) p = 0 then 1 else if lrest (g - -1) p = 0 then 2
  else if lrest (g - ⟨0, -1⟩) p = 0 then 3 else 9
def lpi (a p : G) : Option Int :=
  if lrest a p = 0 then none else some (lfind (lpow (lrest a p) p ((norm p - 1) / 4).toNat) p)
theorem cong_pow {m z w : G} (h : Cong m z w) (k : Nat) : Cong m (z ^ k) (w ^ k) := by
  induction k with
  | zero => exact Cong.refl m _
  | succ k ih => exact ih.mul h
/-- unlike powers of i leave unlike rests -/
theorem I_pow_apart {p : G} (hp : Od p) (h1 : norm p ≠ 1) {j k : Nat} (hj : j < 4) (hk : k < 4) (h : Cong p (I ^ j) (I ^ k)) : j = k := by
  -- p divides I^j - I^k, whose norm is 0, 2 or 4
  apply Decidable.byContradiction
  intro hne
  have hd : Dv p (I ^ j - I ^ k) := by obtain ⟨t, ht⟩ := h; exact ⟨t, ht⟩
  have hn := hd.norm_dvd
  have hpos := hp.pos
  have key : norm (I ^ j - I ^ k) = 2 ∨ norm (I ^ j - I ^ k) = 4 := by
    have : j = 0 ∨ j = 1 ∨ j = 2 ∨ j = 3 := by omega
    have : k = 0 ∨ k = 1 ∨ k = 2 ∨ k = 3 := by omega
    rcases ‹j = 0 ∨ j = 1 ∨ j = 2 ∨ j = 3› with rfl | rfl | rfl | rfl <;>
      rcases ‹k = 0 ∨ k = 1 ∨ k = 2 ∨ k = 3› with rfl | rfl | rfl | rfl <;>
      first
        | exact absurd rfl hne
        | exact Or.inl rfl
        | exact Or.inr rfl
  have ho : norm p % 2 = 1 := hp
  obtain ⟨c, hc⟩ := hn
  have hle : norm p ≤ 4 := by
    rcases key with h | h <;> rw [h] at hc
    · exact Int.le_of_dvd (by omega) ⟨2 * c, by grind⟩
    · exact Int.le_of_dvd (by omega) ⟨c, hc⟩
  have h3 : norm p = 3 := by omega
  rw [h3] at hc; omega
theorem J_toNat_lt (a p : G) : (J a p).toNat < 4 := by have := J_range a p; omega
theorem lfind_eq {g p : G} (hp : Od p) (h1 : norm p ≠ 1) {j : Nat} (hj : j < 4) (h : Cong p g (I ^ j)) : lfind g p = j := by
  have t : ∀ k, k < 4 → (lrest (g - I ^ k) p = 0 ↔ j = k) := by
    intro k hk
    rw [lrest_zero hp.ne_zero]
    constructor
    · rintro ⟨t, ht⟩
      have : Cong p g (I ^ k) := ⟨t, ht⟩
      exact I_pow_apart hp h1 hj hk (h.symm.trans this)
    · rintro rfl; obtain ⟨t, ht⟩ := h; exact ⟨t, ht⟩
  have t0 := t 0 (by omega)
  have t1 := t 1 (by omega)
  have t2 := t 2 (by omega)
  have t3 := t 3 (by omega)
  have e0 : I ^ 0 = 1 := rfl
  have e1 : I ^ 1 = I := rfl
  have e2 : I ^ 2 = -1 := rfl
  have e3 : I ^ 3 = ⟨0, -1⟩ := rfl
  rw [e0] at t0; rw [e1] at t1; rw [e2] at t2; rw [e3] at t3
  unfold lfind
  simp only [t0, t1, t2, t3]
  have : j = 0 ∨ j = 1 ∨ j = 2 ∨ j = 3 := by omega
  rcases this with rfl | rfl | rfl | rfl <;> simp
theorem lpi_eq {a p : G} (hp : Od p) (h1 : norm p ≠ 1) (hP : PP p) : lpi a p = if Dv p a then none else some (J a p) := by
  unfold lpi
  by_cases hd : Dv p a
  · rw [if_pos hd, if_pos ((lrest_zero hp.ne_zero).mpr hd)]
  · rw [if_neg hd, if_neg (fun h => hd ((lrest_zero hp.ne_zero).mp h))]
    congr 1
    have hq : (norm p - 1) / 4 = q p := rfl
    rw [hq, lfind_eq hp h1 (J_toNat_lt a p)]
    · have := J_range a p; omega
    · exact (lpow_cong _ _ _).symm.trans ((cong_pow (lrest_cong a p).symm _).trans (euler hp hP (hP a hd)))
/-- due by several prime pairs -/
def lsum : List (Option Int) → Option Int
  | [] => some 0
  | none :: _ => none
  | some x :: L => match lsum L with | none => none | some y => some (x + y)
def ldue (a : G) (ps : List G) : Option Int := (lsum (ps.map (lpi a))).map (· % 4)
structure GP (p : G) : Prop where
  od : Od p
  big : norm p ≠ 1
  pp : PP p
noncomputable section
theorem PR_od {ps : List G} (h : ∀ p ∈ ps, GP p) : Od (PR ps) := by
  induction ps with
  | nil => rfl
  | cons p ps ih => exact (h p (by simp)).od.mul (ih (fun r hr => h r (by simp [hr])))
theorem cop_not_dv {a p : G} (hp : Od p) (h1 : norm p ≠ 1) (h : Cop a p) : ¬ Dv p a := fun hd => h1 (norm_one_of_cop hd h)
theorem lsum_eq {a : G} {ps : List G} (h : ∀ p ∈ ps, GP p) :
    if Cop a (PR ps) then ∃ x, lsum (ps.map (lpi a)) = some x ∧ x % 4 = J a (PR ps) else lsum (ps.map (lpi a)) = none := by
  induction ps with
  | nil =>
    rw [if_pos (show Cop a (PR []) from cop_one a)]
    exact ⟨0, rfl, (J_unit rfl).symm⟩
  | cons p ps ih =>
    have hp := h p (by simp)
    have hps : ∀ p ∈ ps, GP p := fun r hr => h r (by simp [hr])
    have ih := ih hps
    rw [List.map_cons, lpi_eq hp.od hp.big hp.pp, PR_cons]
    by_cases hd : Dv p a
    · rw [if_pos hd, if_neg]
      · rfl
      · intro hc; exact cop_not_dv hp.od hp.big (hc.of_dv ⟨PR ps, rfl⟩) hd
    · rw [if_neg hd]
      have hcp := hp.pp a hd
      by_cases hc : Cop a (PR ps)
      · rw [if_pos hc] at ih
        obtain ⟨x, hx, hx2⟩ := ih
        rw [if_pos (hcp.mul_right hc)]
        refine ⟨J a p + x, ?_, ?_⟩
        · show (match lsum (ps.map (lpi a)) with | none => none | some y => some (J a p + y)) = _
          rw [hx]
        · rw [J_mul_right hp.od (PR_od hps) hcp hc]; omega
      · rw [if_neg hc] at ih
        rw [if_neg (fun hh => hc (hh.of_dv ⟨p, by grind⟩))]
        show (match lsum (ps.map (lpi a)) with | none => none | some y => some (J a p + y)) = _
        rw [ih]
theorem ldue_eq {a : G} {ps : List G} (h : ∀ p ∈ ps, GP p) : ldue a ps = symV a (PR ps) := by
  have := lsum_eq (a := a) h
  unfold ldue symV
  by_cases hc : Cop a (PR ps)
  · rw [if_pos hc] at this ⊢
    obtain ⟨x, hx, hx2⟩ := this
    rw [hx, ← hx2]; rfl
  · rw [if_neg hc] at this ⊢
    rw [this]; rfl
/-- a unit in the second place -/
theorem symV_unit_mul {a m u : G} (hm : Od m) (hu : ∃ k : Nat, u = I ^ k) : symV a (u * m) = symV a m := by
  obtain ⟨k, rfl⟩ := hu; exact symV_I_pow hm k
end
/-! prime pairs -/
theorem norm_mod4 (z : G) : norm z % 4 ≠ 3 := by
  obtain ⟨w, hw⟩ := sq_par z.re
  obtain ⟨v, hv⟩ := sq_par z.im
  unfold norm
  rcases Int.emod_two_eq z.re with h1 | h1 <;> rcases Int.emod_two_eq z.im with h2 | h2
  · obtain ⟨a, ha⟩ : ∃ a, z.re = 2 * a := ⟨z.re / 2, by omega⟩
    obtain ⟨b, hb⟩ : ∃ a, z.im = 2 * a := ⟨z.im / 2, by omega⟩
    rw [ha, hb]; have : 2 * a * (2 * a) + 2 * b * (2 * b) = 4 * (a * a + b * b) := by grind
    omega
  · obtain ⟨a, ha⟩ : ∃ a, z.re = 2 * a := ⟨z.re / 2, by omega⟩
    obtain ⟨b, hb⟩ : ∃ a, z.im = 2 * a + 1 := ⟨z.im / 2, by omega⟩
    rw [ha, hb]; have : 2 * a * (2 * a) + (2 * b + 1) * (2 * b + 1) = 4 * (a * a + b * b + b) + 1 := by grind
    omega
  · obtain ⟨a, ha⟩ : ∃ a, z.re = 2 * a + 1 := ⟨z.re / 2, by omega⟩
    obtain ⟨b, hb⟩ : ∃ a, z.im = 2 * a := ⟨z.im / 2, by omega⟩
    rw [ha, hb]; have : (2 * a + 1) * (2 * a + 1) + (2 * b) * (2 * b) = 4 * (a * a + b * b + a) + 1 := by grind
    omega
  · obtain ⟨a, ha⟩ : ∃ a, z.re = 2 * a + 1 := ⟨z.re / 2, by omega⟩
    obtain ⟨b, hb⟩ : ∃ a, z.im = 2 * a + 1 := ⟨z.im / 2, by omega⟩
    rw [ha, hb]; have : (2 * a + 1) * (2 * a + 1) + (2 * b + 1) * (2 * b + 1) = 4 * (a * a + b * b + a + b) + 2 := by grind
    omega
theorem PP_of {p : G} (hp : p ≠ 0) (h : ∀ d, Dv d p → norm d = 1 ∨ norm d = norm p) : PP p := by
  intro z hz
  obtain ⟨d, s, t, h1, h2, h3⟩ := bezout z p
  have unit : ∀ e : G, norm e = 1 → e * conj e = 1 := fun e he => by rw [mul_conj, he]; rfl
  rcases h d h3 with hd | hd
  · refine ⟨s * conj d, t * conj d, ?_⟩
    have e := unit d hd
    have : z * (s * conj d) + p * (t * conj d) = (z * s + p * t) * conj d := by grind
    rw [this, h1, e]
  · exfalso
    apply hz
    obtain ⟨u, hu⟩ := h3
    have hu1 : norm u = 1 := by
      have := congrArg norm hu
      rw [norm_mul, hd] at this
      have hN := norm_pos hp
      have e : norm p * norm u = norm p * 1 := by omega
      exact Int.eq_of_mul_eq_mul_left (by omega) e
    refine Dv.trans ⟨conj u, ?_⟩ h2
    have e := unit u hu1
    rw [hu]
    have : d * u * conj u = d * (u * conj u) := by grind
    rw [this, e]; grind
theorem GP_int {n : Int} (h0 : 0 < n) (ho : n % 2 = 1) (h1 : n ≠ 1) (hd : ∀ k : Int, 0 < k → k ∣ n * n → k = 1 ∨ k % 4 = 3 ∨ k = n * n) : GP (n : G) := by
  refine ⟨int_od ho, ?_, PP_of ?_ ?_⟩
  · rw [norm_int]; intro h; exact h1 (Int.eq_one_of_mul_eq_one_right (by omega) h)
  · intro h; have := (G.ext_iff.mp h).1; simp at this; omega
  · intro d hdv
    have h2 := hdv.norm_dvd
    rw [norm_int] at h2 ⊢
    have hpos : 0 < norm d := by
      apply norm_pos; rintro rfl
      obtain ⟨t, ht⟩ := hdv
      have := (G.ext_iff.mp ht).1
      simp at this; omega
    rcases hd _ hpos h2 with h | h | h
    · exact Or.inl h
    · exact absurd h (norm_mod4 d)
    · exact Or.inr h
theorem divs {n k : Int} (hn : 0 < n) (hk : 0 < k) (h : k ∣ n) {P : Nat → Prop} (hP : ∀ j, j ≤ n.toNat → j ∣ n.toNat → P j) : P k.toNat := by
  have hle := Int.le_of_dvd hn h
  apply hP _ (by omega)
  obtain ⟨c, hc⟩ := h
  have : 0 < c := by
    rcases Int.lt_trichotomy c 0 with h | h | h
    · have := Int.mul_neg_of_pos_of_neg hk h; omega
    · subst h; simp at hc; omega
    · exact h
  refine ⟨c.toNat, ?_⟩
  have : (n.toNat : Int) = ((k.toNat * c.toNat : Nat) : Int) := by
    push_cast
    rw [Int.toNat_of_nonneg (by omega), Int.toNat_of_nonneg (by omega), Int.toNat_of_nonneg (by omega)]; exact hc
  exact_mod_cast this
theorem GP3 : GP ((3 : Int) : G) := GP_int (by omega) (by omega) (by omega) (fun k hk h => by
  have := divs (P := fun j => j = 1 ∨ j % 4 = 3 ∨ j = 9) (by omega) hk h (by decide)
  omega)
theorem GP7 : GP ((7 : Int) : G) := GP_int (by omega) (by omega) (by omega) (fun k hk h => by
  have := divs (P := fun j => j = 1 ∨ j % 4 = 3 ∨ j = 49) (by omega) hk h (by decide)
  omega)
theorem GP11 : GP ((11 : Int) : G) := GP_int (by omega) (by omega) (by omega) (fun k hk h => by
  have := divs (P := fun j => j = 1 ∨ j % 4 = 3 ∨ j = 121) (by omega) hk h (by decide)
  omega)
/-- as the law finds them -/
theorem GP_small {p : G} (h1 : 4 < norm p) (h2 : norm p < 120) (h : ∀ d : Int, 2 ≤ d → d < 11 → d * d ≤ norm p → norm p % d ≠ 0) : GP p := by
  refine ⟨?_, by omega, PP_of (by rintro rfl; simp [norm] at h1) ?_⟩
  · have := h 2 (by omega) (by omega) (by omega)
    unfold Od; omega
  · intro d hd
    obtain ⟨c, hc⟩ := hd.norm_dvd
    have hn := norm_nonneg d
    have hdpos : 0 < norm d := by
      rcases Int.lt_or_eq_of_le hn with h | h
      · exact h
      · rw [← h] at hc; omega
    have hcpos : 0 < c := by
      rcases Int.lt_trichotomy c 0 with h | h | h
      · have := Int.mul_neg_of_pos_of_neg hdpos h; omega
      · subst h; simp at hc; omega
      · exact h
    apply Decidable.byContradiction
    intro hno
    have d1 : norm d ≠ 1 := fun h => hno (Or.inl h)
    have c1 : c ≠ 1 := by rintro rfl; exact hno (Or.inr (by omega))
    -- one of both is at most 10
    rcases Int.le_total (norm d) c with hle | hle
    · have hsq : norm d * norm d ≤ norm p := by rw [hc]; exact Int.mul_le_mul_of_nonneg_left hle (by omega)
      have hlt : norm d < 11 := by
        apply Decidable.byContradiction; intro hh
        have := Int.mul_le_mul (show 11 ≤ norm d by omega) (show 11 ≤ norm d by omega) (by omega) (by omega)
        omega
      apply h (norm d) (by omega) hlt hsq
      rw [hc]; exact Int.mul_emod_right _ _
    · have hsq : c * c ≤ norm p := by rw [hc]; exact Int.mul_le_mul_of_nonneg_right hle (by omega)
      have hlt : c < 11 := by
        apply Decidable.byContradiction; intro hh
        have := Int.mul_le_mul (show 11 ≤ c by omega) (show 11 ≤ c by omega) (by omega) (by omega)
        omega
      apply h c (by omega) hlt hsq
      rw [hc]; exact Int.mul_emod_left _ _
end FS
end
/-! ## 2. The walk -/
set_option maxRecDepth 100000
set_option maxHeartbeats 4000000
namespace Toy
open PySem L2
abbrev GI := FS.G

/-! ### rules of our own -/
/-- a def of the module that can be called with positional arguments -/
structure Cal (P : Program) (w : World) (K : PySem.W.Frag) (mg : Str → Option Value) (base : Heap) (k : Nat) (x : Str) (sp : Sp) : Prop where
  out : ∃ (f : Addr) (fd : FuncData) (ps : List Str), mg x = some (.ref f) ∧ PySem.W.keepIn K (.ref f) = true ∧ Binds K fd ps [] ∧ FnOk P w K mg base CX0 k f fd ps sp
/-- a method -/
structure CalM (P : Program) (w : World) (K : PySem.W.Frag) (mg : Str → Option Value) (base : Heap) (k : Nat) (C : Addr) (m : Str) (sp : Sp) : Prop where
  out : ∃ (f : Addr) (fd : FuncData) (ps : List Str), Meth K C m f ∧ Binds K fd ps [] ∧ FnOk P w K mg base CX0 k f fd ps sp
/-- a class that is made by its __init__ -/
structure CalC (P : Program) (w : World) (K : PySem.W.Frag) (mg : Str → Option Value) (base : Heap) (k : Nat) (x : Str) (C : Addr) (sp : Sp) : Prop where
  out : ∃ (f : Addr) (fd : FuncData) (ps : List Str), mg x = some (.ref C) ∧ Mk K C f ∧ Binds K fd ps [] ∧ FnOk P w K mg base CX0 k f fd ps sp
theorem Cal.mono {P w K mg base j k x sp} (c : Cal P w K mg base j x sp) (h : j ≤ k) : Cal P w K mg base k x sp := by
  obtain ⟨f, fd, ps, a, b, d, e⟩ := c.out
  exact ⟨f, fd, ps, a, b, d, e.mono h⟩
theorem CalM.mono {P w K mg base j k C m sp} (c : CalM P w K mg base j C m sp) (h : j ≤ k) : CalM P w K mg base k C m sp := by
  obtain ⟨f, fd, ps, a, b, e⟩ := c.out
  exact ⟨f, fd, ps, a, b, e.mono h⟩
theorem CalC.mono {P w K mg base j k x C sp} (c : CalC P w K mg base j x C sp) (h : j ≤ k) : CalC P w K mg base k x C sp := by
  obtain ⟨f, fd, ps, a, b, d, e⟩ := c.out
  exact ⟨f, fd, ps, a, b, d, e.mono h⟩

def tC (sp : Sp) (t : TA) : TE := fun σ H Q => t σ H fun vs H1 => sp vs H1 Q E0
def tM (C : Addr) (m : Str) (sp : Sp) (ta : TE) (t : TA) : TE := fun σ H Q => ta σ H fun x H1 => ∃ a dx fs, x = .ref a ∧ H1 a = some (.ins C dx fs) ∧ fs.lookup m = none ∧ t σ H1 fun vs H2 => sp (x :: vs) H2 Q E0
def tMk (C : Addr) (sp : Sp) (t : TA) : TE := fun σ H Q => t σ H fun vs H1 => ∀ x dx, H1 x = none → H1 dx = none → dx ≠ x →
  sp (.ref x :: vs) (upd (upd H1 dx (.own x)) x (.ins C dx [])) (fun v H2 => v = .non ∧ Q (.ref x) H2) E0
section
variable {X : Cx} {k : Nat} {x m : Str} {C : Addr} {sp : Sp} {e o : Expr} {es : List Expr} {ta : TE} {t : TA} {p pos apos : Pos}
theorem pe_mono {e : Expr} {t t' : TE} (h : PE X e t) (i : ∀ σ H Q, t' σ H Q → t σ H Q) : PE X e t' := ⟨fun pins s σ H Q I q => h.run pins s σ H Q I (i _ _ _ q)⟩
end
section
variable {X : Cx} {k : Nat} {x m : Str} {C : Addr} {sp : Sp} {e o : Expr} {es : List Expr} {ta : TE} {t : TA} {p pos apos : Pos}
theorem pe_c (c : Cal X.prog X.w X.K X.mg X.base k x sp) (hr : Room k X.A) (hg : Gl X x) (ha : PA X (e :: es) t)
    (hdb : (x == ("__debug__" : Str)) = false := by decide) (he : starEach (e :: es) X.env = (false, eval e X.env) :: starEach es X.env := by rfl) (hpl : (backTo pos (starEach es X.env)).any (·.1) = false := by rfl) :
    PE X (.Call (.Name x p) (e :: es) [] pos) (tC sp t) := by
  obtain ⟨f, fd, ps, a, b, d, F⟩ := c.out
  refine ⟨fun pins s σ H Q I h => (pe_call F hr hg a b d .nil pass0 ha hdb he hpl).run pins s σ H Q I ?_⟩
  show t σ H fun vs H1 => sp (vs ++ []) H1 Q E0
  have : (fun vs H1 => sp (vs ++ []) H1 Q E0) = (fun vs H1 => sp vs H1 Q E0) := by funext vs H1; rw [List.append_nil]
  rw [this]; exact h
theorem pe_c0 (c : Cal X.prog X.w X.K X.mg X.base k x sp) (hr : Room k X.A) (hg : Gl X x)
    (hdb : (x == ("__debug__" : Str)) = false := by decide) : PE X (.Call (.Name x p) [] [] pos) (tC sp tNil) := by
  obtain ⟨f, fd, ps, a, b, d, F⟩ := c.out
  exact ⟨fun pins s σ H Q I h => (pe_call0 F hr hg a b d .nil pass0 hdb).run pins s σ H Q I h⟩
theorem pe_m {pl : Sem Bool} (c : CalM X.prog X.w X.K X.mg X.base k C m sp) (hr : Room k X.A) (cl : Cls X.K C) (ho : PE X o ta) (ha : PA X (e :: es) t)
    (hst : starEach (e :: es) X.env = (false, eval e X.env) :: starEach es X.env := by rfl) (hpl : (backTo pos (starEach es X.env)).any (·.1) = false := by rfl)
    (ht : eval (.Call (.Attribute o m apos) (e :: es) [] pos) X.env = (do
      let ov ← eval o X.env
      standAt apos.atName
      let (f, first) ← holding [ov] (getMethod ov m pl)
      callWith pos f first (backTo pos (starEach (e :: es) X.env)) (backToKw pos (keywordEach [] X.env))) := by rfl) :
    PE X (.Call (.Attribute o m apos) (e :: es) [] pos) (tM C m sp ta t) := by
  obtain ⟨f, fd, ps, a, b, F⟩ := c.out
  refine ⟨fun pins s σ H Q I h => (pe_meth ho cl a F hr b .nil pass0 ha hst hpl ht).run pins s σ H Q I ?_⟩
  have : ∀ x, (fun vs H1 => sp (x :: (vs ++ [])) H1 Q E0) = (fun vs H1 => sp (x :: vs) H1 Q E0) := by intro x; funext vs H1; rw [List.append_nil]
  show ta σ H fun x H1 => ∃ a dx fs, x = .ref a ∧ H1 a = some (.ins C dx fs) ∧ fs.lookup m = none ∧ t σ H1 fun vs H2 => sp (x :: (vs ++ [])) H2 Q E0
  simp only [this]
  exact h
theorem pe_m0 {pl : Sem Bool} (c : CalM X.prog X.w X.K X.mg X.base k C m sp) (hr : Room k X.A) (cl : Cls X.K C) (ho : PE X o ta)
    (ht : eval (.Call (.Attribute o m apos) [] [] pos) X.env = (do
      let ov ← eval o X.env
      standAt apos.atName
      let (f, first) ← holding [ov] (getMethod ov m pl)
      callWith pos f first (backTo pos (starEach [] X.env)) (backToKw pos (keywordEach [] X.env))) := by rfl) :
    PE X (.Call (.Attribute o m apos) [] [] pos) (tM C m sp ta tNil) := by
  obtain ⟨f, fd, ps, a, b, F⟩ := c.out
  exact ⟨fun pins s σ H Q I h => (pe_meth0 ho cl a F hr b .nil pass0 ht).run pins s σ H Q I h⟩
theorem pe_mk (c : CalC X.prog X.w X.K X.mg X.base k x C sp) (hr : Room (k + 1) X.A) (hg : Gl X x) (ha : PA X (e :: es) t)
    (hdb : (x == ("__debug__" : Str)) = false := by decide) (he : starEach (e :: es) X.env = (false, eval e X.env) :: starEach es X.env := by rfl) (hpl : (backTo pos (starEach es X.env)).any (·.1) = false := by rfl) :
    PE X (.Call (.Name x p) (e :: es) [] pos) (tMk C sp t) := by
  obtain ⟨f, fd, ps, a, b, d, F⟩ := c.out
  refine ⟨fun pins s σ H Q I h => (pe_make b F hr hg a d .nil pass0 ha hdb he hpl).run pins s σ H Q I ?_⟩
  have : ∀ (x dx : Addr) H1, sp (V.ref x :: ([] ++ [])) H1 (fun v H2 => v = .non ∧ Q (.ref x) H2) E0 = sp (V.ref x :: []) H1 (fun v H2 => v = .non ∧ Q (.ref x) H2) E0 := fun _ _ _ => rfl
  show t σ H fun vs H1 => ∀ x dx, H1 x = none → H1 dx = none → dx ≠ x → sp (.ref x :: (vs ++ [])) (upd (upd H1 dx (.own x)) x (.ins C dx [])) (fun v H2 => v = .non ∧ Q (.ref x) H2) E0
  have : ∀ vs : List V, vs ++ [] = vs := List.append_nil
  simp only [this]
  exact h

/-- own operators -/
structure OwnOp (K : PySem.W.Frag) (C : Addr) (op : Operator) (f : Addr) : Prop where
  self : PySem.W.selfFirst K C = true
  at_ : PySem.W.findIn K (.ref C) (PySem.dunder op.info.2) = some (some (.ref f))
  fn : PySem.W.isFn K (.ref f) = true
/-- .. and its promise -/
structure CalO (P : Program) (w : World) (K : PySem.W.Frag) (mg : Str → Option Value) (base : Heap) (k : Nat) (C : Addr) (op : Operator) (sp : Sp) : Prop where
  out : ∃ (f : Addr) (fd : FuncData) (ps : List Str), OwnOp K C op f ∧ Binds K fd ps [] ∧ FnOk P w K mg base CX0 k f fd ps sp
def rOwn (C : Addr) (sp : Sp) : R2 := fun x y H Q => ∃ a dx fs b dy gs, x = .ref a ∧ y = .ref b ∧ H a = some (.ins C dx fs) ∧ H b = some (.ins C dy gs) ∧ sp [x, y] H Q E0
theorem notimpl_of {v : V} {u : Value} (r : RelV v u) : u ≠ .notImplemented := by
  intro e
  subst e
  cases v with
  | non => cases (show Value.notImplemented = Value.none from r)
  | bl b => cases (show Value.notImplemented = Value.bool b from r)
  | int i => obtain ⟨t, e⟩ := (show ∃ t, Value.notImplemented = Value.int i t from r); cases e
  | str x => obtain ⟨t, e⟩ := (show ∃ t, Value.notImplemented = Value.str x t from r); cases e
  | byt b => obtain ⟨t, e⟩ := (show ∃ t, Value.notImplemented = Value.bytes b t from r); cases e
  | flt b => obtain ⟨t, e⟩ := (show ∃ t, Value.notImplemented = Value.float b t from r); cases e
  | ref a => cases (show Value.notImplemented = Value.ref a from r)
  | ty n => cases (show Value.notImplemented = Value.type n from r)
theorem op_own {op : Operator} (c : CalO X.prog X.w X.K X.mg X.base k C op sp) (hr : Room k X.A) : OpR X (binaryOp op) (rOwn C sp) := by
  intro pins s σ H x y v u Q I rx ry h
  obtain ⟨a, dx, fs, b, dy, gs, rfl, rfl, ha, hb, q⟩ := h
  obtain rfl : v = Value.ref a := rx
  obtain rfl : u = Value.ref b := ry
  obtain ⟨f, fd, ps, O, bd, F⟩ := c.out
  obtain ⟨m, fr⟩ := I.fr
  obtain ⟨mA, OA, _⟩ := ins_get I.hok ha
  obtain ⟨od, J, _⟩ := OA.look
  obtain ⟨mB, OB, _⟩ := ins_get I.hok hb
  obtain ⟨od2, J2, _⟩ := OB.look
  refine PySem.W.binop_K fr I.ok.mod.kin J J2.type O.self O.at_ O.fn ?_
  refine thn (run_fn (us := [Value.ref a, Value.ref b]) (vs := [V.ref a, V.ref b]) F hr bd .nil (E := E0) pass0 I (.cons rfl (.cons rfl .nil)) q) fun r s' hq => ?_
  obtain ⟨v', H', I', rv, q'⟩ := hq
  have := notimpl_of rv
  cases r <;> first | exact absurd rfl this | exact ⟨v', H', I', rv, q'⟩
/-- o.f as a target -/
def gFld (K : PySem.W.Frag) (to : TE) (f : Str) : TG := fun y σ H Q => to σ H fun x H1 => ∃ a C dx fs, x = .ref a ∧ H1 a = some (.ins C dx fs) ∧ Cls K C ∧ NoAttr K C f ∧ fs.length < 1000 ∧ Q σ (upd H1 a (.ins C dx (putF f y fs)))
theorem pg_fld {f : Str} {to : TE} (ho : PE X o to) : PG X (.Attribute o f pos) (gFld X.K to f) := by
  refine ⟨fun pins s σ H v u Q I r h => ?_⟩
  rw [assign_Attribute]
  refine wpAny_bind (wpAny_holding (thn (ho.run pins s σ H _ I h) fun ov s1 ⟨x, H1, I1, r1, a, C, dx, fs, ex, ea, c, n, l, q⟩ => ?_))
  subst ex
  obtain rfl : ov = Value.ref a := r1
  refine wpAny_bind (wpAny_standAt (wpAny_bind (wpAny_holding (setattr_ok I1 ea c n l r fun s2 I2 => ?_))))
  exact wpAny_release ⟨σ, _, I2, q⟩
end
end Toy
namespace Toy
open PySem L2
def top (i : Nat) : Stmt := PySem.Challenge.pw_bendsigns_k47_whole_fourth_symbols_by_po.main.body.getD i (.Pass ⟨0, 0, 0, 0⟩)
abbrev sPair (j : Nat) : Stmt := inClass (top 18) j

/-! ### what a Pair is -/
def pf (z : GI) : List (Str × V) := [("one", .int z.re), ("other", .int z.im), ("norm", .int (FS.G.norm z))]
theorem ne1 : ¬ (("one" : Str) = "other") := by decide +kernel
theorem ne2 : ¬ (("one" : Str) = "norm") := by decide +kernel
theorem ne3 : ¬ (("other" : Str) = "norm") := by decide +kernel
theorem pf_put (a b c : V) : putF "norm" c (putF "other" b (putF "one" a [])) = ([("one", a), ("other", b), ("norm", c)] : List (Str × V)) := by
  show putF "norm" c (if ("one" : Str) = "other" then ([(("one" : Str), b)] : List (Str × V)) else (("one" : Str), a) :: putF "other" b []) = ([("one", a), ("other", b), ("norm", c)] : List (Str × V))
  rw [if_neg ne1]
  show (if ("one" : Str) = "norm" then ([(("one" : Str), c), ("other", b)] : List (Str × V)) else (("one" : Str), a) :: (if ("other" : Str) = "norm" then ([(("other" : Str), c)] : List (Str × V)) else (("other" : Str), b) :: putF "norm" c [])) = ([("one", a), ("other", b), ("norm", c)] : List (Str × V))
  rw [if_neg ne2, if_neg ne3]
  rfl
theorem lk_hit {k f : Str} {v : V} {r : List (Str × V)} (h : (k == f) = true) : List.lookup k ((f, v) :: r) = some v := by rw [List.lookup_cons, h]
theorem lk_miss {k f : Str} {v : V} {r : List (Str × V)} (h : (k == f) = false) : List.lookup k ((f, v) :: r) = List.lookup k r := by rw [List.lookup_cons, h]
theorem pf_one (z : GI) : (pf z).lookup ("one" : Str) = some (.int z.re) := lk_hit (by decide +kernel)
theorem pf_other (z : GI) : (pf z).lookup ("other" : Str) = some (.int z.im) := (lk_miss (by decide +kernel)).trans (lk_hit (by decide +kernel))
theorem pf_norm (z : GI) : (pf z).lookup ("norm" : Str) = some (.int (FS.G.norm z)) := (lk_miss (by decide +kernel)).trans ((lk_miss (by decide +kernel)).trans (lk_hit (by decide +kernel)))
theorem pf_no (z : GI) {m : Str} (h1 : (m == ("one" : Str)) = false) (h2 : (m == ("other" : Str)) = false) (h3 : (m == ("norm" : Str)) = false) : (pf z).lookup m = none :=
  (lk_miss h1).trans ((lk_miss h2).trans ((lk_miss h3).trans rfl))
theorem pe_never {X : Cx} {e : Expr} : PE X e (fun _ _ _ => False) := ⟨fun _ _ _ _ _ _ h => h.elim⟩
def PairAt (C : Addr) (H : Hp) (p : Addr) (z : GI) : Prop := ∃ dx, H p = some (.ins C dx (pf z))
theorem PairAt.same {C : Addr} {H H' : Hp} {p : Addr} {z : GI} (h : PairAt C H p z) (s : Same H H') : PairAt C H' p z := by
  obtain ⟨dx, e⟩ := h
  exact ⟨dx, s _ _ e⟩
theorem Same.up {H : Hp} {p : Addr} {o : HO} (h : H p = none) : Same H (upd H p o) := fun b u e => by rw [upd_ne (ne_of_none e h)]; exact e
/-- below 2 ^ k -/
def B (k : Nat) (n : Int) : Prop := n.natAbs < 2 ^ k
theorem B.mono {k l : Nat} {n : Int} (h : B k n) (e : k ≤ l) : B l n := Nat.lt_of_lt_of_le h (Nat.pow_le_pow_right (by decide) e)
theorem B.add {k : Nat} {a b : Int} (ha : B k a) (hb : B k b) : B (k + 1) (a + b) := by
  unfold B at *; have : (2 : Nat) ^ (k + 1) = 2 ^ k * 2 := Nat.pow_succ 2 k; omega
theorem B.sub {k : Nat} {a b : Int} (ha : B k a) (hb : B k b) : B (k + 1) (a - b) := by
  unfold B at *; have : (2 : Nat) ^ (k + 1) = 2 ^ k * 2 := Nat.pow_succ 2 k; omega
theorem B.neg {k : Nat} {a : Int} (ha : B k a) : B k (-a) := by unfold B at *; omega
theorem B.mul {k l : Nat} {a b : Int} (ha : B k a) (hb : B l b) : B (k + l) (a * b) := wide_lt ha hb
theorem B.mulW {k l : Nat} {a b : Int} (ha : B k a) (hb : B l b) (h0 : 0 < k) (h1 : 0 < l) (h : k + l ≤ 1000000) : CMulW a b := wide_mul ha hb h0 h1 h
/-- both parts below 2 ^ k -/
def BG (k : Nat) (z : GI) : Prop := B k z.re ∧ B k z.im
theorem BG.mono {k l : Nat} {z : GI} (h : BG k z) (e : k ≤ l) : BG l z := ⟨h.1.mono e, h.2.mono e⟩
theorem BG.conj {k : Nat} {z : GI} (h : BG k z) : BG k (FS.G.conj z) := ⟨h.1, h.2.neg⟩
theorem BG.mul {k l : Nat} {z w : GI} (h : BG k z) (g : BG l w) : BG (k + l + 1) (z * w) :=
  ⟨(h.1.mul g.1).sub (h.2.mul g.2), (h.1.mul g.2).add (h.2.mul g.1)⟩
theorem BG.sub {k : Nat} {z w : GI} (h : BG k z) (g : BG k w) : BG (k + 1) (z - w) := ⟨h.1.sub g.1, h.2.sub g.2⟩
theorem BG.norm {k : Nat} {z : GI} (h : BG k z) : B (k + k + 1) (FS.G.norm z) := (h.1.mul h.1).add (h.2.mul h.2)
theorem BG.I {k : Nat} {z : GI} (h : BG k z) : BG k (FS.G.I * z) := by
  have e : FS.G.I * z = ⟨-z.im, z.re⟩ := FS.G.ext (by simp) (by simp)
  rw [e]; exact ⟨h.2.neg, h.1⟩
theorem BG.Ipow {k : Nat} {z : GI} (h : BG k z) (j : Nat) : BG k (FS.G.I ^ j * z) := by
  induction j with
  | zero => have : FS.G.I ^ 0 * z = z := by { show 1 * z = z; grind }
            rw [this]; exact h
  | succ j ih =>
    have e : FS.G.I ^ (j + 1) * z = FS.G.I * (FS.G.I ^ j * z) := by { show (FS.G.I ^ j * FS.G.I) * z = _; grind }
    rw [e]; exact ih.I
theorem near_le {x n : Int} (hn : 0 < n) {k : Nat} (hx : B k x) : B (k + 1) (FS.near x n) := by
  unfold B at *
  have h1 := Int.emod_add_mul_ediv (2 * x + n - 1) (2 * n)
  have h2 := Int.emod_nonneg (2 * x + n - 1) (show 2 * n ≠ 0 by omega)
  have h3 := Int.emod_lt_of_pos (2 * x + n - 1) (show 0 < 2 * n by omega)
  unfold FS.near
  generalize (2 * x + n - 1) / (2 * n) = t at *
  generalize (2 * x + n - 1) % (2 * n) = r at *
  have e : 2 * n * t = 2 * (n * t) := by grind
  have h4 : -(2 * x.natAbs : Int) - 2 * n ≤ 2 * (n * t) ∧ 2 * (n * t) ≤ 2 * x.natAbs + 2 * n := by omega
  have hp : (2 : Nat) ^ (k + 1) = 2 ^ k * 2 := Nat.pow_succ 2 k
  have hpos : 0 < 2 ^ k := Nat.pow_pos (by decide)
  have h5 : t.natAbs ≤ x.natAbs + 1 := by
    apply Decidable.byContradiction
    intro hh
    rcases Int.lt_or_le t 0 with ht | ht
    · have := Int.mul_le_mul_of_nonneg_left (show t ≤ -(x.natAbs : Int) - 2 by omega) (show 0 ≤ n by omega)
      have e2 : n * (-(x.natAbs : Int) - 2) = -(n * x.natAbs) - 2 * n := by grind
      have e3 : 1 * (x.natAbs : Int) ≤ n * x.natAbs := Int.mul_le_mul_of_nonneg_right (by omega) (by omega)
      omega
    · have := Int.mul_le_mul_of_nonneg_left (show (x.natAbs : Int) + 2 ≤ t by omega) (show 0 ≤ n by omega)
      have e2 : n * ((x.natAbs : Int) + 2) = n * x.natAbs + 2 * n := by grind
      have e3 : 1 * (x.natAbs : Int) ≤ n * x.natAbs := Int.mul_le_mul_of_nonneg_right (by omega) (by omega)
      omega
  omega

/-! ### facts of the class Pair, and of the built-in names -/
structure TP (K : PySem.W.Frag) (mg : Str → Option Value) (C : Addr) : Prop where
  cl : Cls K C
  n1 : NoAttr K C "one"
  n2 : NoAttr K C "other"
  n3 : NoAttr K C "norm"
  ha : PySem.W.findIn K (.ref C) "__class__" = some (some (.builtin "object.__class__"))
  hn : PySem.W.specialIn K (.builtin "object.__class__") "__get__" = some (some (.builtin "getset_descriptor.__get__"))
  htk : PySem.W.takesIn K (.builtin "object.__class__") = some true
  hm : PySem.W.mroIn K C (.type "object") = some true
  own : PySem.W.kitOne K (.ref C) (.ref C) = some true
  mg : mg "Pair" = some (.ref C)
structure TB (mg : Str → Option Value) : Prop where
  isinstance : mg "isinstance" = none
  int : mg "int" = none
  bool : mg "bool" = none
  range : mg "range" = none

section
variable {P : Program} {w : World} {K : PySem.W.Frag} {mg : Str → Option Value} {base : Heap}
/-! ### is_integer -/
def spIsInt : Sp := fun vs H Q _ => ∃ n : Int, vs = [.int n] ∧ Q (.bl true) H
theorem scIsInt : FnScope ["value"] ["value"] (defScope (top 8)) := ⟨rfl, rfl, rfl, by decide +kernel, rfl, by decide +kernel, by decide +kernel⟩
theorem ok_is_integer {f : Addr} {fd : FuncData} (F : Fun K "is_integer" "is_integer" (top 8) f fd) (T : TB mg) : FnOk P w K mg base CX0 1 f fd ["value"] spIsInt := by
  refine F.ok scIsInt (fun vs H Q E h => ?_) (fun cdv A outer s H vs Q E hr h => ?_)
  · obtain ⟨n, rfl, _⟩ := h; rfl
  · obtain ⟨n, rfl, q⟩ := h
    refine ⟨_, pss_one (ps_ret (pe_and (pe_callB call_isi (by rfl) T.isinstance (by decide +kernel) (pa_cons (pv 0) (pa_cons (pe_bltn (v := .ty "int") (by rfl) T.int (by decide +kernel) rfl) pa_nil)))
      (pe_one (pe_not (pe_callB call_isi (by rfl) T.isinstance (by decide +kernel) (pa_cons (pv 0) (pa_cons (pe_bltn (v := .ty "bool") (by rfl) T.bool (by decide +kernel) rfl) pa_nil))))))), ?_⟩
    refine ⟨_, rfl, _, _, _, _, _, rfl, .ty _, .base (.int n), kit_ty (b := "int") (by decide +kernel), true, rfl, iteT ?_⟩
    refine ⟨_, rfl, _, _, _, _, _, rfl, .ty _, .base (.int n), kit_ty (b := "bool") (by decide +kernel), false, rfl, q⟩
/-! ### is_within -/
def spWithin : Sp := fun vs H Q _ => ∃ n : Int, vs = [.int n, .non, .non] ∧ Q (.bl true) H
theorem scWithin : FnScope ["value", "least", "most"] ["value", "least", "most"] (defScope (top 9)) := ⟨rfl, rfl, rfl, by decide +kernel, rfl, by decide +kernel, by decide +kernel⟩
theorem ok_within {f : Addr} {fd : FuncData} (F : Fun K "is_within" "is_within" (top 9) f fd) (c1 : Cal P w K mg base 1 "is_integer" spIsInt) : FnOk P w K mg base CX0 2 f fd ["value", "least", "most"] spWithin := by
  refine F.ok scWithin (fun vs H Q E h => ?_) (fun cdv A outer s H vs Q E hr h => ?_)
  · obtain ⟨n, rfl, _⟩ := h; rfl
  · obtain ⟨n, rfl, q⟩ := h
    refine ⟨_, pss_cons (ps_if (pt_not (pt_val (pe_c c1 hr (by rfl) (pa_cons (pv 0) pa_nil)))) pss_never pss_nil)
      (pss_one (ps_ret (pe_and (pe_or (pe_cmp (pc_isN (pv 1)) rfl) (pe_one pe_never)) (pe_one (pe_or (pe_cmp (pc_isN (pv 2)) rfl) (pe_one pe_never)))))), ?_⟩
    refine ⟨_, rfl, n, rfl, true, rfl, iteF ?_⟩
    exact ⟨_, rfl, true, rfl, iteT ⟨true, rfl, iteT ⟨_, rfl, true, rfl, iteT q⟩⟩⟩
/-! ### need_number -/
def spNeed : Sp := fun vs H Q _ => ∃ (n : Int) (s : Str), vs = [.int n, .str s, .non, .non] ∧ Q .non H
theorem scNeed : FnScope ["value", "part", "least", "most"] ["value", "part", "least", "most"] (defScope (top 10)) := ⟨rfl, rfl, rfl, by decide +kernel, rfl, by decide +kernel, by decide +kernel⟩
theorem ok_need {f : Addr} {fd : FuncData} (F : Fun K "need_number" "need_number" (top 10) f fd) (c1 : Cal P w K mg base 2 "is_within" spWithin) : FnOk P w K mg base CX0 3 f fd ["value", "part", "least", "most"] spNeed := by
  refine F.ok scNeed (fun vs H Q E h => ?_) (fun cdv A outer s H vs Q E hr h => ?_)
  · obtain ⟨n, s, rfl, _⟩ := h; rfl
  · obtain ⟨n, s, rfl, q⟩ := h
    refine ⟨_, pss_one (ps_if (pt_not (pt_val (pe_c c1 hr (by rfl) (pa_cons (pv 0) (pa_cons (pv 2) (pa_cons (pv 3) pa_nil)))))) pss_never pss_nil), ?_⟩
    exact ⟨_, rfl, _, rfl, _, rfl, n, rfl, true, rfl, iteF q⟩
/-! ### Pair.__init__ -/
def spInit (C : Addr) : Sp := fun vs H Q _ => ∃ (p dx : Addr) (z : GI), vs = [.ref p, .int z.re, .int z.im] ∧ H p = some (.ins C dx []) ∧ BG 3000 z ∧ Q .non (upd H p (.ins C dx (pf z)))
theorem scInit : FnScope ["self", "one", "other"] ["self", "one", "other"] (defScope (sPair 0)) := ⟨rfl, rfl, rfl, by decide +kernel, rfl, by decide +kernel, by decide +kernel⟩
theorem ok_init {f C : Addr} {fd : FuncData} (F : Fun K "__init__" "Pair.__init__" (sPair 0) f fd) (T : TP K mg C) (c1 : Cal P w K mg base 3 "need_number" spNeed) : FnOk P w K mg base CX0 4 f fd ["self", "one", "other"] (spInit C) := by
  refine F.ok scInit (fun vs H Q E h => ?_) (fun cdv A outer s H vs Q E hr h => ?_)
  · obtain ⟨p, dx, z, rfl, _⟩ := h; rfl
  · obtain ⟨p, dx, z, rfl, hp, hz, q⟩ := h
    refine ⟨_, pss_cons (ps_expr (pe_c c1 hr (by rfl) (pa_cons (pv 1) (pa_cons pe_str (pa_cons pe_non (pa_cons pe_non pa_nil))))))
      (pss_cons (ps_expr (pe_c c1 hr (by rfl) (pa_cons (pv 2) (pa_cons pe_str (pa_cons pe_non (pa_cons pe_non pa_nil))))))
      (pss_cons (ps_fld (pv 0) (pv 1) rfl) (pss_cons (ps_fld (pv 0) (pv 2) rfl)
      (pss_one (ps_fld (pv 0) (pe_op op_add (pe_op op_mulW (pv 1) (pv 1)) (pe_op op_mulW (pv 2) (pv 2))) rfl))))), ?_⟩
    refine ⟨_, rfl, _, _, rfl, _, rfl, _, _, rfl, ?_⟩
    refine ⟨_, rfl, _, rfl, p, C, dx, _, rfl, hp, T.cl, T.n1, (by show 0 < 1000; decide), ?_⟩
    refine ⟨_, rfl, _, rfl, p, C, dx, _, rfl, upd_same, T.cl, T.n2, (by show 1 < 1000; decide), ?_⟩
    refine ⟨_, rfl, _, rfl, _, _, rfl, rfl, hz.1.mulW hz.1 (by decide) (by decide) (by decide), _, rfl, _, rfl, _, _, rfl, rfl, hz.2.mulW hz.2 (by decide) (by decide) (by decide), _, _, rfl, rfl, ?_⟩
    refine ⟨_, rfl, p, C, dx, _, rfl, upd_same, T.cl, T.n3, Nat.lt_of_le_of_lt (length_putF _ _ _) (Nat.lt_of_le_of_lt (Nat.succ_le_succ (length_putF _ _ _)) (by show 2 < 1000; decide)), ?_⟩
    rw [upd_upd, upd_upd, pf_put]
    exact q
theorem mk_pair {C : Addr} {H : Hp} {z : GI} {Q : VK} (hs : BG 3000 z) (h : ∀ (H' : Hp) (p : Addr), Same H H' → PairAt C H' p z → Q (.ref p) H') :
    ∀ x dx, H x = none → H dx = none → dx ≠ x → spInit C (.ref x :: [.int z.re, .int z.im]) (upd (upd H dx (.own x)) x (.ins C dx [])) (fun v H2 => v = .non ∧ Q (.ref x) H2) E0 := by
  intro x dx nx nd ne
  refine ⟨x, dx, z, rfl, upd_same, hs, rfl, h _ x (fun b o e => ?_) ⟨dx, upd_same⟩⟩
  have b1 : b ≠ x := ne_of_none e nx
  have b2 : b ≠ dx := ne_of_none e nd
  rw [upd_ne b1, upd_ne b1, upd_ne b2]; exact e
/-! ### need_pair -/
def spNeedPair (C : Addr) : Sp := fun vs H Q _ => ∃ (p : Addr) (z : GI) (s : Str), vs = [.ref p, .str s] ∧ PairAt C H p z ∧ Q .non H
theorem scNeedPair : FnScope ["value", "part"] ["value", "part"] (defScope (top 16)) := ⟨rfl, rfl, rfl, by decide +kernel, rfl, by decide +kernel, by decide +kernel⟩
theorem ok_need_pair {f C : Addr} {fd : FuncData} (F : Fun K "need_pair" "need_pair" (top 16) f fd) (T : TP K mg C) (B : TB mg) : FnOk P w K mg base CX0 1 f fd ["value", "part"] (spNeedPair C) := by
  refine F.ok scNeedPair (fun vs H Q E h => ?_) (fun cdv A outer s H vs Q E hr h => ?_)
  · obtain ⟨p, z, s, rfl, _⟩ := h; rfl
  · obtain ⟨p, z, s, rfl, ⟨dx, hp⟩, q⟩ := h
    refine ⟨_, pss_one (ps_if (pt_not (pt_val (pe_callB call_isi (by rfl) B.isinstance (by decide +kernel) (pa_cons (pv 0) (pa_cons (pe_glob (v := .ref C) (by rfl) T.mg rfl) pa_nil))))) pss_never pss_nil), ?_⟩
    exact ⟨_, rfl, _, _, _, _, _, rfl, .own C, .base (.ins hp T.cl T.ha T.hn T.htk T.hm), T.own, true, rfl, iteF q⟩
/-! ### nearest -/
def spNear : Sp := fun vs H Q _ => ∃ (x n : Int), vs = [.int x, .int n] ∧ 0 < n ∧ B 8000 n ∧ Q (.int (FS.near x n)) H
theorem scNear : FnScope ["number", "by"] ["number", "by"] (defScope (top 17)) := ⟨rfl, rfl, rfl, by decide +kernel, rfl, by decide +kernel, by decide +kernel⟩
theorem ok_near {f : Addr} {fd : FuncData} (F : Fun K "nearest" "nearest" (top 17) f fd) : FnOk P w K mg base CX0 1 f fd ["number", "by"] spNear := by
  refine F.ok scNear (fun vs H Q E h => ?_) (fun cdv A outer s H vs Q E hr h => ?_)
  · obtain ⟨x, n, rfl, _⟩ := h; rfl
  · obtain ⟨x, n, rfl, h0, hb, q⟩ := h
    refine ⟨_, pss_one (ps_ret (pe_op op_fdivW (pe_op op_sub (pe_op op_add (pe_op op_mul pe_int (pv 0)) (pv 1)) pe_int) (pe_op op_mul pe_int (pv 1)))), ?_⟩
    have hb2 : B 8001 (2 * n) := by
      have := (show B 1 1 by unfold B; decide)
      have e : 2 * n = n + n := by omega
      rw [e]; exact hb.add hb
    refine ⟨_, rfl, _, _, rfl, rfl, .inl ⟨by decide, by decide⟩, _, rfl, _, _, rfl, rfl, _, _, rfl, rfl, _, rfl, _, _, rfl, rfl, .inl ⟨by decide, by decide⟩, _, _, rfl, rfl, wide_div (by omega) hb2 (by decide) (by decide), q⟩
/-! ### __sub__, __mul__, flipped -/
def spBin (C : Addr) (g : GI → GI → GI) : Sp := fun vs H Q _ => ∃ (p q : Addr) (z w : GI), vs = [.ref p, .ref q] ∧ PairAt C H p z ∧ PairAt C H q w ∧ BG 2990 z ∧ BG 2990 w ∧ BG 3000 (g z w) ∧
  ∀ (H' : Hp) (r : Addr), Same H H' → PairAt C H' r (g z w) → Q (.ref r) H'
theorem scSub : FnScope ["self", "other"] ["self", "other"] (defScope (sPair 3)) := ⟨rfl, rfl, rfl, by decide +kernel, rfl, by decide +kernel, by decide +kernel⟩
theorem ok_sub {f C : Addr} {fd : FuncData} (F : Fun K "__sub__" "Pair.__sub__" (sPair 3) f fd) (T : TP K mg C) (c : CalC P w K mg base 4 "Pair" C (spInit C)) : FnOk P w K mg base CX0 6 f fd ["self", "other"] (spBin C (· - ·)) := by
  refine F.ok scSub (fun vs H Q E h => ?_) (fun cdv A outer s H vs Q E hr h => ?_)
  · obtain ⟨p, q, z, w, rfl, _⟩ := h; rfl
  · obtain ⟨p, q, z, w, rfl, ⟨dx, hp⟩, ⟨dy, hq⟩, bz, bw, bg, k⟩ := h
    refine ⟨_, pss_one (ps_ret (pe_mk c hr (by rfl) (pa_cons (pe_op op_sub (pe_fld (pv 0) rfl) (pe_fld (pv 1) rfl)) (pa_cons (pe_op op_sub (pe_fld (pv 0) rfl) (pe_fld (pv 1) rfl)) pa_nil)))), ?_⟩
    refine ⟨_, rfl, p, C, dx, _, _, rfl, hp, T.cl, T.n1, pf_one _, _, rfl, q, C, dy, _, _, rfl, hq, T.cl, T.n1, pf_one _, _, _, rfl, rfl, ?_⟩
    refine ⟨_, rfl, p, C, dx, _, _, rfl, hp, T.cl, T.n2, pf_other _, _, rfl, q, C, dy, _, _, rfl, hq, T.cl, T.n2, pf_other _, _, _, rfl, rfl, ?_⟩
    exact mk_pair (z := z - w) bg k
theorem scMul : FnScope ["self", "other", "one"] ["self", "other"] (defScope (sPair 4)) := ⟨rfl, rfl, rfl, by decide +kernel, rfl, by decide +kernel, by decide +kernel⟩
theorem ok_mul {f C : Addr} {fd : FuncData} (F : Fun K "__mul__" "Pair.__mul__" (sPair 4) f fd) (T : TP K mg C) (c : CalC P w K mg base 4 "Pair" C (spInit C)) : FnOk P w K mg base CX0 6 f fd ["self", "other"] (spBin C (· * ·)) := by
  refine F.ok scMul (fun vs H Q E h => ?_) (fun cdv A outer s H vs Q E hr h => ?_)
  · obtain ⟨p, q, z, w, rfl, _⟩ := h; rfl
  · obtain ⟨p, q, z, w, rfl, ⟨dx, hp⟩, ⟨dy, hq⟩, bz, bw, bg, k⟩ := h
    refine ⟨_, pss_cons (ps_set (i := 2) scMul.nd rfl (.inl rfl) (pe_op op_sub (pe_op op_mulW (pe_fld (pv 0) rfl) (pe_fld (pv 1) rfl)) (pe_op op_mulW (pe_fld (pv 0) rfl) (pe_fld (pv 1) rfl))))
      (pss_one (ps_ret (pe_mk c hr (by rfl) (pa_cons (pv 2) (pa_cons (pe_op op_add (pe_op op_mulW (pe_fld (pv 0) rfl) (pe_fld (pv 1) rfl)) (pe_op op_mulW (pe_fld (pv 0) rfl) (pe_fld (pv 1) rfl))) pa_nil))))), ?_⟩
    have m : ∀ {a b : Int}, B 2990 a → B 2990 b → CMulW a b := fun ha hb => ha.mulW hb (by decide) (by decide) (by decide)
    refine ⟨_, rfl, p, C, dx, _, _, rfl, hp, T.cl, T.n1, pf_one _, _, rfl, q, C, dy, _, _, rfl, hq, T.cl, T.n1, pf_one _, _, _, rfl, rfl, m bz.1 bw.1, ?_⟩
    refine ⟨_, rfl, p, C, dx, _, _, rfl, hp, T.cl, T.n2, pf_other _, _, rfl, q, C, dy, _, _, rfl, hq, T.cl, T.n2, pf_other _, _, _, rfl, rfl, m bz.2 bw.2, _, _, rfl, rfl, ?_⟩
    refine ⟨_, rfl, ?_⟩
    refine ⟨_, rfl, p, C, dx, _, _, rfl, hp, T.cl, T.n1, pf_one _, _, rfl, q, C, dy, _, _, rfl, hq, T.cl, T.n2, pf_other _, _, _, rfl, rfl, m bz.1 bw.2, ?_⟩
    refine ⟨_, rfl, p, C, dx, _, _, rfl, hp, T.cl, T.n2, pf_other _, _, rfl, q, C, dy, _, _, rfl, hq, T.cl, T.n1, pf_one _, _, _, rfl, rfl, m bz.2 bw.1, _, _, rfl, rfl, ?_⟩
    exact mk_pair (z := z * w) bg k
def spFlip (C : Addr) : Sp := fun vs H Q _ => ∃ (p : Addr) (z : GI), vs = [.ref p] ∧ PairAt C H p z ∧ BG 3000 z ∧ ∀ (H' : Hp) (r : Addr), Same H H' → PairAt C H' r (FS.G.conj z) → Q (.ref r) H'
theorem scFlip : FnScope ["self"] ["self"] (defScope (sPair 8)) := ⟨rfl, rfl, rfl, by decide +kernel, rfl, by decide +kernel, by decide +kernel⟩
theorem ok_flip {f C : Addr} {fd : FuncData} (F : Fun K "flipped" "Pair.flipped" (sPair 8) f fd) (T : TP K mg C) (c : CalC P w K mg base 4 "Pair" C (spInit C)) : FnOk P w K mg base CX0 6 f fd ["self"] (spFlip C) := by
  refine F.ok scFlip (fun vs H Q E h => ?_) (fun cdv A outer s H vs Q E hr h => ?_)
  · obtain ⟨p, z, rfl, _⟩ := h; rfl
  · obtain ⟨p, z, rfl, ⟨dx, hp⟩, bz, k⟩ := h
    refine ⟨_, pss_one (ps_ret (pe_mk c hr (by rfl) (pa_cons (pe_fld (pv 0) rfl) (pa_cons (pe_un un_neg (pe_fld (pv 0) rfl)) pa_nil)))), ?_⟩
    refine ⟨_, rfl, p, C, dx, _, _, rfl, hp, T.cl, T.n1, pf_one _, _, rfl, p, C, dx, _, _, rfl, hp, T.cl, T.n2, pf_other _, _, rfl, ?_⟩
    exact mk_pair (z := FS.G.conj z) bz.conj k
/-! ### is_primary -/
def spPrim (C : Addr) : Sp := fun vs H Q _ => ∃ (p : Addr) (z : GI), vs = [.ref p] ∧ PairAt C H p z ∧ Q (.bl (FS.primB z)) H
theorem scPrim : FnScope ["self"] ["self"] (defScope (sPair 10)) := ⟨rfl, rfl, rfl, by decide +kernel, rfl, by decide +kernel, by decide +kernel⟩
theorem ok_prim {f C : Addr} {fd : FuncData} (F : Fun K "is_primary" "Pair.is_primary" (sPair 10) f fd) (T : TP K mg C) : FnOk P w K mg base CX0 1 f fd ["self"] (spPrim C) := by
  refine F.ok scPrim (fun vs H Q E h => ?_) (fun cdv A outer s H vs Q E hr h => ?_)
  · obtain ⟨p, z, rfl, _⟩ := h; rfl
  · obtain ⟨p, z, rfl, ⟨dx, hp⟩, k⟩ := h
    refine ⟨_, pss_one (ps_ret (pe_and (pe_cmp (pc_eqI (pe_op op_mod (pe_fld (pv 0) rfl) pe_int) pe_int))
      (pe_one (pe_cmp (pc_eqI (pe_op op_mod (pe_op op_add (pe_fld (pv 0) rfl) (pe_fld (pv 0) rfl)) pe_int) pe_int))))), ?_⟩
    refine ⟨_, rfl, p, C, dx, _, _, rfl, hp, T.cl, T.n2, pf_other _, _, _, rfl, rfl, (by show (0 : Int) < 2; decide), _, _, rfl, rfl, _, rfl, ?_⟩
    have e : FS.primB z = (decide (z.im % 2 = 0) && decide ((z.re + z.im) % 4 = 1)) := by
      unfold FS.primB; rw [Bool.beq_eq_decide_eq, Bool.beq_eq_decide_eq]
    rw [e] at k
    refine ite2 (fun hc => ?_) (fun hc => ?_)
    · have h1 : z.im % 2 = 0 := of_decide_eq_true hc
      rw [decide_eq_true h1, Bool.true_and] at k
      refine ⟨_, rfl, p, C, dx, _, _, rfl, hp, T.cl, T.n1, pf_one _, _, rfl, p, C, dx, _, _, rfl, hp, T.cl, T.n2, pf_other _, _, _, rfl, rfl, _, _, rfl, rfl, (by show (0 : Int) < 4; decide), _, _, rfl, rfl, k⟩
    · have h1 : ¬ z.im % 2 = 0 := fun e => hc (decide_eq_true e)
      rw [decide_eq_false h1] at k
      exact k
end
end Toy
namespace Toy
open PySem L2
section
variable {P : Program} {w : World} {K : PySem.W.Frag} {mg : Str → Option Value} {base : Heap}
theorem I_mul_eq (z : GI) : FS.G.I * z = ⟨-z.im, z.re⟩ := FS.G.ext (by simp) (by simp)
theorem I_pow_succ (j : Nat) (z : GI) : FS.G.I ^ (j + 1) * z = FS.G.I * (FS.G.I ^ j * z) := by
  show (FS.G.I ^ j * FS.G.I) * z = _; grind
theorem E_pow_succ (j : Nat) (z : GI) : FS.E ^ (j + 1) * z = FS.E ^ j * (FS.E * z) := by
  show (FS.E ^ j * FS.E) * z = _; grind
theorem pow_zero_mul (a z : GI) : a ^ 0 * z = z := by show 1 * z = z; grind
theorem mk_pair' {C : Addr} {H : Hp} {z : GI} {x dx : Addr} {R : VK} (hs : BG 3000 z) (nx : H x = none) (nd : H dx = none)
    (h : ∀ (H' : Hp), Same H H' → PairAt C H' x z → R .non H') : spInit C [.ref x, .int z.re, .int z.im] (upd (upd H dx (.own x)) x (.ins C dx [])) R E0 := by
  refine ⟨x, dx, z, rfl, upd_same, hs, h _ (fun b o e => ?_) ⟨dx, upd_same⟩⟩
  have b1 : b ≠ x := ne_of_none e nx
  have b2 : b ≠ dx := ne_of_none e nd
  rw [upd_ne b1, upd_ne b1, upd_ne b2]; exact e
/-! ### times_i -/
def spTimes (C : Addr) : Sp := fun vs H Q _ => ∃ (p : Addr) (z : GI) (k : Int), vs = [.ref p, .int k] ∧ PairAt C H p z ∧ BG 3000 z ∧
  ∀ (H' : Hp) (r : Addr), Same H H' → PairAt C H' r (FS.G.I ^ (k % 4).toNat * z) → Q (.ref r) H'
theorem scTimes : FnScope ["self", "power", "found", "_"] ["self", "power"] (defScope (sPair 9)) := ⟨rfl, rfl, rfl, by decide +kernel, rfl, by decide +kernel, by decide +kernel⟩
theorem ok_times {f C : Addr} {fd : FuncData} (F : Fun K "times_i" "Pair.times_i" (sPair 9) f fd) (T : TP K mg C) (TB : TB mg) (c1 : Cal P w K mg base 3 "need_number" spNeed) (c : CalC P w K mg base 4 "Pair" C (spInit C)) :
    FnOk P w K mg base CX0 6 f fd ["self", "power"] (spTimes C) := by
  refine F.ok scTimes (fun vs H Q E h => ?_) (fun cdv A outer s H vs Q E hr h => ?_)
  · obtain ⟨p, z, k, rfl, _⟩ := h; rfl
  · obtain ⟨p, z, k, rfl, hp, bz, q⟩ := h
    refine ⟨_, pss_cons (ps_expr (pe_c c1 (hr.mono (by decide)) (by rfl) (pa_cons (pv 1) (pa_cons pe_str (pa_cons pe_non (pa_cons pe_non pa_nil))))))
      (pss_cons (ps_set (i := 2) scTimes.nd rfl (.inl rfl) (pv 0))
      (pss_cons (ps_for PassesOwn.never rfl (pi_range1 (by rfl) TB.range (pa_cons (pe_op op_mod (pv 1) pe_int) pa_nil)) (pg_name (i := 3) scTimes.nd rfl (.inl rfl))
        (pss_one (ps_set (i := 2) scTimes.nd rfl (.inl rfl) (pe_mk c hr (by rfl) (pa_cons (pe_un un_neg (pe_fld (pv 2) rfl)) (pa_cons (pe_fld (pv 2) rfl) pa_nil))))))
      (pss_one (ps_ret (pv 2))))), ?_⟩
    refine ⟨_, rfl, _, _, rfl, _, rfl, ?_⟩
    refine ⟨_, rfl, _, _, rfl, rfl, (by show (0 : Int) < 4; decide), _, rfl, by omega, by omega, ?_⟩
    refine for_range (lo := 0) (n := (k % 4).toNat) (fun i σ H' => ∃ (r : Addr) (v : Option V), σ = [some (.ref p), some (.int k), some (.ref r), v] ∧ Same H H' ∧ PairAt C H' r (FS.G.I ^ i * z))
      ⟨p, none, rfl, Same.refl H, by rw [pow_zero_mul]; exact hp⟩ ?_ ?_
    · rintro i σ H' hi ⟨r, v, rfl, sm, dx, hr'⟩
      refine ⟨_, rfl, r, C, dx, _, _, rfl, hr', T.cl, T.n2, pf_other _, _, rfl, _, rfl, r, C, dx, _, _, rfl, hr', T.cl, T.n1, pf_one _, ?_⟩
      have e := I_mul_eq (FS.G.I ^ i * z)
      have bz' := bz.Ipow (i + 1)
      rw [I_pow_succ] at bz'
      rw [e] at bz'
      intro x dx nx nd ne
      refine mk_pair' (z := ⟨-(FS.G.I ^ i * z).im, (FS.G.I ^ i * z).re⟩) bz' nx nd (fun H2 s2 h2 => ⟨rfl, x, _, rfl, sm.trans s2, ?_⟩)
      rw [I_pow_succ, e]; exact h2
    · rintro σ H' ⟨r, v, rfl, sm, hr'⟩
      exact ⟨_, rfl, q _ _ sm hr'⟩
/-! ### divided -/
theorem BG.quo {z m : GI} (hm : m ≠ 0) {k l : Nat} (hz : BG k z) (hw : BG l m) : BG (k + l + 2) (FS.quo z m) := by
  have h := hz.mul hw.conj
  have hN := FS.G.norm_pos hm
  exact ⟨near_le hN h.1, near_le hN h.2⟩
def spDiv (C : Addr) : Sp := fun vs H Q _ => ∃ (p q : Addr) (z m : GI), vs = [.ref p, .ref q] ∧ PairAt C H p z ∧ PairAt C H q m ∧ BG 600 z ∧ BG 600 m ∧ m ≠ 0 ∧
  ∀ (H' : Hp) (t a b : Addr), Same H H' → H' t = some (.tup [.ref a, .ref b]) → PairAt C H' b (FS.rst z m) → Q (.ref t) H'
theorem scDiv : FnScope ["self", "by", "ratio", "quotient"] ["self", "by"] (defScope (sPair 11)) := ⟨rfl, rfl, rfl, by decide +kernel, rfl, by decide +kernel, by decide +kernel⟩
theorem ok_div {f C : Addr} {fd : FuncData} (F : Fun K "divided" "Pair.divided" (sPair 11) f fd) (T : TP K mg C) (c1 : Cal P w K mg base 1 "need_pair" (spNeedPair C)) (c2 : Cal P w K mg base 1 "nearest" spNear)
    (c : CalC P w K mg base 4 "Pair" C (spInit C)) (cf : CalM P w K mg base 6 C "flipped" (spFlip C)) (cm : CalO P w K mg base 6 C .Mult (spBin C (· * ·))) (cs : CalO P w K mg base 6 C .Sub (spBin C (· - ·))) :
    FnOk P w K mg base CX0 7 f fd ["self", "by"] (spDiv C) := by
  refine F.ok scDiv (fun vs H Q E h => ?_) (fun cdv A outer s H vs Q E hr h => ?_)
  · obtain ⟨p, q, z, m, rfl, _⟩ := h; rfl
  · obtain ⟨p, q, z, m, rfl, hp, hq, bz, bm, hm, k⟩ := h
    have hN := FS.G.norm_pos hm
    have nofl : ∀ z : GI, (pf z).lookup ("flipped" : Str) = none := fun z => pf_no z (by decide +kernel) (by decide +kernel) (by decide +kernel)
    refine ⟨_, pss_cons (ps_expr (pe_c c1 (hr.mono (by decide)) (by rfl) (pa_cons (pv 1) (pa_cons pe_str pa_nil))))
      (pss_cons (ps_if (pt_cmp (pc_eqI (pe_fld (pv 1) rfl) pe_int)) pss_never pss_nil)
      (pss_cons (ps_set (i := 2) scDiv.nd rfl (.inl rfl) (pe_op (op_own cm hr) (pv 0) (pe_m0 cf hr T.cl (pv 1))))
      (pss_cons (ps_set (i := 3) scDiv.nd rfl (.inl rfl) (pe_mk c (hr.mono (by decide)) (by rfl) (pa_cons (pe_c c2 (hr.mono (by decide)) (by rfl) (pa_cons (pe_fld (pv 2) rfl) (pa_cons (pe_fld (pv 1) rfl) pa_nil)))
        (pa_cons (pe_c c2 (hr.mono (by decide)) (by rfl) (pa_cons (pe_fld (pv 2) rfl) (pa_cons (pe_fld (pv 1) rfl) pa_nil))) pa_nil))))
      (pss_one (ps_ret (pe_tup (pa_cons (pv 3) (pa_cons (pe_op (op_own cs hr) (pv 0) (pe_op (op_own cm hr) (pv 1) (pv 3))) pa_nil)))))))), ?_⟩
    obtain ⟨dp, hp⟩ := hp
    obtain ⟨dq, hq⟩ := hq
    refine ⟨_, rfl, q, m, _, rfl, ⟨dq, hq⟩, ?_⟩
    refine ⟨_, rfl, q, C, dq, _, _, rfl, hq, T.cl, T.n3, pf_norm _, _, _, rfl, rfl, _, rfl, ?_⟩
    refine ite2 (fun hc => absurd (of_decide_eq_true hc) (by omega)) (fun _ => ?_)
    -- ratio
    refine ⟨_, rfl, _, rfl, q, dq, _, rfl, hq, nofl _, q, m, rfl, ⟨dq, hq⟩, bm.mono (by decide), fun H1 r s1 h1 => ?_⟩
    obtain ⟨d1, h1⟩ := h1
    have hp1 := s1 _ _ hp
    have hq1 := s1 _ _ hq
    have bprod := bz.mul bm.conj
    refine ⟨p, dp, _, r, d1, _, rfl, rfl, hp1, h1, p, r, z, FS.G.conj m, rfl, ⟨dp, hp1⟩, ⟨d1, h1⟩, bz.mono (by decide), bm.conj.mono (by decide), bprod.mono (by decide), fun H2 t s2 h2 => ?_⟩
    obtain ⟨d2, h2⟩ := h2
    have hp2 := s2 _ _ hp1
    have hq2 := s2 _ _ hq1
    have bn := bm.norm
    -- quotient
    refine ⟨_, rfl, t, C, d2, _, _, rfl, h2, T.cl, T.n1, pf_one _, _, rfl, q, C, dq, _, _, rfl, hq2, T.cl, T.n3, pf_norm _, _, _, rfl, hN, bn.mono (by decide), ?_⟩
    refine ⟨_, rfl, t, C, d2, _, _, rfl, h2, T.cl, T.n2, pf_other _, _, rfl, q, C, dq, _, _, rfl, hq2, T.cl, T.n3, pf_norm _, _, _, rfl, hN, bn.mono (by decide), ?_⟩
    have bq := BG.quo hm bz bm
    intro u du nu ndu neu
    refine mk_pair' (z := FS.quo z m) (bq.mono (by decide)) nu ndu fun H3 s3 h3 => ⟨rfl, ?_⟩
    obtain ⟨d3, h3⟩ := h3
    have hp3 := s3 _ _ hp2
    have hq3 := s3 _ _ hq2
    have bmq := bm.mul bq
    -- the tuple
    refine ⟨_, rfl, _, rfl, _, rfl, _, rfl, q, dq, _, u, d3, _, rfl, rfl, hq3, h3, q, u, m, FS.quo z m, rfl, ⟨dq, hq3⟩, ⟨d3, h3⟩, bm.mono (by decide), bq.mono (by decide), bmq.mono (by decide), fun H4 v s4 h4 => ?_⟩
    obtain ⟨d4, h4⟩ := h4
    have hp4 := s4 _ _ hp3
    have bsub := (bz.mono (l := 1803) (by decide)).sub (bmq.mono (l := 1803) (by decide))
    refine ⟨p, dp, _, v, d4, _, rfl, rfl, hp4, h4, p, v, z, m * FS.quo z m, rfl, ⟨dp, hp4⟩, ⟨d4, h4⟩, bz.mono (by decide), bmq.mono (by decide), bsub.mono (by decide), fun H5 y s5 h5 => ?_⟩
    refine ⟨by show 2 ≤ sizeLine; decide, fun t' ht' => ?_⟩
    have s6 := Same.up (o := .tup [.ref u, .ref y]) ht'
    exact k _ t' u y ((((((s1.trans s2).trans s3).trans s4).trans s5).trans s6)) upd_same (h5.same s6)
/-! ### odd_part -/
def spOdd (C : Addr) : Sp := fun vs H Q _ => ∃ (p : Addr) (z : GI), vs = [.ref p] ∧ PairAt C H p z ∧ BG 2990 z ∧ z ≠ 0 ∧
  ∀ (H' : Hp) (t a : Addr) (k : Nat) (l : GI), Same H H' → H' t = some (.tup [.int k, .ref a]) → PairAt C H' a l → z = FS.E ^ k * l → FS.G.norm l % 2 = 1 → FS.G.norm l ≤ FS.G.norm z → BG 2990 l → (k : Int) ≤ FS.G.norm z → Q (.ref t) H'
theorem scOdd : FnScope ["self", "times", "left"] ["self"] (defScope (sPair 13)) := ⟨rfl, rfl, rfl, by decide +kernel, rfl, by decide +kernel, by decide +kernel⟩
theorem halve_B {k : Nat} {z : GI} (h : BG k z) : BG k (FS.halve z) := by
  unfold BG B FS.halve at *; simp only; omega
theorem ok_odd {f C : Addr} {fd : FuncData} (F : Fun K "odd_part" "Pair.odd_part" (sPair 13) f fd) (T : TP K mg C) (c : CalC P w K mg base 4 "Pair" C (spInit C)) :
    FnOk P w K mg base CX0 6 f fd ["self"] (spOdd C) := by
  refine F.ok scOdd (fun vs H Q E h => ?_) (fun cdv A outer s H vs Q E hr h => ?_)
  · obtain ⟨p, z, rfl, _⟩ := h; rfl
  · obtain ⟨p, z, rfl, ⟨dp, hp⟩, bz, hz, q⟩ := h
    have hN := FS.G.norm_pos hz
    refine ⟨_, pss_cons (ps_if (pt_cmp (pc_eqI (pe_fld (pv 0) rfl) pe_int)) pss_never pss_nil)
      (pss_cons (ps_par (i := 1) (j := 2) rfl scOdd.nd rfl rfl (by decide) rfl rfl (pa_cons pe_int (pa_cons (pv 0) pa_nil)) (by rfl))
      (pss_cons (ps_while PassesOwn.never (pt_cmp (pc_eqI (pe_op op_mod (pe_fld (pv 2) rfl) pe_int) pe_int))
        (pss_cons (ps_set (i := 2) scOdd.nd rfl (.inl rfl) (pe_mk c hr (by rfl) (pa_cons (pe_op op_fdiv (pe_op op_add (pe_fld (pv 2) rfl) (pe_fld (pv 2) rfl)) pe_int)
          (pa_cons (pe_op op_fdiv (pe_op op_sub (pe_fld (pv 2) rfl) (pe_fld (pv 2) rfl)) pe_int) pa_nil))))
        (pss_one (ps_set (i := 1) scOdd.nd rfl (.inl rfl) (pe_op op_add (pv 1) pe_int)))))
      (pss_one (ps_ret (pe_tup (pa_cons (pv 1) (pa_cons (pv 2) pa_nil))))))), ?_⟩
    refine ⟨_, rfl, p, C, dp, _, _, rfl, hp, T.cl, T.n3, pf_norm _, _, _, rfl, rfl, _, rfl, ?_⟩
    refine ite2 (fun hc => absurd (of_decide_eq_true hc) (by omega)) (fun _ => ?_)
    refine ⟨_, rfl, _, _, rfl, ?_⟩
    refine ⟨fun m σ H' => ∃ (k : Nat) (a : Addr) (l : GI), σ = [some (.ref p), some (.int k), some (.ref a)] ∧ Same H H' ∧ PairAt C H' a l ∧ z = FS.E ^ k * l ∧ 0 < FS.G.norm l ∧ FS.G.norm l + k ≤ FS.G.norm z ∧ BG 2990 l ∧ m = (FS.G.norm l).toNat,
      ⟨_, 0, p, z, rfl, Same.refl H, ⟨dp, hp⟩, (pow_zero_mul _ _).symm, hN, by simp, bz, rfl⟩, ?_⟩
    rintro m σ H' ⟨k, a, l, rfl, sm, ⟨da, ha⟩, ez, l0, l1, bl, rfl⟩
    refine ⟨_, rfl, a, C, da, _, _, rfl, ha, T.cl, T.n3, pf_norm _, _, _, rfl, rfl, (by show (0 : Int) < 2; decide), _, _, rfl, rfl, _, rfl, ?_⟩
    refine ite2 (fun hc => ?_) (fun hc => ?_)
    · have h0 : FS.G.norm l % 2 = 0 := of_decide_eq_true hc
      refine ⟨_, fun _ _ h => h, ?_⟩
      refine ⟨_, rfl, a, C, da, _, _, rfl, ha, T.cl, T.n1, pf_one _, _, rfl, a, C, da, _, _, rfl, ha, T.cl, T.n2, pf_other _, _, _, rfl, rfl, _, _, rfl, rfl, ⟨by decide, by decide⟩, ?_⟩
      refine ⟨_, rfl, a, C, da, _, _, rfl, ha, T.cl, T.n2, pf_other _, _, rfl, a, C, da, _, _, rfl, ha, T.cl, T.n1, pf_one _, _, _, rfl, rfl, _, _, rfl, rfl, ⟨by decide, by decide⟩, ?_⟩
      intro b db nb ndb neb
      refine mk_pair' (z := FS.halve l) ((halve_B bl).mono (by decide)) nb ndb fun H2 s2 h2 => ⟨rfl, ?_⟩
      refine ⟨_, rfl, _, _, rfl, rfl, ?_⟩
      have en := FS.halve_norm h0
      refine ⟨(FS.G.norm (FS.halve l)).toNat, by omega, k + 1, b, FS.halve l, rfl, sm.trans s2, h2, ?_, by omega, by omega, halve_B bl, rfl⟩
      rw [ez, E_pow_succ, ← FS.halve_mul h0]
    · have h1 : FS.G.norm l % 2 = 1 := by
        have : ¬ FS.G.norm l % 2 = 0 := fun e => hc (decide_eq_true e)
        omega
      refine ⟨_, rfl, _, rfl, by show 2 ≤ sizeLine; decide, fun t ht => ?_⟩
      have s6 := Same.up (o := .tup [.int k, .ref a]) ht
      exact q _ t a k l (sm.trans s6) upd_same (PairAt.same ⟨da, ha⟩ s6) ez h1 (by omega) bl (by omega)
/-! ### primary -/
def spPry (C : Addr) : Sp := fun vs H Q _ => ∃ (p : Addr) (z : GI), vs = [.ref p] ∧ PairAt C H p z ∧ BG 2990 z ∧ FS.G.norm z % 2 = 1 ∧
  ∀ (H' : Hp) (t a : Addr) (k : Nat) (l : GI), Same H H' → H' t = some (.tup [.int k, .ref a]) → PairAt C H' a l → z = FS.G.I ^ k * l → FS.Prim l → FS.G.norm l = FS.G.norm z → BG 2990 l → k < 4 → Q (.ref t) H'
theorem scPry : FnScope ["self", "power", "found"] ["self"] (defScope (sPair 14)) := ⟨rfl, rfl, rfl, by decide +kernel, rfl, by decide +kernel, by decide +kernel⟩
theorem turns_lt (z : GI) : FS.turns z < 4 := by
  unfold FS.turns
  repeat' split
  all_goals omega
theorem turnBack_B {k : Nat} {z : GI} (h : BG k z) : BG k (FS.turnBack z) := ⟨h.2, h.1.neg⟩
theorem ok_pry {f C : Addr} {fd : FuncData} (F : Fun K "primary" "Pair.primary" (sPair 14) f fd) (T : TP K mg C) (c : CalC P w K mg base 4 "Pair" C (spInit C)) (cp : CalM P w K mg base 1 C "is_primary" (spPrim C)) :
    FnOk P w K mg base CX0 6 f fd ["self"] (spPry C) := by
  refine F.ok scPry (fun vs H Q E h => ?_) (fun cdv A outer s H vs Q E hr h => ?_)
  · obtain ⟨p, z, rfl, _⟩ := h; rfl
  · obtain ⟨p, z, rfl, ⟨dp, hp⟩, bz, hz, q⟩ := h
    have nopr : ∀ z : GI, (pf z).lookup ("is_primary" : Str) = none := fun z => pf_no z (by decide +kernel) (by decide +kernel) (by decide +kernel)
    refine ⟨_, pss_cons (ps_if (pt_cmp (pc_eqI (pe_op op_mod (pe_fld (pv 0) rfl) pe_int) pe_int)) pss_never pss_nil)
      (pss_cons (ps_par (i := 1) (j := 2) rfl scPry.nd rfl rfl (by decide) rfl rfl (pa_cons pe_int (pa_cons (pv 0) pa_nil)) (by rfl))
      (pss_cons (ps_while PassesOwn.never (pt_not (pt_val (pe_m0 cp (hr.mono (by decide)) T.cl (pv 2))))
        (pss_cons (ps_set (i := 2) scPry.nd rfl (.inl rfl) (pe_mk c hr (by rfl) (pa_cons (pe_fld (pv 2) rfl) (pa_cons (pe_un un_neg (pe_fld (pv 2) rfl)) pa_nil))))
        (pss_one (ps_set (i := 1) scPry.nd rfl (.inl rfl) (pe_op op_add (pv 1) pe_int)))))
      (pss_one (ps_ret (pe_tup (pa_cons (pv 1) (pa_cons (pv 2) pa_nil))))))), ?_⟩
    refine ⟨_, rfl, p, C, dp, _, _, rfl, hp, T.cl, T.n3, pf_norm _, _, _, rfl, rfl, (by show (0 : Int) < 2; decide), _, _, rfl, rfl, _, rfl, ?_⟩
    refine ite2 (fun hc => ?_) (fun _ => ?_)
    · have h0 : FS.G.norm z % 2 = 0 := of_decide_eq_true hc
      omega
    refine ⟨_, rfl, _, _, rfl, ?_⟩
    refine ⟨fun m σ H' => ∃ (k : Nat) (a : Addr) (l : GI), σ = [some (.ref p), some (.int k), some (.ref a)] ∧ Same H H' ∧ PairAt C H' a l ∧ z = FS.G.I ^ k * l ∧ FS.G.norm l = FS.G.norm z ∧ BG 2990 l ∧ k + FS.turns l < 4 ∧ m = FS.turns l,
      ⟨_, 0, p, z, rfl, Same.refl H, ⟨dp, hp⟩, (pow_zero_mul _ _).symm, rfl, bz, by have := turns_lt z; omega, rfl⟩, ?_⟩
    rintro m σ H' ⟨k, a, l, rfl, sm, ⟨da, ha⟩, ez, l1, bl, hk4, rfl⟩
    refine ⟨_, rfl, a, da, _, rfl, ha, nopr _, a, l, rfl, ⟨da, ha⟩, _, rfl, ?_⟩
    by_cases hb : FS.primB l = true
    · rw [hb]
      refine iteF ?_
      refine ⟨_, rfl, _, rfl, by show 2 ≤ sizeLine; decide, fun t ht => ?_⟩
      have s6 := Same.up (o := .tup [.int k, .ref a]) ht
      exact q _ t a k l (sm.trans s6) upd_same (PairAt.same ⟨da, ha⟩ s6) ez (FS.primB_iff.mp hb) l1 bl (by omega)
    · have hb' : FS.primB l = false := by simpa using hb
      rw [hb']
      refine iteT ?_
      refine ⟨_, fun _ _ h => h, ?_⟩
      refine ⟨_, rfl, a, C, da, _, _, rfl, ha, T.cl, T.n2, pf_other _, _, rfl, a, C, da, _, _, rfl, ha, T.cl, T.n1, pf_one _, _, rfl, ?_⟩
      intro b db nb ndb neb
      refine mk_pair' (z := FS.turnBack l) ((turnBack_B bl).mono (by decide)) nb ndb fun H2 s2 h2 => ⟨rfl, ?_⟩
      refine ⟨_, rfl, _, _, rfl, rfl, ?_⟩
      have htd := FS.turns_down (z := l) (by omega) hb'
      refine ⟨FS.turns (FS.turnBack l), htd, k + 1, b, FS.turnBack l, rfl, sm.trans s2, h2, ?_, by rw [FS.turnBack_norm]; exact l1, turnBack_B bl, by omega, rfl⟩
      have e1 := FS.turnBack_mul l
      have e2 : FS.G.I ^ (k + 1) * FS.turnBack l = FS.G.I ^ k * (FS.G.I * FS.turnBack l) := by
        show (FS.G.I ^ k * FS.G.I) * _ = _; grind
      rw [e2, ← e1]; exact ez
end
end Toy
namespace Toy
open PySem L2
section
variable {P : Program} {w : World} {K : PySem.W.Frag} {mg : Str → Option Value} {base : Heap}
/-! ### need_both -/
def spBoth (C : Addr) : Sp := fun vs H Q _ => ∃ (p q : Addr) (z m : GI), vs = [.ref p, .ref q] ∧ PairAt C H p z ∧ PairAt C H q m ∧ FS.G.norm m % 2 = 1 ∧ Q .non H
theorem scBoth : FnScope ["number", "by"] ["number", "by"] (defScope (top 24)) := ⟨rfl, rfl, rfl, by decide +kernel, rfl, by decide +kernel, by decide +kernel⟩
theorem ok_both {f C : Addr} {fd : FuncData} (F : Fun K "need_both" "need_both" (top 24) f fd) (T : TP K mg C) (c1 : Cal P w K mg base 1 "need_pair" (spNeedPair C)) : FnOk P w K mg base CX0 2 f fd ["number", "by"] (spBoth C) := by
  refine F.ok scBoth (fun vs H Q E h => ?_) (fun cdv A outer s H vs Q E hr h => ?_)
  · obtain ⟨p, q, z, m, rfl, _⟩ := h; rfl
  · obtain ⟨p, q, z, m, rfl, hp, ⟨dq, hq⟩, ho, k⟩ := h
    refine ⟨_, pss_cons (ps_expr (pe_c c1 hr (by rfl) (pa_cons (pv 0) (pa_cons pe_str pa_nil)))) (pss_cons (ps_expr (pe_c c1 hr (by rfl) (pa_cons (pv 1) (pa_cons pe_str pa_nil))))
      (pss_one (ps_if (pt_cmp (pc_eqI (pe_op op_mod (pe_fld (pv 1) rfl) pe_int) pe_int)) pss_never pss_nil))), ?_⟩
    refine ⟨_, rfl, p, z, _, rfl, hp, _, rfl, q, m, _, rfl, ⟨dq, hq⟩, ?_⟩
    refine ⟨_, rfl, q, C, dq, _, _, rfl, hq, T.cl, T.n3, pf_norm _, _, _, rfl, rfl, (by show (0 : Int) < 2; decide), _, _, rfl, rfl, _, rfl, ?_⟩
    refine ite2 (fun hc => ?_) (fun _ => k)
    have h0 : FS.G.norm m % 2 = 0 := of_decide_eq_true hc
    omega
/-! ### numbers_of -/
def Num (H : Hp) (n : Addr) : Prop := ∃ x y : Int, H n = some (.tup [.int x, .int y])
theorem Num.same {H H' : Hp} {n : Addr} (h : Num H n) (s : Same H H') : Num H' n := by
  obtain ⟨x, y, e⟩ := h; exact ⟨x, y, s _ _ e⟩
def spNums (C : Addr) : Sp := fun vs H Q _ => ∃ (p : Addr) (z : GI), vs = [.ref p] ∧ PairAt C H p z ∧ ∀ (H' : Hp) (t : Addr), Same H H' → Num H' t → Q (.ref t) H'
theorem scNums : FnScope ["pair"] ["pair"] (defScope (top 25)) := ⟨rfl, rfl, rfl, by decide +kernel, rfl, by decide +kernel, by decide +kernel⟩
theorem ok_nums {f C : Addr} {fd : FuncData} (F : Fun K "numbers_of" "numbers_of" (top 25) f fd) (T : TP K mg C) : FnOk P w K mg base CX0 1 f fd ["pair"] (spNums C) := by
  refine F.ok scNums (fun vs H Q E h => ?_) (fun cdv A outer s H vs Q E hr h => ?_)
  · obtain ⟨p, z, rfl, _⟩ := h; rfl
  · obtain ⟨p, z, rfl, ⟨dp, hp⟩, k⟩ := h
    refine ⟨_, pss_one (ps_ret (pe_tup (pa_cons (pe_fld (pv 0) rfl) (pa_cons (pe_fld (pv 0) rfl) pa_nil)))), ?_⟩
    refine ⟨_, rfl, p, C, dp, _, _, rfl, hp, T.cl, T.n1, pf_one _, _, rfl, p, C, dp, _, _, rfl, hp, T.cl, T.n2, pf_other _, by show 2 ≤ sizeLine; decide, fun t ht => ?_⟩
    exact k _ t (Same.up ht) ⟨_, _, upd_same⟩
/-! ### quarter -/
def spQuarter (C : Addr) : Sp := fun vs H Q _ => ∃ (p : Addr) (z : GI), vs = [.ref p] ∧ PairAt C H p z ∧ Q (.int ((FS.G.norm z - 1) / 4)) H
theorem scQuarter : FnScope ["pair"] ["pair"] (defScope (top 26)) := ⟨rfl, rfl, rfl, by decide +kernel, rfl, by decide +kernel, by decide +kernel⟩
theorem ok_quarter {f C : Addr} {fd : FuncData} (F : Fun K "quarter" "quarter" (top 26) f fd) (T : TP K mg C) : FnOk P w K mg base CX0 1 f fd ["pair"] (spQuarter C) := by
  refine F.ok scQuarter (fun vs H Q E h => ?_) (fun cdv A outer s H vs Q E hr h => ?_)
  · obtain ⟨p, z, rfl, _⟩ := h; rfl
  · obtain ⟨p, z, rfl, ⟨dp, hp⟩, k⟩ := h
    refine ⟨_, pss_one (ps_ret (pe_op op_fdiv (pe_op op_sub (pe_fld (pv 0) rfl) pe_int) pe_int)), ?_⟩
    exact ⟨_, rfl, p, C, dp, _, _, rfl, hp, T.cl, T.n3, pf_norm _, _, _, rfl, rfl, _, _, rfl, rfl, ⟨by decide, by decide⟩, k⟩
/-! ### change_of -/
def spChange (C : Addr) : Sp := fun vs H Q _ => ∃ (p q : Addr) (m l : GI) (t u : Int), vs = [.ref p, .int t, .int u, .ref q] ∧ PairAt C H p m ∧ PairAt C H q l ∧ BG 2990 m ∧ B 2990 t ∧ B 2990 u ∧ Q (.int (FS.chg m t u l)) H
theorem scChange : FnScope ["by", "times", "power", "left", "first", "both"] ["by", "times", "power", "left"] (defScope (top 27)) := ⟨rfl, rfl, rfl, by decide +kernel, rfl, by decide +kernel, by decide +kernel⟩
theorem B.div {k : Nat} {a : Int} (h : B k a) : B (k + 1) (a / 4) := by
  unfold B at *; have : (2 : Nat) ^ (k + 1) = 2 ^ k * 2 := Nat.pow_succ 2 k
  have : 0 < 2 ^ k := Nat.pow_pos (by decide)
  omega
theorem ok_change {f C : Addr} {fd : FuncData} (F : Fun K "change_of" "change_of" (top 27) f fd) (T : TP K mg C) (c1 : Cal P w K mg base 1 "quarter" (spQuarter C)) : FnOk P w K mg base CX0 2 f fd ["by", "times", "power", "left"] (spChange C) := by
  refine F.ok scChange (fun vs H Q E h => ?_) (fun cdv A outer s H vs Q E hr h => ?_)
  · obtain ⟨p, q, m, l, t, u, rfl, _⟩ := h; rfl
  · obtain ⟨p, q, m, l, t, u, rfl, ⟨dp, hp⟩, ⟨dq, hq⟩, bm, bt, bu, k⟩ := h
    refine ⟨_, pss_cons (ps_set (i := 4) scChange.nd rfl (.inl rfl) (pe_op op_mulW (pv 1) (pe_op op_fdiv (pe_op op_sub (pe_op op_sub (pe_op op_sub (pe_fld (pv 0) rfl) (pe_fld (pv 0) rfl)) (pe_op op_mulW (pe_fld (pv 0) rfl) (pe_fld (pv 0) rfl))) pe_int) pe_int)))
      (pss_cons (ps_set (i := 5) scChange.nd rfl (.inl rfl) (pe_ifExp (PW.pt (pw_and (pt_cmp (pc_eqI (pe_op op_mod (pe_c c1 hr (by rfl) (pa_cons (pv 0) pa_nil)) pe_int) pe_int))
          (pw_and1 (pt_cmp (pc_eqI (pe_op op_mod (pe_c c1 hr (by rfl) (pa_cons (pv 3) pa_nil)) pe_int) pe_int))))) pe_int pe_int))
      (pss_one (ps_ret (pe_op op_mod (pe_op op_add (pe_op op_add (pv 4) (pe_op op_mulW (pv 2) (pe_c c1 hr (by rfl) (pa_cons (pv 0) pa_nil)))) (pv 5)) pe_int)))), ?_⟩
    have b2 := bm.2.mul bm.2
    have b1 := (((bm.1.sub bm.2).mono (l := 5980) (by decide)).sub b2).sub (show B 5981 1 from Nat.one_lt_two_pow (by decide))
    have b3 := b1.div
    have bq := ((bm.norm).sub (show B 5981 1 from Nat.one_lt_two_pow (by decide))).div
    refine ⟨_, rfl, _, rfl, p, C, dp, _, _, rfl, hp, T.cl, T.n1, pf_one _, _, rfl, p, C, dp, _, _, rfl, hp, T.cl, T.n2, pf_other _, _, _, rfl, rfl, ?_⟩
    refine ⟨_, rfl, p, C, dp, _, _, rfl, hp, T.cl, T.n2, pf_other _, _, rfl, p, C, dp, _, _, rfl, hp, T.cl, T.n2, pf_other _, _, _, rfl, rfl, bm.2.mulW bm.2 (by decide) (by decide) (by decide), _, _, rfl, rfl, ?_⟩
    refine ⟨_, _, rfl, rfl, _, _, rfl, rfl, ⟨by decide, by decide⟩, _, _, rfl, rfl, bt.mulW b3 (by decide) (by decide) (by decide), ?_⟩
    -- both
    refine ⟨_, rfl, p, m, rfl, ⟨dp, hp⟩, _, _, rfl, rfl, (by show (0 : Int) < 2; decide), _, _, rfl, rfl, _, rfl, ?_⟩
    have fin : ∀ (b : Int), b = (if (FS.G.norm m - 1) / 4 % 2 = 1 ∧ (FS.G.norm l - 1) / 4 % 2 = 1 then 2 else 0) → Q (.int ((t * ((m.re - m.im - m.im * m.im - 1) / 4) + u * ((FS.G.norm m - 1) / 4) + b) % 4)) H := by
      intro b hb; rw [hb]; exact k
    refine ite2 (fun hc => ?_) (fun hc => ?_)
    · have h1 : (FS.G.norm m - 1) / 4 % 2 = 1 := of_decide_eq_true hc
      refine ⟨_, rfl, q, l, rfl, ⟨dq, hq⟩, _, _, rfl, rfl, (by show (0 : Int) < 2; decide), _, _, rfl, rfl, _, rfl, ?_⟩
      refine ite2 (fun hd => ?_) (fun hd => ?_)
      · have h2 : (FS.G.norm l - 1) / 4 % 2 = 1 := of_decide_eq_true hd
        refine ⟨_, rfl, _, rfl, _, rfl, p, m, rfl, ⟨dp, hp⟩, _, _, rfl, rfl, bu.mulW bq (by decide) (by decide) (by decide), _, _, rfl, rfl, _, rfl, _, _, rfl, rfl, _, _, rfl, rfl, (by show (0 : Int) < 4; decide), fin 2 ?_⟩
        rw [if_pos ⟨h1, h2⟩]
      · have h2 : ¬ (FS.G.norm l - 1) / 4 % 2 = 1 := fun e => hd (decide_eq_true e)
        refine ⟨_, rfl, _, rfl, _, rfl, p, m, rfl, ⟨dp, hp⟩, _, _, rfl, rfl, bu.mulW bq (by decide) (by decide) (by decide), _, _, rfl, rfl, _, rfl, _, _, rfl, rfl, _, _, rfl, rfl, (by show (0 : Int) < 4; decide), fin 0 ?_⟩
        rw [if_neg (fun e => h2 e.2)]
    · have h1 : ¬ (FS.G.norm m - 1) / 4 % 2 = 1 := fun e => hc (decide_eq_true e)
      refine ⟨_, rfl, _, rfl, _, rfl, p, m, rfl, ⟨dp, hp⟩, _, _, rfl, rfl, bu.mulW bq (by decide) (by decide) (by decide), _, _, rfl, rfl, _, rfl, _, _, rfl, rfl, _, _, rfl, rfl, (by show (0 : Int) < 4; decide), fin 0 ?_⟩
      rw [if_neg (fun e => h1 e.1)]
/-! ### row_of -/
def RowAt (H : Hp) (r : Addr) (c : Int) : Prop := ∃ (n1 n2 n3 : Addr) (a b : Int), H r = some (.tup [.ref n1, .ref n2, .int a, .int b, .ref n3, .int c]) ∧ Num H n1 ∧ Num H n2 ∧ Num H n3
theorem RowAt.same {H H' : Hp} {r : Addr} {c : Int} (h : RowAt H r c) (s : Same H H') : RowAt H' r c := by
  obtain ⟨n1, n2, n3, a, b, e, x, y, z⟩ := h
  exact ⟨n1, n2, n3, a, b, s _ _ e, x.same s, y.same s, z.same s⟩
def spRow (C : Addr) : Sp := fun vs H Q _ => ∃ (p q : Addr) (r m : GI), vs = [.ref p, .ref q] ∧ PairAt C H p r ∧ PairAt C H q m ∧ BG 1000 r ∧ BG 1000 m ∧ r ≠ 0 ∧
  ∀ (H' : Hp) (t row a : Addr) (k u : Nat) (l : GI), Same H H' → H' t = some (.tup [.ref row, .ref a]) → RowAt H' row (FS.chg m k u l) → PairAt C H' a l → r = FS.E ^ k * (FS.G.I ^ u * l) → FS.Prim l → FS.G.norm l ≤ FS.G.norm r → BG 2990 l → Q (.ref t) H'
theorem scRow : FnScope ["rest", "by", "times", "odd", "power", "left"] ["rest", "by"] (defScope (top 28)) := ⟨rfl, rfl, rfl, by decide +kernel, rfl, by decide +kernel, by decide +kernel⟩
theorem ok_row {f C : Addr} {fd : FuncData} (F : Fun K "row_of" "row_of" (top 28) f fd) (T : TP K mg C) (co : CalM P w K mg base 6 C "odd_part" (spOdd C)) (cp : CalM P w K mg base 6 C "primary" (spPry C))
    (cn : Cal P w K mg base 1 "numbers_of" (spNums C)) (cc : Cal P w K mg base 2 "change_of" (spChange C)) : FnOk P w K mg base CX0 7 f fd ["rest", "by"] (spRow C) := by
  refine F.ok scRow (fun vs H Q E h => ?_) (fun cdv A outer s H vs Q E hr h => ?_)
  · obtain ⟨p, q, r, m, rfl, _⟩ := h; rfl
  · obtain ⟨p, q, r, m, rfl, hp, hq, br, bm, h0, k⟩ := h
    have n1 : ∀ z : GI, (pf z).lookup ("odd_part" : Str) = none := fun z => pf_no z (by decide +kernel) (by decide +kernel) (by decide +kernel)
    have n2 : ∀ z : GI, (pf z).lookup ("primary" : Str) = none := fun z => pf_no z (by decide +kernel) (by decide +kernel) (by decide +kernel)
    have N := fun (i : Nat) {x : Str} {pos : Pos} (h : _) (h2 : _) => pg_name (X := (cxOf CX0 P w K mg base ["rest", "by", "times", "odd", "power", "left"] "row_of" (defScope (top 28)) f cdv A outer s H E).nox) (i := i) (x := x) (pos := pos) scRow.nd h h2
    refine ⟨_, pss_cons (ps_asg (pe_m0 co hr T.cl (pv 0)) (pg_tup rfl (pgs_cons (pg_name (i := 2) scRow.nd rfl (.inl rfl)) (pgs_cons (pg_name (i := 3) scRow.nd rfl (.inl rfl)) pgs_nil))))
      (pss_cons (ps_asg (pe_m0 cp hr T.cl (pv 3)) (pg_tup rfl (pgs_cons (pg_name (i := 4) scRow.nd rfl (.inl rfl)) (pgs_cons (pg_name (i := 5) scRow.nd rfl (.inl rfl)) pgs_nil))))
      (pss_one (ps_ret (pe_tup (pa_cons (pe_tup (pa_cons (pe_c cn (hr.mono (by decide)) (by rfl) (pa_cons (pv 0) pa_nil)) (pa_cons (pe_c cn (hr.mono (by decide)) (by rfl) (pa_cons (pv 1) pa_nil)) (pa_cons (pv 2) (pa_cons (pv 4)
        (pa_cons (pe_c cn (hr.mono (by decide)) (by rfl) (pa_cons (pv 5) pa_nil)) (pa_cons (pe_c cc (hr.mono (by decide)) (by rfl) (pa_cons (pv 1) (pa_cons (pv 2) (pa_cons (pv 4) (pa_cons (pv 5) pa_nil))))) pa_nil))))))) (pa_cons (pv 5) pa_nil)))))), ?_⟩
    obtain ⟨dp, hp⟩ := hp
    refine ⟨_, rfl, p, dp, _, rfl, hp, n1 _, p, r, rfl, ⟨dp, hp⟩, br.mono (by decide), h0, fun H1 t1 a1 k1 l1 s1 e1 ⟨d1, h1⟩ ez1 o1 le1 b1 bk => ?_⟩
    refine ⟨t1, _, rfl, SqT.of e1, rfl, _, _, rfl, _, _, rfl, rfl, ?_⟩
    refine ⟨_, rfl, a1, d1, _, rfl, h1, n2 _, a1, l1, rfl, ⟨d1, h1⟩, b1, o1, fun H2 t2 a2 k2 l2 s2 e2 h2 ez2 pr2 eq2 b2 bk2 => ?_⟩
    refine ⟨t2, _, rfl, SqT.of e2, rfl, _, _, rfl, _, _, rfl, rfl, ?_⟩
    have hp2 := s2 _ _ (s1 _ _ hp)
    have hq2 := (hq.same s1).same s2
    refine ⟨_, rfl, p, r, rfl, ⟨dp, hp2⟩, fun H3 u3 s3 m3 => ?_⟩
    refine ⟨_, rfl, q, m, rfl, hq2.same s3, fun H4 u4 s4 m4 => ?_⟩
    refine ⟨_, rfl, _, rfl, _, rfl, a2, l2, rfl, (h2.same s3).same s4, fun H5 u5 s5 m5 => ?_⟩
    have bkk : B 2990 (k1 : Int) := by
      have := br.norm
      have hb : B 2001 (k1 : Int) := by unfold B at *; omega
      exact hb.mono (by decide)
    have bkk2 : B 2990 (k2 : Int) := by
      have hb : B 2 (k2 : Int) := by unfold B; omega
      exact hb.mono (by decide)
    refine ⟨_, rfl, _, rfl, _, rfl, _, rfl, q, a2, m, l2, k1, k2, rfl, ((hq2.same s3).same s4).same s5, ((h2.same s3).same s4).same s5, bm.mono (by decide), bkk, bkk2, ?_⟩
    refine ⟨by show 6 ≤ sizeLine; decide, fun row hrow => ?_⟩
    have s6 := Same.up (o := .tup [.ref u3, .ref u4, .int k1, .int k2, .ref u5, .int (FS.chg m k1 k2 l2)]) hrow
    refine ⟨_, rfl, by show 2 ≤ sizeLine; decide, fun t ht => ?_⟩
    have s7 := Same.up (o := .tup [.ref row, .ref a2]) ht
    refine k _ t row a2 k1 k2 l2 (((((((s1.trans s2).trans s3).trans s4).trans s5).trans s6).trans s7)) upd_same ?_ (((((h2.same s3).same s4).same s5).same s6).same s7) ?_ pr2 (by omega) b2
    · exact RowAt.same ⟨u3, u4, u5, k1, k2, upd_same, ((m3.same s4).same s5).same s6, (m4.same s5).same s6, m5.same s6⟩ s7
    · rw [← ez2]; exact ez1
/-! ### value_of -/
def spValue (C : Addr) : Sp := fun vs H Q _ => ∃ (p : Addr) (z : GI) (t : Int), vs = [.int t, .ref p] ∧ PairAt C H p z ∧ Q (if FS.G.norm z = 1 then .int (t % 4) else .non) H
theorem scValue : FnScope ["total", "by"] ["total", "by"] (defScope (top 29)) := ⟨rfl, rfl, rfl, by decide +kernel, rfl, by decide +kernel, by decide +kernel⟩
theorem ok_value {f C : Addr} {fd : FuncData} (F : Fun K "value_of" "value_of" (top 29) f fd) (T : TP K mg C) : FnOk P w K mg base CX0 1 f fd ["total", "by"] (spValue C) := by
  refine F.ok scValue (fun vs H Q E h => ?_) (fun cdv A outer s H vs Q E hr h => ?_)
  · obtain ⟨p, z, t, rfl, _⟩ := h; rfl
  · obtain ⟨p, z, t, rfl, ⟨dp, hp⟩, k⟩ := h
    refine ⟨_, pss_one (ps_ret (pe_ifExp (pt_cmp (pc_eqI (pe_fld (pv 1) rfl) pe_int)) (pe_op op_mod (pv 0) pe_int) pe_non)), ?_⟩
    refine ⟨_, rfl, p, C, dp, _, _, rfl, hp, T.cl, T.n3, pf_norm _, _, _, rfl, rfl, _, rfl, ?_⟩
    refine ite2 (fun hc => ?_) (fun hc => ?_)
    · have h1 : FS.G.norm z = 1 := of_decide_eq_true hc
      rw [if_pos h1] at k
      exact ⟨_, rfl, _, _, rfl, rfl, (by show (0 : Int) < 4; decide), k⟩
    · have h1 : ¬ FS.G.norm z = 1 := fun e => hc (decide_eq_true e)
      rw [if_neg h1] at k
      exact k
end
end Toy
namespace Toy
open PySem L2
/-- plain values -/
def Pl (v : V) : Prop := v = .non ∨ ∃ i, v = .int i
/-- nested data, d deep -/
def Fx (H : Hp) : Nat → V → Prop
  | 0, v => Pl v
  | d + 1, v => Pl v ∨ ∃ (a : Addr) (xs : List V), v = .ref a ∧ xs.length ≤ 1000000 ∧ (H a = some (.lst xs) ∨ H a = some (.tup xs)) ∧ ∀ x ∈ xs, Fx H d x
theorem Fx.same {H H' : Hp} (s : Same H H') : ∀ {d : Nat} {v : V}, Fx H d v → Fx H' d v
  | 0, v, h => h
  | d + 1, v, h => by
    rcases h with h | ⟨a, xs, e, l, h, g⟩
    · exact .inl h
    · refine .inr ⟨a, xs, e, l, ?_, fun x hx => (g x hx).same s⟩
      rcases h with h | h
      · exact .inl (s _ _ h)
      · exact .inr (s _ _ h)
def FxO (xs ys : List V) : Prop := ys.length = xs.length ∧ ∀ (i : Nat) (x : V), xs[i]? = some x → Pl x → ys[i]? = some x
def spFixed (d : Nat) : Sp := fun vs H Q _ => ∃ v, vs = [v] ∧ Fx H d v ∧ (Pl v → ∀ H', Same H H' → Q v H') ∧
  ∀ (a : Addr) (xs : List V), v = .ref a → (H a = some (.lst xs) ∨ H a = some (.tup xs)) → ∀ (H' : Hp) (b : Addr) (ys : List V), Same H H' → H' b = some (.tup ys) → FxO xs ys → Q (.ref b) H'
structure TB2 (mg : Str → Option Value) : Prop where
  isinstance : mg "isinstance" = none
  list : mg "list" = none
  tuple : mg "tuple" = none
section
variable {P : Program} {w : World} {K : PySem.W.Frag} {mg : Str → Option Value} {base : Heap}
theorem scFixed : FnScope ["value", "part"] ["value"] (defScope (top 20)) := ⟨rfl, rfl, rfl, by decide +kernel, rfl, by decide +kernel, by decide +kernel⟩
theorem kit_no {t : String} (h : kitB t "list" = some false) (h2 : kitB t "tuple" = some false) : PySem.W.kitAny K (.type t) [.type "list", .type "tuple"] = some false :=
  kitAny_cons (kit_ty h) (fun _ => kitAny_cons (kit_ty h2) (fun _ => kitAny_nil) (fun e => nomatch e)) (fun e => nomatch e)
theorem kit_list : PySem.W.kitAny K (.type "list") [.type "list", .type "tuple"] = some true :=
  kitAny_cons (b := true) (kit_ty (b := "list") (by decide +kernel)) (fun e => nomatch e) (fun _ => rfl)
theorem kit_tuple : PySem.W.kitAny K (.type "tuple") [.type "list", .type "tuple"] = some true :=
  kitAny_cons (b := false) (kit_ty (b := "list") (by decide +kernel)) (fun _ => kitAny_cons (b := true) (kit_ty (b := "tuple") (by decide +kernel)) (fun e => nomatch e) (fun _ => rfl)) (fun e => nomatch e)
theorem fxo_step {xs ys : List V} {i : Nat} {x y : V} (hi : xs[i]? = some x) (hl : ys.length = i) (h : ∀ (j : Nat) (z : V), j < i → xs[j]? = some z → Pl z → ys[j]? = some z) (hy : Pl x → y = x) :
    ∀ (j : Nat) (z : V), j < i + 1 → xs[j]? = some z → Pl z → (ys ++ [y])[j]? = some z := by
  intro j z hj hz pz
  by_cases e : j = i
  · subst e
    rw [hi] at hz
    cases hz
    rw [← hl, List.getElem?_append_right (Nat.le_refl _), Nat.sub_self, hy pz]; rfl
  · rw [List.getElem?_append_left (by omega)]
    exact h j z (by omega) hz pz
abbrev tps : List V := [.ty "list", .ty "tuple"]
theorem tps_ok : Paired ClsV tps [.type "list", .type "tuple"] := .cons (.ty _) (.cons (.ty _) .nil)
theorem ok_fixed {f : Addr} {fd : FuncData} (F : Fun K "fixed" "fixed" (top 20) f fd) (T : TB2 mg) (m : mg "fixed" = some (.ref f)) (b : Binds K fd ["value"] []) :
    ∀ d : Nat, FnOk P w K mg base CX0 (d + 1) f fd ["value"] (spFixed d) := by
  -- a plain value goes through
  have plain : ∀ (d : Nat) (k : Nat) (cdv : Value) (A : Around) (outer : List Env) (s : Shared) (H : Hp) (v : V) (Q : VK) (E : XK), Pl v → (∀ H', Same H H' → Q v H') →
      ∃ t, PSs (cxOf CX0 P w K mg base ["value", "part"] "fixed" (defScope (top 20)) f cdv A outer s H E).nox (defBody (top 20)) t ∧ t { nx := fun _ H' => Q .non H', rt := Q } (start ["value", "part"] [v]) H := by
    intro d k cdv A outer s H v Q E pv' hq
    refine ⟨_, pss_cons (ps_if (pt_val (pe_callB call_isiT (by rfl) T.isinstance (by decide +kernel) (pa_cons (pv 0) (pa_cons (pe_tup (pa_cons (pe_bltn (v := .ty "list") (by rfl) T.list (by decide +kernel) rfl)
        (pa_cons (pe_bltn (v := .ty "tuple") (by rfl) T.tuple (by decide +kernel) rfl) pa_nil))) pa_nil)))) pss_never pss_nil) (pss_one (ps_ret (pv 0))), ?_⟩
    refine ⟨_, rfl, by show 2 ≤ sizeLine; decide, fun tp ht => ?_⟩
    have sm := Same.up (o := .tup tps) ht
    rcases pv' with rfl | ⟨i, rfl⟩
    · exact ⟨_, tp, tps, _, _, false, rfl, upd_same, tps_ok, .base .non, kit_no (by decide +kernel) (by decide +kernel), false, rfl, iteF ⟨_, rfl, hq _ sm⟩⟩
    · exact ⟨_, tp, tps, _, _, false, rfl, upd_same, tps_ok, .base (.int i), kit_no (by decide +kernel) (by decide +kernel), false, rfl, iteF ⟨_, rfl, hq _ sm⟩⟩
  intro d
  induction d with
  | zero =>
    refine F.ok scFixed (fun vs H Q E h => ?_) (fun cdv A outer s H vs Q E hr h => ?_)
    · obtain ⟨v, rfl, _⟩ := h; rfl
    · obtain ⟨v, rfl, hv, k, _⟩ := h
      exact plain 0 0 cdv A outer s H v Q E hv (k hv)
  | succ d ih =>
    have c : Cal P w K mg base (d + 1) "fixed" (spFixed d) := ⟨f, fd, _, m, F.kp, b, ih⟩
    refine F.ok scFixed (fun vs H Q E h => ?_) (fun cdv A outer s H vs Q E hr h => ?_)
    · obtain ⟨v, rfl, _⟩ := h; rfl
    · obtain ⟨v, rfl, hv, k, k2⟩ := h
      rcases hv with hv | ⟨a, xs, rfl, hlen, hH, hx⟩
      · exact plain 0 0 cdv A outer s H v Q E hv (k hv)
      · have hk := k2 a xs rfl hH
        -- one turn, whatever is walked
        have turn : ∀ (H1 : Hp) (D : Addr), Same H H1 → H1 D = none → ∀ (i : Nat) (x : V) (H' : Hp), xs[i]? = some x →
            (Same H1 H' ∧ ∃ ys : List V, H' D = some (.lst ys) ∧ ys.length = i ∧ ∀ (j : Nat) (z : V), j < i → xs[j]? = some z → Pl z → ys[j]? = some z) →
            tC (spFixed d) (tCons (tVar 1) tNil) ((wipe (start ["value", "part"] [.ref a]) [1]).set 1 (some x)) H' fun y H4 => ∃ acc, H4 D = some (.lst acc) ∧ acc.length < sizeLine ∧
              (Same H1 (upd H4 D (.lst (acc ++ [y]))) ∧ ∃ ys : List V, upd H4 D (.lst (acc ++ [y])) D = some (.lst ys) ∧ ys.length = i + 1 ∧ ∀ (j : Nat) (z : V), j < i + 1 → xs[j]? = some z → Pl z → ys[j]? = some z) := by
          rintro H1 D s0 hD i x H' hi ⟨sm, ys, hys, hl, hyz⟩
          have hil : i < xs.length := (List.getElem?_eq_some_iff.mp hi).1
          have hbig : ys.length < sizeLine := Nat.lt_of_le_of_lt (show ys.length ≤ 1000000 by omega) (by decide)
          have fin : ∀ (y : V) (H4 : Hp), Same H' H4 → (Pl x → y = x) → ∃ acc, H4 D = some (.lst acc) ∧ acc.length < sizeLine ∧
              (Same H1 (upd H4 D (.lst (acc ++ [y]))) ∧ ∃ ys : List V, upd H4 D (.lst (acc ++ [y])) D = some (.lst ys) ∧ ys.length = i + 1 ∧ ∀ (j : Nat) (z : V), j < i + 1 → xs[j]? = some z → Pl z → ys[j]? = some z) := by
            intro y H4 s4 hy
            refine ⟨ys, s4 _ _ hys, hbig, fun b o e => ?_, ys ++ [y], upd_same, by rw [List.length_append, hl]; rfl, fxo_step hi hl hyz hy⟩
            rw [upd_ne (ne_of_none e hD)]
            exact s4 _ _ (sm _ _ e)
          refine ⟨x, rfl, x, rfl, (hx x (List.mem_of_getElem? hi)).same (s0.trans sm), fun px H4 s4 => fin x H4 s4 (fun _ => rfl), ?_⟩
          rintro a2 xs2 rfl h2 H4 b4 ys4 s4 e4 o4
          refine fin _ H4 s4 (fun px => ?_)
          rcases px with e | ⟨n, e⟩ <;> cases e
        rcases hH with hL | hT
        · refine ⟨_, pss_cons (ps_if (pt_val (pe_callB call_isiT (by rfl) T.isinstance (by decide +kernel) (pa_cons (pv 0) (pa_cons (pe_tup (pa_cons (pe_bltn (v := .ty "list") (by rfl) T.list (by decide +kernel) rfl)
            (pa_cons (pe_bltn (v := .ty "tuple") (by rfl) T.tuple (by decide +kernel) rfl) pa_nil))) pa_nil))))
            (pss_one (ps_ret (pe_callTy call_tuple_of (by rfl) T.tuple (by decide +kernel) (pa_cons (pe_lc (own := [("part", 1)]) (g := gName 1) (tt := tYes) rfl scFixed.nd (pi_list (pv 0)) (blkOk_by (own := [("part", 1)]) (N := ["value", "part"]) (sc := defScope (top 20)) (by decide +kernel))
              (fun _ _ _ _ _ => pg_name (i := 1) scFixed.nd rfl (Or.inl rfl)) (fun _ _ _ _ _ => pts_nil) (fun _ _ _ _ _ => pe_c c hr (by rfl) (pa_cons (pv 1) pa_nil))) pa_nil)))) pss_nil) pss_never, ?_⟩
          refine ⟨_, rfl, by show 2 ≤ sizeLine; decide, fun tp ht => ?_⟩
          have sm := Same.up (o := .tup tps) ht
          refine ⟨_, tp, tps, _, _, true, rfl, upd_same, tps_ok, .base (.lst (sm _ _ hL)), kit_list, true, rfl, iteT ?_⟩
          refine ⟨_, rfl, a, rfl, ⟨xs, SqL.of (sm _ _ hL)⟩, fun D hD => ?_⟩
          refine lc_list (K := K) (a := a) (xs := xs) (fun i H' => Same (upd H tp (.tup tps)) H' ∧ ∃ ys : List V, H' D = some (.lst ys) ∧ ys.length = i ∧ ∀ (j : Nat) (z : V), j < i → xs[j]? = some z → Pl z → ys[j]? = some z)
            ⟨Same.up hD, [], upd_same, rfl, fun j z hj => absurd hj (Nat.not_lt_zero _)⟩ (fun i H' _ ⟨s1, _⟩ => SqL.of (s1 _ _ (sm _ _ hL))) ?_ ?_
          · intro i x H' hi hP
            exact ⟨rfl, turn _ D sm hD i x H' hi hP⟩
          · rintro H' ⟨s1, ys, hys, hl, hz⟩
            refine ⟨D, ys, rfl, .inl ⟨SqL.of hys, fun l hl' => ?_⟩⟩
            have s2 := Same.up (o := .tup ys) hl'
            exact hk _ l ys ((sm.trans s1).trans s2) upd_same ⟨hl, fun i x hi px => hz i x (List.getElem?_eq_some_iff.mp hi).1 hi px⟩
        · refine ⟨_, pss_cons (ps_if (pt_val (pe_callB call_isiT (by rfl) T.isinstance (by decide +kernel) (pa_cons (pv 0) (pa_cons (pe_tup (pa_cons (pe_bltn (v := .ty "list") (by rfl) T.list (by decide +kernel) rfl)
            (pa_cons (pe_bltn (v := .ty "tuple") (by rfl) T.tuple (by decide +kernel) rfl) pa_nil))) pa_nil))))
            (pss_one (ps_ret (pe_callTy call_tuple_of (by rfl) T.tuple (by decide +kernel) (pa_cons (pe_lc (own := [("part", 1)]) (g := gName 1) (tt := tYes) rfl scFixed.nd (pi_tup (pv 0)) (blkOk_by (own := [("part", 1)]) (N := ["value", "part"]) (sc := defScope (top 20)) (by decide +kernel))
              (fun _ _ _ _ _ => pg_name (i := 1) scFixed.nd rfl (Or.inl rfl)) (fun _ _ _ _ _ => pts_nil) (fun _ _ _ _ _ => pe_c c hr (by rfl) (pa_cons (pv 1) pa_nil))) pa_nil)))) pss_nil) pss_never, ?_⟩
          refine ⟨_, rfl, by show 2 ≤ sizeLine; decide, fun tp ht => ?_⟩
          have sm := Same.up (o := .tup tps) ht
          refine ⟨_, tp, tps, _, _, true, rfl, upd_same, tps_ok, .base (.tup (sm _ _ hT)), kit_tuple, true, rfl, iteT ?_⟩
          refine ⟨_, rfl, a, rfl, ⟨xs, SqT.of (sm _ _ hT)⟩, fun D hD => ?_⟩
          refine lc_tup (K := K) (a := a) (xs := xs) (fun i H' => Same (upd H tp (.tup tps)) H' ∧ ∃ ys : List V, H' D = some (.lst ys) ∧ ys.length = i ∧ ∀ (j : Nat) (z : V), j < i → xs[j]? = some z → Pl z → ys[j]? = some z)
            ⟨Same.up hD, [], upd_same, rfl, fun j z hj => absurd hj (Nat.not_lt_zero _)⟩ (fun i H' _ ⟨s1, _⟩ => SqT.of (s1 _ _ (sm _ _ hT))) ?_ ?_
          · intro i x H' hi hP
            exact ⟨rfl, turn _ D sm hD i x H' hi hP⟩
          · rintro H' ⟨s1, ys, hys, hl, hz⟩
            refine ⟨D, ys, rfl, .inl ⟨SqL.of hys, fun l hl' => ?_⟩⟩
            have s2 := Same.up (o := .tup ys) hl'
            exact hk _ l ys ((sm.trans s1).trans s2) upd_same ⟨hl, fun i x hi px => hz i x (List.getElem?_eq_some_iff.mp hi).1 hi px⟩
end
end Toy
namespace Toy
open PySem L2
/-- all that was tracked, but for p, is as it was -/
def SameBut (p : Addr) (H H' : Hp) : Prop := ∀ b o, b ≠ p → H b = some o → H' b = some o
def ppf (w : Str) (q : Addr) : List (Str × V) := [("word", .str w), ("parts", .ref q)]
theorem nw : ¬ (("word" : Str) = "parts") := by decide +kernel
theorem ppf_put (w : V) (q : V) : putF "parts" q (putF "word" w []) = ([("word", w), ("parts", q)] : List (Str × V)) := by
  show (if ("word" : Str) = "parts" then ([(("word" : Str), q)] : List (Str × V)) else (("word" : Str), w) :: putF "parts" q []) = ([("word", w), ("parts", q)] : List (Str × V))
  rw [if_neg nw]
  rfl
/-- facts of the class FourthSteps (at C) -/
structure TF (K : PySem.W.Frag) (mg : Str → Option Value) (C : Addr) : Prop where
  cl : Cls K C
  nw : NoAttr K C "word"
  np : NoAttr K C "parts"
  nr : NoAttr K C "rows"
  nv : NoAttr K C "value"
section
variable {P : Program} {w : World} {K : PySem.W.Frag} {mg : Str → Option Value} {base : Heap}
abbrev sPaper : Stmt := inClass (top 21) 0
/-! ### Paper.__init__, of an instance of FourthSteps -/
def spPaper (C : Addr) : Sp := fun vs H Q _ => ∃ (p dx : Addr) (s : Str) (xs : List V), vs = .ref p :: .str s :: xs ∧ H p = some (.ins C dx []) ∧ xs.length ≤ 1000 ∧ (∀ x ∈ xs, Fx H 3 x) ∧
  ∀ (H' : Hp) (q : Addr) (ys : List V), SameBut p H H' → H' p = some (.ins C dx (ppf s q)) → H' q = some (.tup ys) → FxO xs ys → Q .non H'
theorem scPaper : FnScope ["self", "word", "parts"] (([("self" : Str), "word"] : List Str) ++ [("parts" : Str)]) (defScope sPaper) := ⟨rfl, rfl, rfl, by decide +kernel, rfl, by decide +kernel, by decide +kernel⟩
theorem Fx.but {H H' : Hp} {p : Addr} {C dx : Addr} {fs : List (Str × V)} (hp : H p = some (.ins C dx fs)) (s : SameBut p H H') : ∀ {d : Nat} {v : V}, Fx H d v → Fx H' d v
  | 0, v, h => h
  | d + 1, v, h => by
    rcases h with h | ⟨a, xs, e, l, h, g⟩
    · exact .inl h
    · refine .inr ⟨a, xs, e, l, ?_, fun x hx => (g x hx).but hp s⟩
      rcases h with h | h
      · exact .inl (s _ _ (ne_of h hp (by intro z; cases z)) h)
      · exact .inr (s _ _ (ne_of h hp (by intro z; cases z)) h)
theorem ok_paper {f C : Addr} {fd : FuncData} (F : Fun K "__init__" "Paper.__init__" sPaper f fd) (T : TF K mg C) (c : Cal P w K mg base 5 "fixed" (spFixed 4)) : FnR P w K mg base CX0 6 f (spPaper C) := by
  obtain ⟨oc, od, kV, doc, pm, an, cdv, ct, osl, rfl, lk, hcd⟩ := F.ex
  have R := StX.fn_star (P := P) (w := w) (mg := mg) (base := base) (CX := CX0) (k := 5) (ps := ["self", "word"]) (pv := "parts") (N := ["self", "word", "parts"])
    (sp := fun vs H Q _ => ∃ (p dx : Addr) (s : Str) (pt : Addr) (xs : List V), vs = [.ref p, .str s, .ref pt] ∧ H p = some (.ins C dx []) ∧ H pt = some (.tup xs) ∧ Fx H 4 (.ref pt) ∧
      ∀ (H' : Hp) (q : Addr) (ys : List V), SameBut p H H' → H' p = some (.ins C dx (ppf s q)) → H' q = some (.tup ys) → FxO xs ys → Q .non H')
    lk hcd scPaper StX.cxUp_none (fun us rest hl => StX.bind_star2 (B := fun us => bindArgs (PySem.W.fnOf "__init__" "Paper.__init__" (defArgs sPaper) (defBody sPaper) (defScope sPaper) .none kV doc pm an cdv ct) ⟨us, []⟩) (fun a b => rfl) (fun a b r rs => rfl) us rest hl) (fun A outer s H vs Q E hr h => ?_)
  · intro A outer s H us vs Q E hr e0 r h
    refine R A outer s H us vs Q E hr e0 r ?_
    obtain ⟨p, dx, s, xs, rfl, hp, hl, hx, k⟩ := h
    refine ⟨[.ref p, .str s], xs, rfl, rfl, Nat.le_trans hl (by decide), fun pt hpt => ?_⟩
    have sm := Same.up (o := .tup xs) hpt
    refine ⟨p, dx, s, pt, xs, rfl, sm _ _ hp, upd_same, .inr ⟨pt, xs, rfl, by omega, .inr upd_same, fun x hx' => (hx x hx').same sm⟩, fun H' q ys s1 h1 h2 h3 => k H' q ys (fun b o nb e => s1 b o nb (sm _ _ e)) h1 h2 h3⟩
  · obtain ⟨p, dx, s', pt, xs, rfl, hp, hpt, hf, k⟩ := h
    have D : ∃ t, PSs (cxOf CX0 P w K mg base ["self", "word", "parts"] "Paper.__init__" (defScope sPaper) f cdv A outer s H E).nox (defBody sPaper) t ∧
        t { nx := fun _ H' => Q .non H', rt := Q } (start ["self", "word", "parts"] [.ref p, .str s', .ref pt]) H := by
      refine ⟨_, pss_cons (ps_fld (pv 0) (pv 1) rfl) (pss_one (ps_fld (pv 0) (pe_c c hr (by rfl) (pa_cons (pv 2) pa_nil)) rfl)), ?_⟩
      refine ⟨_, rfl, _, rfl, p, C, dx, _, rfl, hp, T.cl, T.nw, (by show 0 < 1000; decide), ?_⟩
      have sb : SameBut p H (upd H p (.ins C dx (putF "word" (.str s') []))) := fun b o nb e => by rw [upd_ne nb]; exact e
      have npt : pt ≠ p := ne_of hpt hp (by intro z; cases z)
      refine ⟨_, rfl, _, rfl, hf.but hp sb, fun pl => ?_, ?_⟩
      · rcases pl with e | ⟨n, e⟩ <;> cases e
      · rintro a2 xs2 e h2 H4 b4 ys4 s4 e4 o4
        cases e
        have ex : xs2 = xs := by
          rw [upd_ne npt, hpt] at h2
          rcases h2 with h2 | h2
          · cases h2
          · cases h2; rfl
        subst ex
        have hp4 := s4 _ _ upd_same
        refine ⟨_, rfl, p, C, dx, _, rfl, hp4, T.cl, T.np, Nat.lt_of_le_of_lt (length_putF _ _ _) (by show 1 < 1000; decide), ?_⟩
        refine k _ b4 ys4 (fun b o nb e => ?_) (by rw [upd_same, ppf_put]; rfl) ?_ o4
        · rw [upd_ne nb]
          exact s4 _ _ (sb b o nb e)
        · rw [upd_ne (ne_of e4 hp4 (by intro z; cases z))]
          exact e4
    obtain ⟨t, ht, q⟩ := D
    exact ⟨t, ht.nox, q⟩
end
end Toy
namespace Toy
open PySem L2 PyProof.Rows
abbrev sFS : Stmt := inClass (top 23) 0
abbrev NFS : List Str := ["self", "rows", "value"]
/-- the context of FourthSteps.__init__ -/
def cxS (P : Program) (w : World) (K : PySem.W.Frag) (mg : Str → Option Value) (base : Heap) (f cda cc : Addr) (A : Around) (outer : List Env) (s : Shared) (H : Hp) : Cx where
  prog := P
  w := w
  K := K
  mg := mg
  base := base
  A := A.deeper (PySem.W.ksEnv "FourthSteps.__init__" (defScope sFS) s.heap.objs.size f (.ref cda) cc)
  N := NFS
  s_0 := s
  H_0 := H
  env := PySem.W.ksEnv "FourthSteps.__init__" (defScope sFS) s.heap.objs.size f (.ref cda) cc
  outer := outer
  stack := PySem.W.ksEnv "FourthSteps.__init__" (defScope sFS) s.heap.objs.size f (.ref cda) cc :: outer
  ex := []
  calm := true
  fn := fun _ => false
  pn := []
  xe := fun _ _ => False
/-- what of the text super().__init__ leans on -/
structure SupF (P : Program) (K : PySem.W.Frag) (mg : Str → Option Value) (C f g cc cda : Addr) (fd : FuncData) : Prop where
  fn : ∃ (oc : Value) (od : Option Addr) (dV kV doc pm ct : Value) (an : Option Addr) (osl : Array (Option Value)),
    fd = PySem.W.ksFn "__init__" "FourthSteps.__init__" (defArgs sFS) (defBody sFS) (defScope sFS) dV kV doc pm an (.ref cda) ct cc ∧ K.lookup f = some ⟨oc, od, .func fd, osl⟩
  code : PySem.W.codeIn K (.ref cda) "FourthSteps.__init__" = true
  rec_ : ∃ (ccl : Value) (cdd : Option Addr) (vs : Array Value) (ccs : Array (Option Value)) (file : Str) (tf : Tok), K.lookup cda = some ⟨ccl, cdd, .fields vs, ccs⟩ ∧ vs[2]? = some (.str file tf) ∧ ((P.main.file : Str) == file) = true
  cell : ∃ (cl : Value) (cld : Option Addr) (csl : Array (Option Value)), K.lookup cc = some ⟨cl, cld, .cell (some (.ref C)), csl⟩
  cls : ∃ cd, PySem.W.clsIn K C = some cd
  sub : PySem.W.mroIn K C (.ref C) = some true
  sup : mg "super" = none
  opq : PySem.W.nsIn K PySem.cStatics "thirdparty.any" = some none
  meth : PySem.W.ks_superIn K C C "__init__" = some (some (.ref g))
  ty : PySem.W.typeIn K (.ref g) = some (.type "function")
  fi : PySem.W.fnIn K g = true
  top : (P.main.scope.names.lookup ("super" : Str)).isSome = false
section
variable {P : Program} {w : World} {K : PySem.W.Frag} {mg : Str → Option Value} {base : Heap}
theorem kinds {x : Str} (h : (defScope sFS).names.lookup x = some .cell ∨ (defScope sFS).names.lookup x = some .free) : x = "__class__" := by
  have e : (defScope sFS).names = ([(("self" : Str), NameKind.local), ("rows", .local), ("value", .local), ("__class__", .free), ("super", .globalImplicit)] : List (Str × NameKind)) := by decide +kernel
  rw [e] at h
  by_cases h1 : x = "self"
  · subst h1
    rcases h with h | h <;> exact absurd h (by decide +kernel)
  by_cases h2 : x = "rows"
  · subst h2
    rcases h with h | h <;> exact absurd h (by decide +kernel)
  by_cases h3 : x = "value"
  · subst h3
    rcases h with h | h <;> exact absurd h (by decide +kernel)
  by_cases h4 : x = "__class__"
  · exact h4
  by_cases h5 : x = "super"
  · subst h5
    rcases h with h | h <;> exact absurd h (by decide +kernel)
  have b : ∀ y : Str, ¬ x = y → (x == y) = false := fun y hy => beq_eq_false_iff_ne.mpr hy
  rw [List.lookup_cons, b _ h1, List.lookup_cons, b _ h2, List.lookup_cons, b _ h3, List.lookup_cons, b _ h4, List.lookup_cons, b _ h5] at h
  rcases h with h | h <;> cases h
theorem cellLk (cc : Addr) : List.lookup ("__class__" : Str) [(("__class__" : Str), cc)] = some cc := by
  rw [List.lookup_cons, show (("__class__" : Str) == ("__class__" : Str)) = true by decide +kernel]
theorem k_self : (defScope sFS).names.lookup ("self" : Str) = some .local := by decide +kernel
theorem k_rows : (defScope sFS).names.lookup ("rows" : Str) = some .local := by decide +kernel
theorem k_value : (defScope sFS).names.lookup ("value" : Str) = some .local := by decide +kernel
theorem k_super : (defScope sFS).names.lookup ("super" : Str) = some .globalImplicit := by decide +kernel
theorem k_class : (defScope sFS).names.lookup ("__class__" : Str) = some .free := by decide +kernel
theorem lk_value (a b c : Value) : List.lookup ("value" : Str) [(("value" : Str), c), ("rows", b), ("self", a)] = some c := by
  rw [List.lookup_cons, show (("value" : Str) == ("value" : Str)) = true by decide +kernel]
theorem lk_rows (a b c : Value) : List.lookup ("rows" : Str) [(("value" : Str), c), ("rows", b), ("self", a)] = some b := by
  rw [List.lookup_cons, show (("rows" : Str) == ("value" : Str)) = false by decide +kernel, List.lookup_cons, show (("rows" : Str) == ("rows" : Str)) = true by decide +kernel]
theorem lk_self (a b c : Value) : List.lookup ("self" : Str) [(("value" : Str), c), ("rows", b), ("self", a)] = some a := by
  rw [List.lookup_cons, show (("self" : Str) == ("value" : Str)) = false by decide +kernel, List.lookup_cons, show (("self" : Str) == ("rows" : Str)) = false by decide +kernel, List.lookup_cons, show (("self" : Str) == ("self" : Str)) = true by decide +kernel]
theorem inv_startS {f cda cc C : Addr} {A : Around} {outer : List Env} {s : Shared} {H : Hp} {us : List Value} {vs : List V} {h1 : Heap} {tk : Nat} (cell : ∃ (cl : Value) (cld : Option Addr) (csl : Array (Option Value)), K.lookup cc = some ⟨cl, cld, .cell (some (.ref C)), csl⟩)
    (hd : A.handled = none) (e0 : Env0 P w K mg base A outer s H) (hl : vs.length = 3) (r : Vals vs us)
    (hns : h1.Ns s.heap.objs.size (fun x => (NFS.zip us).reverse.lookup x)) (hk : ∀ b o, s.heap.get? b = some o → h1.get? b = some o) :
    Inv (cxS P w K mg base f cda cc A outer s H) [] (vs.map some) H { s with heap := h1, toks := tk } := by
  obtain ⟨cl, cld, csl, hcell⟩ := cell
  have hbase : base.get? cc = some ⟨cl, cld, .cell (some (.ref C)), csl⟩ := e0.mod.kin _ _ hcell
  have noA : ∀ b : Addr, b ∉ (cxS P w K mg base f cda cc A outer s H).ex := fun b z => absurd (show b ∈ ([] : List Addr) from z) (by simp)
  have lkc : ∀ (x : Str) (c : Addr), (cxS P w K mg base f cda cc A outer s H).env.cells.lookup x = some c → c = cc ∧ x = "__class__" := by
    intro x c h
    have h' : List.lookup x [(("__class__" : Str), cc)] = some c := h
    rw [List.lookup_cons] at h'
    by_cases e : x = "__class__"
    · subst e
      have : (("__class__" : Str) == ("__class__" : Str)) = true := by decide +kernel
      rw [this] at h'
      cases h'
      exact ⟨rfl, rfl⟩
    · rw [beq_eq_false_iff_ne.mpr e] at h'
      cases h'
  obtain ⟨v0, v1, v2, rfl⟩ : ∃ v0 v1 v2, vs = [v0, v1, v2] := by
    match vs, hl with
    | [a, b, c], _ => exact ⟨a, b, c, rfl⟩
  obtain ⟨u0, u1, u2, rfl, r0, r1, r2⟩ : ∃ u0 u1 u2, us = [u0, u1, u2] ∧ RelV v0 u0 ∧ RelV v1 u1 ∧ RelV v2 u2 := by
    cases r with
    | cons a t =>
      cases t with
      | cons b t =>
        cases t with
        | cons c t =>
          cases t
          exact ⟨_, _, _, rfl, a, b, c⟩
  refine ⟨⟨e0.mod, rfl, rfl, rfl, Nat.le_refl _, fun y z c h1 h2 => ?_, fun y hy => ?_, fun y c h => (nomatch h), fun _ => hd, Around.frames_deeper e0.frames, .inr ⟨rfl, rfl⟩, fun b z => absurd z (noA b), e0.bs, e0.bsz, fun b _ _ => noA b, fun b z => absurd z (noA b), e0.funs, e0.frf⟩,
    rfl, e0.bare, Un.kept hk, ⟨_, hns, fun i y v h1 h2 h3 => ?_⟩, fun y c h => ?_, e0.hok.fresh (Nat.le_refl _), fun y c h => ?_, fun p hp => absurd (show p ∈ ([] : List (Addr × Obj)) from hp) (by simp), e0.hok.kept hk, rfl⟩
  · rw [(lkc y c h1).2, (lkc z c h2).2]
  · have := kinds hy
    subst this
    exact ⟨cc, cellLk cc⟩
  · match i, h1, h2 with
    | 0, h1, h2 =>
      cases h1; cases h2
      exact ⟨u0, r0, .inl ⟨k_self, lk_self u0 u1 u2⟩⟩
    | 1, h1, h2 =>
      cases h1; cases h2
      exact ⟨u1, r1, .inl ⟨k_rows, lk_rows u0 u1 u2⟩⟩
    | 2, h1, h2 =>
      cases h1; cases h2
      exact ⟨u2, r2, .inl ⟨k_value, lk_value u0 u1 u2⟩⟩
    | n + 3, h1, h2 => cases h2
  · obtain ⟨rfl, rfl⟩ := lkc y c h
    exact ⟨_, _, hk _ _ (e0.bs _ _ hbase).1, rfl⟩
  · obtain ⟨rfl, rfl⟩ := lkc y c h
    exact (e0.bs _ _ hbase).2

def spFS (C : Addr) : Sp := fun vs H Q _ => ∃ (p dx L : Addr) (v : V), vs = [.ref p, .ref L, v] ∧ H p = some (.ins C dx []) ∧ Fx H 3 (.ref L) ∧ Pl v ∧
  ∀ (H' : Hp) (fs : List (Str × V)), SameBut p H H' → H' p = some (.ins C dx fs) → fs.lookup ("value" : Str) = some v → Q .non H'
theorem hcellS : ∀ x ∈ (defScope sFS).names, x.2 ≠ .cell := by decide +kernel
theorem hlocS : ∀ x ∈ NFS, (defScope sFS).names.lookup x = some .local := by decide +kernel
theorem w_rows {v : V} {l : List (Str × V)} : ("rows" : Str) ≠ "word" ∧ ("rows" : Str) ≠ "parts" ∧ ("value" : Str) ≠ "word" ∧ ("value" : Str) ≠ "parts" ∧ ("value" : Str) ≠ "rows" := by decide +kernel
theorem putF_last {x : Str} {v : V} : ∀ {l : List (Str × V)}, (putF x v l).lookup x = some v
  | [] => by
    show List.lookup x [(x, v)] = some v
    rw [List.lookup_cons, show (x == x) = true from beq_self_eq_true x]
  | (y, u) :: l => by
    show (if y = x then (y, v) :: l else (y, u) :: putF x v l).lookup x = some v
    by_cases h : y = x
    · subst h
      rw [if_pos rfl, List.lookup_cons, show (y == y) = true from beq_self_eq_true y]
    · rw [if_neg h, List.lookup_cons, beq_eq_false_iff_ne.mpr (Ne.symm h)]
      exact putF_last
theorem ok_fs {f g C cc cda : Addr} {fd : FuncData} (S : SupF P K mg C f g cc cda fd) (T : TF K mg C) (Fp : FnR P w K mg base CX0 6 g (spPaper C)) : FnOk P w K mg base CX0 7 f fd NFS (spFS C) := by
  obtain ⟨oc, od, dV, kV, doc, pm, ct, an, osl, rfl, lk⟩ := S.fn
  refine ⟨fun vs H Q E h => ?_, fun A outer s H args us vs Q E hr e0 hb r h => ?_⟩
  · obtain ⟨p, dx, L, v, rfl, _⟩ := h; rfl
  have kIn : K.In s.heap := e0.mod.kin.keeps fun b o e => (e0.bs b o e).1
  have lim : s.heap.NoLimit := e0.mod.nolimit.keeps fun b o e => (e0.bs b o e).1
  obtain ⟨p, dx, L, v, rfl, hp, hL, hv, k⟩ := h
  refine PySem.ks_codeAny_call_defAt (fd := PySem.W.ksFn "__init__" "FourthSteps.__init__" (defArgs sFS) (defBody sFS) (defScope sFS) dV kV doc pm an (.ref cda) ct cc) (body := defBody sFS) (binds := NFS.zip us) hr.depth (kIn _ _ lk) rfl lim
    (PySem.W.codeRec_of kIn S.code) rfl hb hcellS (fun ⟨x, y⟩ hx => hlocS x (List.of_mem_zip hx).1) (fun h₁ hns hk => ?_) rfl rfl rfl
  have I : Inv (cxS P w K mg base f cda cc A outer s H) [] ([V.ref p, .ref L, v].map some) H { s with heap := h₁, toks := s.toks + (NFS.zip us).length } := inv_startS S.cell hr.hd e0 rfl r hns hk
  have fin : ∀ (u : Value) (v' : V) (σ' : L2.St) (H' : Hp) (s' : Shared), Inv (cxS P w K mg base f cda cc A outer s H) [] σ' H' s' → RelV v' u → Q v' H' → CR CX0 outer P w H s Q E (.ok (.ret u)) s' := fun u v' σ' H' s' J rv q => ⟨v', H', J.os, J.bare, J.base, J.hok, rv, q⟩
  have body : _root_.PySem.wpAt (model P w) (cxS P w K mg base f cda cc A outer s H).A (.func (defBody sFS) (cxS P w K mg base f cda cc A outer s H).env) (execs (defBody sFS) (cxS P w K mg base f cda cc A outer s H).env)
      (SP (cxS P w K mg base f cda cc A outer s H) [] { nx := fun _ H' => Q .non H', rt := Q }) (cxS P w K mg base f cda cc A outer s H).xe { s with heap := h₁, toks := s.toks + (NFS.zip us).length } := by
    have hr6 : Room 6 (cxS P w K mg base f cda cc A outer s H).A := hr.deeper _
    have tail : ∀ (H1 : Hp) (s1 : Shared) (q : Addr) (ys : List V) (s0 : Str), Inv (cxS P w K mg base f cda cc A outer s H) [] ([V.ref p, .ref L, v].map some) H1 s1 → SameBut p H H1 → H1 p = some (.ins C dx (ppf s0 q)) → H1 q = some (.tup ys) → FxO [.ref L, v] ys →
        wpAny (model P w) (cxS P w K mg base f cda cc A outer s H).A (execs (defBody sFS).tail (cxS P w K mg base f cda cc A outer s H).env) (SP (cxS P w K mg base f cda cc A outer s H) [] { nx := fun _ H' => Q .non H', rt := Q }) (cxS P w K mg base f cda cc A outer s H).xe s1 := by
      intro H1 s1 q ys s0 I1 sb hp1 hq1 o1
      have lp : (ppf s0 q).lookup ("parts" : Str) = some (.ref q) := by
        show List.lookup ("parts" : Str) [(("word" : Str), V.str s0), ("parts", .ref q)] = some (.ref q)
        rw [List.lookup_cons, show (("parts" : Str) == ("word" : Str)) = false by decide +kernel, List.lookup_cons, show (("parts" : Str) == ("parts" : Str)) = true by decide +kernel]
      obtain ⟨y0, rfl⟩ : ∃ y0, ys = [y0, v] := by
        obtain ⟨l1, l2⟩ := o1
        match ys, l1 with
        | [a, b], _ =>
          have := l2 1 v rfl hv
          cases this
          exact ⟨a, rfl⟩
      have nqp : q ≠ p := ne_of hq1 hp1 (by intro z; cases z)
      refine (pss_one (ps_asg (X := cxS P w K mg base f cda cc A outer s H) (pe_fld (pv 0) rfl) (pg_tup rfl (pgs_cons (pg_fld (pv 0)) (pgs_cons (pg_fld (pv 0)) pgs_nil))))).run [] s1 _ H1 _ I1 ?_
      refine ⟨_, rfl, p, C, dx, _, _, rfl, hp1, T.cl, T.np, lp, ?_⟩
      refine ⟨q, _, rfl, SqT.of hq1, rfl, _, _, rfl, ⟨_, rfl, p, C, dx, _, rfl, hp1, T.cl, T.nr, (by show 2 < 1000; decide), _, _, rfl, ?_⟩⟩
      refine ⟨_, rfl, p, C, dx, _, rfl, upd_same, T.cl, T.nv, Nat.lt_of_le_of_lt (length_putF _ _ _) (by show 3 < 1000; decide), rfl, ?_⟩
      refine k _ _ (fun b o nb e => ?_) upd_same putF_last
      rw [upd_ne nb, upd_ne nb]
      exact sb b o nb e
    obtain ⟨ccl, cdd, vs, ccs, file, tf, lkc, hvs, hfile⟩ := S.rec_
    obtain ⟨cl, cld, csl, hcell⟩ := S.cell
    obtain ⟨cd, hcd⟩ := S.cls
    obtain ⟨oD, hD1, hD2⟩ : ∃ oD, h₁.get? C = some oD ∧ oD.data = .cls cd := by
      unfold PySem.W.clsIn at hcd
      split at hcd
      · rename_i c d cd' sl ho
        cases hcd
        exact ⟨_, I.kIn _ _ ho, rfl⟩
      · cases hcd
    obtain ⟨mb, b1, b2⟩ := I.mod.blt
    obtain ⟨m, hn, hl⟩ := I.loc
    obtain ⟨u, ru, l⟩ := hl 0 "self" (.ref p) rfl rfl (.inl k_self)
    obtain rfl : u = Value.ref p := ru
    have hm : m "self" = some (.ref p) := by
      rcases l with ⟨_, hm⟩ | ⟨hc, _⟩
      · exact hm
      · have hk1 : (cxS P w K mg base f cda cc A outer s H).env.kindOf "self" = some .local := k_self
        rw [hk1] at hc
        rcases hc with hc | hc <;> cases hc
    obtain ⟨mA, OA, _⟩ := ins_get I.hok hp
    obtain ⟨od', J, _⟩ := OA.look
    refine ks_wpAt_execs_cons (ks_wpAt_Expr_any (ks_wpAt_MethodCall (ks_wpAt_super_base (f := f) (cc := cda) k_super k_class (by decide +kernel) rfl (I.kIn _ _ lk) rfl rfl rfl (I.kIn _ _ lkc) rfl hvs hfile S.top ?_)))
    refine PySem.W.ks_loadName_global rfl k_super (Calls.loadGlobal_builtin (env := (cxS P w K mg base f cda cc A outer s H).env) (I.mod.glob.keeps I.bk) S.sup (b1.keeps I.bk) ((b2 _ (by decide +kernel)).trans (by decide +kernel)) ⟨rfl, ?_⟩)
    refine wpAny_loadName_free rfl k_class (cellLk cc) ⟨_, I.kIn _ _ hcell, rfl⟩ ?_
    refine wpAny_loadName_local rfl k_self hn hm ?_
    refine ks_wpAny_isType_cls hD1 hD2 ⟨rfl, ?_⟩
    refine ks_wpAny_call_super hD1 hD2 J.at_ J.cls (fun c e => nomatch e) (PySem.W.looks_mroIn I.kIn S.sub) (fun h' e kk => ?_)
    have I2 := ClX.pin_new (o := PySem.W.ks_superObj C p C) (t' := s.toks + (NFS.zip us).length) I kk (Nat.le_refl _) e (fun v z => nomatch z)
    have hmeth := S.meth
    unfold PySem.W.ks_superIn at hmeth
    rw [hcd] at hmeth
    obtain ⟨of, hof, hofc⟩ : ∃ of, h'.get? g = some of ∧ of.cls = .type "function" := by
      have ht' : (K.lookup g).map (·.cls) = some (.type "function") := S.ty
      cases z : K.lookup g with
      | none => rw [z] at ht'; cases ht'
      | some of => rw [z] at ht'; exact ⟨of, I2.kIn _ _ z, Option.some.inj ht'⟩
    refine ks_wpAny_getMethod_super (ClX.pin_at I2) (PySem.W.looks_opaque I2.kIn S.opq) (l₀ := cd.mro) ?_ rfl I2.kIn hmeth hof hofc (PySem.W.ks_ne I.kIn J hcd) (by decide +kernel) ?_
    · exact fun A Q E s k q => wpAny_bind ((PySem.W.looks_clsIn I2.kIn hcd) A _ E s k (wpAny_pure q))
    have I3 := ClX.pin_new (o := PySem.W.methodObj (.ref g) (.ref p)) (t' := s.toks + (NFS.zip us).length + 1) I2 (fun _ _ z => Heap.get?_push_of_some _ z) (Nat.le_refl _) (Heap.get?_push_size _ rfl) (fun v z => nomatch z)
    refine ClX.callwith_cm (C := p) I3 (ClX.base_none I2 (Nat.le_refl _)) S.fi (thn ((pa_cons (X := cxS P w K mg base f cda cc A outer s H) pe_str (pa_cons (pv 1) (pa_cons (pv 2) pa_nil))).run _ _ _ _ _
      (fun vs H2 => spPaper C (.ref p :: vs) H2 (fun v' H3 => ∃ s0 q ys, SameBut p H H3 ∧ H3 p = some (.ins C dx (ppf s0 q)) ∧ H3 q = some (.tup ys) ∧ FxO [.ref L, v] ys) E0) I3 ?_) fun us3 s3 ⟨vs3, H3, I4, rv3, q3⟩ => ⟨⟨ClX.pin_at I4, I4.kIn⟩, ?_⟩) rfl rfl
    · refine ⟨_, rfl, _, rfl, p, dx, _, [.ref L, v], rfl, hp, (by show 2 ≤ 1000; decide), fun x hx => ?_, fun H' q ys s1 h1 h2 h3 => ⟨_, q, ys, s1, h1, h2, h3⟩⟩
      rcases List.mem_cons.mp hx with rfl | hx
      · exact hL
      · rcases List.mem_cons.mp hx with rfl | hx
        · exact .inl hv
        · cases hx
    · refine thn (ClX.run_cm Fp hr6 pass0 I4 rv3 q3) fun u4 s4 hq => ?_
      obtain ⟨v4, H4, I5, r5, s0, q, ys, sb, hp4, hq4, o4⟩ := ClX.unpinE hq
      exact wpAt_of_wpAny (tail H4 s4 q ys s0 I5 sb hp4 hq4 o4)
  refine ks_wpAt_mono body (fun fl s' hs => ?_) (fun e s' hs => hs.elim)
  cases fl with
  | ret u => obtain ⟨v', σ', H', J, rv, q⟩ := hs; exact fin _ _ _ _ _ J rv q
  | next => obtain ⟨σ', H', J, q⟩ := hs; exact fin _ V.non _ _ _ J rfl q
  | brk => obtain ⟨_, _, _, q⟩ := hs; exact q.elim
  | cont => obtain ⟨_, _, _, q⟩ := hs; exact q.elim
end
end Toy
namespace Toy
open PySem L2
theorem norm_B {k : Nat} {z : GI} (h : FS.G.norm z < (2 : Int) ^ (2 * k)) : BG k z := by
  have e : FS.G.norm z = z.re * z.re + z.im * z.im := rfl
  have key : ∀ a b : Int, a * a + b * b < (2 : Int) ^ (2 * k) → a.natAbs < 2 ^ k := by
    intro a b h
    rcases Nat.lt_or_ge a.natAbs (2 ^ k) with h1 | h1
    · exact h1
    · exfalso
      have h2 : 2 ^ k * 2 ^ k ≤ a.natAbs * a.natAbs := Nat.mul_le_mul h1 h1
      have e1 : ((a.natAbs * a.natAbs : Nat) : Int) = a * a := Int.natAbs_mul_self
      have e2 : ((2 ^ k * 2 ^ k : Nat) : Int) = (2 : Int) ^ (2 * k) := by
        rw [← Nat.pow_add, ← Nat.two_mul]; exact Int.natCast_pow 2 (2 * k)
      have h3 : 0 ≤ b * b := by
        rcases Int.le_total 0 b with hb | hb
        · exact Int.mul_nonneg hb hb
        · exact Int.mul_nonneg_of_nonpos_of_nonpos hb hb
      have h4 : ((2 ^ k * 2 ^ k : Nat) : Int) ≤ ((a.natAbs * a.natAbs : Nat) : Int) := Int.ofNat_le.mpr h2
      rw [e1, e2] at h4
      omega
  rw [e] at h
  exact ⟨key _ _ h, key z.im z.re (by omega)⟩
theorem norm_lt_of {k : Nat} {z : GI} (h : BG k z) : FS.G.norm z < (2 : Int) ^ (2 * (k + 1)) := by
  have b := h.norm
  unfold B at b
  have e : (2 : Nat) ^ (2 * (k + 1)) = 2 ^ (k + k + 1) * 2 := by rw [← Nat.pow_succ]; congr 1; omega
  have : ((2 ^ (2 * (k + 1)) : Nat) : Int) = (2 : Int) ^ (2 * (k + 1)) := Int.natCast_pow 2 (2 * (k + 1))
  rw [← this]
  omega
theorem PairAt.but {C L : Addr} {H H' : Hp} {p : Addr} {z : GI} {xs : List V} (h : PairAt C H p z) (hL : H L = some (.lst xs)) (s : SameBut L H H') : PairAt C H' p z := by
  obtain ⟨dx, e⟩ := h
  exact ⟨dx, s _ _ (ne_of e hL (by intro z; cases z)) e⟩
theorem RowAt.but {H H' : Hp} {r L : Addr} {c : Int} {xs : List V} (h : RowAt H r c) (hL : H L = some (.lst xs)) (s : SameBut L H H') : RowAt H' r c := by
  obtain ⟨n1, n2, n3, a, b, e, ⟨x1, y1, e1⟩, ⟨x2, y2, e2⟩, ⟨x3, y3, e3⟩⟩ := h
  have g : ∀ (b : Addr) (ys : List V), H b = some (.tup ys) → H' b = some (.tup ys) := fun b ys e => s _ _ (ne_of e hL (by intro z; cases z)) e
  exact ⟨n1, n2, n3, a, b, g _ _ e, ⟨x1, y1, g _ _ e1⟩, ⟨x2, y2, g _ _ e2⟩, ⟨x3, y3, g _ _ e3⟩⟩
theorem RowAt.fx {H : Hp} {r : Addr} {c : Int} (h : RowAt H r c) : Fx H 2 (.ref r) := by
  obtain ⟨n1, n2, n3, a, b, e, h1, h2, h3⟩ := h
  have pn : ∀ n, Num H n → Fx H 1 (.ref n) := by
    rintro n ⟨x, y, e⟩
    refine .inr ⟨n, _, rfl, by show 2 ≤ 1000000; decide, .inr e, fun v hv => ?_⟩
    rcases List.mem_cons.mp hv with rfl | hv
    · exact .inr ⟨_, rfl⟩
    · rcases List.mem_cons.mp hv with rfl | hv
      · exact .inr ⟨_, rfl⟩
      · cases hv
  refine .inr ⟨r, _, rfl, by show 6 ≤ 1000000; decide, .inr e, fun v hv => ?_⟩
  rcases List.mem_cons.mp hv with rfl | hv
  · exact pn _ h1
  rcases List.mem_cons.mp hv with rfl | hv
  · exact pn _ h2
  rcases List.mem_cons.mp hv with rfl | hv
  · exact .inl (.inr ⟨_, rfl⟩)
  rcases List.mem_cons.mp hv with rfl | hv
  · exact .inl (.inr ⟨_, rfl⟩)
  rcases List.mem_cons.mp hv with rfl | hv
  · exact pn _ h3
  rcases List.mem_cons.mp hv with rfl | hv
  · exact .inl (.inr ⟨_, rfl⟩)
  cases hv
/-- the symbol as a value -/
def valV : Option Int → V
  | none => .non
  | some i => .int i
theorem prim_pos {s : GI} (h : FS.Prim s) : 0 < FS.G.norm s := by
  have h1 : FS.G.norm s % 2 = 1 := h.od
  have h2 := FS.G.norm_nonneg s
  omega
theorem prim_ne {s : GI} (h : FS.Prim s) : s ≠ 0 := by
  intro e
  have := prim_pos h
  rw [e] at this
  exact absurd this (by decide)
section
variable {P : Program} {w : World} {K : PySem.W.Frag} {mg : Str → Option Value} {base : Heap}
def spSteps (C CF : Addr) : Sp := fun vs H Q _ => ∃ (p q : Addr) (a b : GI), vs = [.ref p, .ref q] ∧ PairAt C H p a ∧ PairAt C H q b ∧ BG 400 a ∧ BG 400 b ∧ FS.G.norm b % 2 = 1 ∧
  ∀ (H' : Hp) (r dx : Addr) (fs : List (Str × V)), Same H H' → H' r = some (.ins CF dx fs) → fs.lookup ("value" : Str) = some (valV (FS.symV a b)) → Q (.ref r) H'
abbrev NSt : List Str := ["number", "by", "rows", "total", "first", "second", "rest", "row", "left"]
theorem scSteps : FnScope NSt ["number", "by"] (defScope (top 30)) := ⟨rfl, rfl, rfl, by decide +kernel, rfl, by decide +kernel, by decide +kernel⟩
theorem n_div (z : GI) : (pf z).lookup ("divided" : Str) = none := pf_no z (by decide +kernel) (by decide +kernel) (by decide +kernel)
theorem n_pry (z : GI) : (pf z).lookup ("primary" : Str) = none := pf_no z (by decide +kernel) (by decide +kernel) (by decide +kernel)
theorem ok_steps {f C CF : Addr} {fd : FuncData} (F : Fun K "fourth_steps" "fourth_steps" (top 30) f fd) (T : TP K mg C) (cb : Cal P w K mg base 2 "need_both" (spBoth C)) (cp : CalM P w K mg base 6 C "primary" (spPry C))
    (cd : CalM P w K mg base 7 C "divided" (spDiv C)) (cr : Cal P w K mg base 7 "row_of" (spRow C)) (cv : Cal P w K mg base 1 "value_of" (spValue C)) (cf : CalC P w K mg base 7 "FourthSteps" CF (spFS CF)) :
    FnOk P w K mg base CX0 9 f fd ["number", "by"] (spSteps C CF) := by
  refine F.ok scSteps (fun vs H Q E h => ?_) (fun cdv A outer s H vs Q E hr h => ?_)
  · obtain ⟨p, q, a, b, rfl, _⟩ := h; rfl
  · obtain ⟨p, q, a, b, rfl, hp, hq, ba, bb, ob, k⟩ := h
    have N := @pg_name (cxOf CX0 P w K mg base NSt "fourth_steps" (defScope (top 30)) f cdv A outer s H E).nox
    have nd := scSteps.nd
    refine ⟨_, pss_cons (ps_expr (pe_c cb (hr.mono (by decide)) (by rfl) (pa_cons (pv 0) (pa_cons (pv 1) pa_nil))))
      (pss_cons (ps_asg (pe_tup (pa_cons (pe_lst pa_nil) (pa_cons pe_int (pa_cons (pv 0) (pa_cons (pe_ix ix_tup (pe_m0 cp (hr.mono (by decide)) T.cl (pv 1)) pe_int (fun _ _ => rfl)) pa_nil)))))
        (pg_tup rfl (pgs_cons (pg_name (i := 2) nd rfl (.inl rfl)) (pgs_cons (pg_name (i := 3) nd rfl (.inl rfl)) (pgs_cons (pg_name (i := 4) nd rfl (.inl rfl)) (pgs_cons (pg_name (i := 5) nd rfl (.inl rfl)) pgs_nil))))))
      (pss_cons (ps_set (i := 6) nd rfl (.inl rfl) (pe_ix ix_tup (pe_m cd (hr.mono (by decide)) T.cl (pv 4) (pa_cons (pv 5) pa_nil)) pe_int (fun _ _ => rfl)))
      (pss_cons (ps_while PassesOwn.never (pt_cmp (pc_neI (pe_fld (pv 6) rfl) pe_int))
        (pss_cons (ps_asg (pe_c cr (hr.mono (by decide)) (by rfl) (pa_cons (pv 6) (pa_cons (pv 5) pa_nil))) (pg_tup rfl (pgs_cons (pg_name (i := 7) nd rfl (.inl rfl)) (pgs_cons (pg_name (i := 8) nd rfl (.inl rfl)) pgs_nil))))
        (pss_cons (ps_expr (pe_bm PySem.F.plainAttrs_list PySem.F.slot_list_append PySem.F.type_list_append mt_append (pv 2) (pa_cons (pv 7) pa_nil)))
        (pss_cons (ps_set (i := 3) nd rfl (.inl rfl) (pe_op op_add (pv 3) (pe_ix ix_tup (pv 7) pe_int (fun _ _ => rfl))))
        (pss_cons (ps_par (i := 4) (j := 5) rfl nd rfl rfl (by decide) rfl rfl (pa_cons (pv 5) (pa_cons (pv 8) pa_nil)) (by rfl))
        (pss_one (ps_set (i := 6) nd rfl (.inl rfl) (pe_ix ix_tup (pe_m cd (hr.mono (by decide)) T.cl (pv 4) (pa_cons (pv 5) pa_nil)) pe_int (fun _ _ => rfl)))))))))
      (pss_one (ps_ret (pe_mk cf hr (by rfl) (pa_cons (pv 2) (pa_cons (pe_c cv (hr.mono (by decide)) (by rfl) (pa_cons (pv 3) (pa_cons (pv 5) pa_nil))) pa_nil)))))))), ?_⟩
    refine ⟨_, rfl, _, rfl, p, q, a, b, rfl, hp, hq, ob, ?_⟩
    obtain ⟨dq, hq'⟩ := hq
    refine ⟨by show 0 ≤ sizeLine; decide, fun L hL => ?_⟩
    have s1 := Same.up (o := .lst []) hL
    refine ⟨_, rfl, _, rfl, q, dq, _, rfl, s1 _ _ hq', n_pry _, q, b, rfl, ⟨dq, s1 _ _ hq'⟩, bb.mono (by decide), ob, fun H2 t2 a2 k2 l2 s2 e2 h2 ez2 pr2 en2 b2 bk2 => ?_⟩
    refine ⟨t2, _, 1, _, rfl, rfl, SqT.of e2, rfl, ?_⟩
    refine ⟨by show 4 ≤ sizeLine; decide, fun t ht => ?_⟩
    have s3 := Same.up (o := .tup [.ref L, .int 0, .ref p, .ref a2]) ht
    refine ⟨t, _, rfl, SqT.of upd_same, rfl, _, _, rfl, _, _, rfl, _, _, rfl, _, _, rfl, rfl, ?_⟩
    have nb : FS.G.norm b < (2 : Int) ^ (2 * 401) := norm_lt_of bb
    have bs : ∀ z : GI, FS.G.norm z ≤ FS.G.norm b → BG 600 z := fun z hz => (norm_B (k := 401) (by omega)).mono (by decide)
    obtain ⟨dp, hp'⟩ := hp
    have hp3 := s3 _ _ (s2 _ _ (s1 _ _ hp'))
    have h23 := h2.same s3
    obtain ⟨d2, h23'⟩ := h23
    refine ⟨_, rfl, p, dp, _, rfl, hp3, n_div _, _, rfl, p, a2, a, l2, rfl, ⟨dp, hp3⟩, ⟨d2, h23'⟩, ba.mono (by decide), bs _ (by omega), prim_ne pr2, fun H4 t4 u4 r4 s4 e4 h4 => ?_⟩
    refine ⟨t4, _, 1, _, rfl, rfl, SqT.of e4, rfl, ?_⟩
    have hL4 : H4 L = some (.lst []) := s4 _ _ (s3 _ _ (s2 _ _ upd_same))
    refine ⟨fun m σ H' => ∃ (L fp sp rp : Addr) (tot : Int) (f s : GI) (rs : List V) (x7 x8 : Option V), σ = [some (.ref p), some (.ref q), some (.ref L), some (.int tot), some (.ref fp), some (.ref sp), some (.ref rp), x7, x8] ∧
        Same H H' ∧ H L = none ∧ H' L = some (.lst rs) ∧ (∀ x ∈ rs, ∃ r c, x = .ref r ∧ RowAt H' r c) ∧ PairAt C H' fp f ∧ PairAt C H' sp s ∧ PairAt C H' rp (FS.rst f s) ∧ FS.Kept a b f s tot ∧ (2 : Int) ^ rs.length * FS.G.norm s ≤ FS.G.norm b ∧ m = (FS.G.norm s).toNat,
      ⟨_, L, p, a2, r4, 0, a, l2, [], _, _, rfl, ((s1.trans s2).trans s3).trans s4, hL, hL4, (fun x hx => nomatch hx), ⟨dp, s4 _ _ hp3⟩, ⟨d2, s4 _ _ h23'⟩, h4, FS.Kept.start ez2 pr2, by simp; omega, rfl⟩, ?_⟩
    clear hL4 h4 e4 s4 h23' hp3 s3 ht h2 e2 s2 s1 hL
    rintro m σ H1 ⟨L, fp, sp, rp, tot, f', s', rs, x7, x8, rfl, sm, hL, hL1, hrs, ⟨df, hf⟩, ⟨ds, hs⟩, ⟨dr, hr'⟩, kp, hlen, rfl⟩
    have sp0 := prim_pos kp.prim
    have pw : (1 : Int) ≤ 2 ^ rs.length := by
      have : 0 < (2 : Nat) ^ rs.length := Nat.pow_pos (by decide)
      have e : ((2 ^ rs.length : Nat) : Int) = (2 : Int) ^ rs.length := Int.natCast_pow 2 rs.length
      omega
    have sle : FS.G.norm s' ≤ FS.G.norm b := by
      have := Int.mul_le_mul_of_nonneg_right pw (Int.le_of_lt sp0)
      omega
    have lenb : rs.length < 802 := by
      rcases Nat.lt_or_ge rs.length 802 with h1 | h1
      · exact h1
      · exfalso
        have h2 : (2 : Nat) ^ (2 * 401) ≤ 2 ^ rs.length := Nat.pow_le_pow_right (by decide) h1
        have e : ((2 ^ rs.length : Nat) : Int) = (2 : Int) ^ rs.length := Int.natCast_pow 2 rs.length
        have h3 := Int.mul_le_mul_of_nonneg_left (show (1 : Int) ≤ FS.G.norm s' by omega) (show (0 : Int) ≤ 2 ^ rs.length by omega)
        have h4 : ((2 ^ (2 * 401) : Nat) : Int) ≤ ((2 ^ rs.length : Nat) : Int) := Int.ofNat_le.mpr h2
        have e2 : ((2 ^ (2 * 401) : Nat) : Int) = (2 : Int) ^ (2 * 401) := Int.natCast_pow 2 (2 * 401)
        omega
    refine ⟨_, rfl, rp, C, dr, _, _, rfl, hr', T.cl, T.n3, pf_norm _, _, _, rfl, rfl, _, rfl, ?_⟩
    refine ite2 (fun hc => ?_) (fun hc => ?_)
    · have h0 : ¬ FS.G.norm (FS.rst f' s') = 0 := fun e => by
        have hc' : (!decide (FS.G.norm (FS.rst f' s') = 0)) = true := hc
        rw [decide_eq_true e] at hc'; cases hc'
      have hne : FS.rst f' s' ≠ 0 := by intro e; rw [e] at h0; exact h0 rfl
      have rn := FS.rst_norm (a := f') (prim_ne kp.prim)
      refine ⟨_, fun _ _ h => h, ?_⟩
      refine ⟨_, rfl, _, rfl, rp, sp, FS.rst f' s', s', rfl, ⟨dr, hr'⟩, ⟨ds, hs⟩, (bs _ (by have := FS.G.norm_nonneg (FS.rst f' s'); omega)).mono (by decide), (bs _ sle).mono (by decide), hne, fun H2 t2 row a2 t u l s2 e2 hrow hl ez pr le bl => ?_⟩
      refine ⟨t2, _, rfl, SqT.of e2, rfl, _, _, rfl, _, _, rfl, rfl, ?_⟩
      have hL2 := s2 _ _ hL1
      refine ⟨_, rfl, .inl ⟨rfl, _, SqL.of hL2⟩, _, rfl, L, _, _, rfl, rfl, hL2, Nat.lt_of_lt_of_le lenb (by decide), ?_⟩
      have sb : SameBut L H2 (upd H2 L (.lst (rs ++ [.ref row]))) := fun b o nb e => by rw [upd_ne nb]; exact e
      generalize hH3 : upd H2 L (.lst (rs ++ [.ref row])) = H3 at sb ⊢
      have hL3 : H3 L = some (.lst (rs ++ [.ref row])) := by rw [← hH3]; exact upd_same
      have hrow3 := hrow.but hL2 sb
      obtain ⟨n1, n2, n3, y1, y2, erow, _⟩ := id hrow3
      refine ⟨_, rfl, _, rfl, row, _, 5, _, rfl, rfl, SqT.of erow, rfl, _, _, rfl, rfl, ?_⟩
      refine ⟨_, rfl, _, rfl, ?_⟩
      refine ⟨_, _, rfl, ?_⟩
      have hs3 : PairAt C H3 sp s' := ((PairAt.same ⟨ds, hs⟩ s2)).but hL2 sb
      have hl3 : PairAt C H3 a2 l := hl.but hL2 sb
      obtain ⟨ds3, hs3'⟩ := hs3
      have lle : FS.G.norm l ≤ FS.G.norm b := by omega
      refine ⟨_, rfl, sp, ds3, _, rfl, hs3', n_div _, _, rfl, sp, a2, s', l, rfl, ⟨ds3, hs3'⟩, hl3, bs _ sle, bs _ lle, prim_ne pr, fun H4 t4 u4 r4 s4 e4 h4 => ?_⟩
      refine ⟨t4, _, 1, _, rfl, rfl, SqT.of e4, rfl, ?_⟩
      have S3 : Same H H3 := fun b o e => sb _ _ (ne_of_none e hL) (s2 _ _ (sm _ _ e))
      refine ⟨(FS.G.norm l).toNat, by omega, L, sp, a2, r4, _, s', l, rs ++ [.ref row], _, _, rfl, S3.trans s4, hL, s4 _ _ hL3, fun x hx => ?_, ⟨ds3, s4 _ _ hs3'⟩, hl3.same s4, h4, kp.step ez pr, ?_, rfl⟩
      · rcases List.mem_append.mp hx with hx | hx
        · obtain ⟨r, c, e, hh⟩ := hrs x hx
          exact ⟨r, c, e, ((hh.same s2).but hL2 sb).same s4⟩
        · rcases List.mem_cons.mp hx with rfl | hx
          · exact ⟨row, _, rfl, hrow3.same s4⟩
          · cases hx
      · rw [List.length_append]
        show (2 : Int) ^ (rs.length + 1) * _ ≤ _
        rw [Int.pow_succ, Int.mul_assoc]
        have := Int.mul_le_mul_of_nonneg_left (show 2 * FS.G.norm l ≤ FS.G.norm s' by omega) (show (0 : Int) ≤ 2 ^ rs.length by omega)
        omega
    · have h0 : FS.rst f' s' = 0 := by
        have h1 : FS.G.norm (FS.rst f' s') = 0 := Decidable.byContradiction fun e => hc (by show (!decide (FS.G.norm (FS.rst f' s') = 0)) = true; rw [decide_eq_false e]; rfl)
        by_cases e : FS.rst f' s' = 0
        · exact e
        · have := FS.G.norm_pos e; omega
      refine ⟨_, rfl, _, rfl, _, rfl, sp, s', tot, rfl, ⟨ds, hs⟩, ?_⟩
      intro x dx nx ndx nex
      have nL : L ≠ x := ne_of_none hL1 nx
      have ndL : L ≠ dx := ne_of_none hL1 ndx
      have s5 : Same H1 (upd (upd H1 dx (.own x)) x (.ins CF dx [])) := fun b o e => by
        rw [upd_ne (ne_of_none e nx), upd_ne (ne_of_none e ndx)]; exact e
      have ev : (if FS.G.norm s' = 1 then V.int (tot % 4) else .non) = valV (FS.symV a b) := by
        rw [kp.done h0]
        by_cases h1 : FS.G.norm s' = 1
        · rw [if_pos h1, if_pos h1]; rfl
        · rw [if_neg h1, if_neg h1]; rfl
      rw [ev]
      refine ⟨x, dx, L, _, rfl, upd_same, ?_, ?_, fun H6 fs s6 e6 l6 => ⟨rfl, k H6 x dx fs (fun b o e => ?_) e6 l6⟩⟩
      · refine .inr ⟨L, rs, rfl, by omega, .inl (s5 _ _ hL1), fun y hy => ?_⟩
        obtain ⟨r, c, rfl, hh⟩ := hrs y hy
        exact (hh.same s5).fx
      · cases FS.symV a b with
        | none => exact .inl rfl
        | some i => exact .inr ⟨i, rfl⟩
      · exact s6 _ _ (ne_of_none (sm _ _ e) nx) (s5 _ _ (sm _ _ e))
end
end Toy
namespace Toy
open PySem L2
/-- a tuple of two whole numbers -/
def TZ (H : Hp) (t : Addr) (z : GI) : Prop := H t = some (.tup [.int z.re, .int z.im])
theorem TZ.same {H H' : Hp} {t : Addr} {z : GI} (h : TZ H t z) (s : Same H H') : TZ H' t z := s _ _ h
section
variable {P : Program} {w : World} {K : PySem.W.Frag} {mg : Str → Option Value} {base : Heap}
/-! ### fourth_symbol -/
def spSym (C : Addr) : Sp := fun vs H Q _ => ∃ (p q : Addr) (a b : GI), vs = [.ref p, .ref q] ∧ PairAt C H p a ∧ PairAt C H q b ∧ BG 400 a ∧ BG 400 b ∧ FS.G.norm b % 2 = 1 ∧
  ∀ (H' : Hp), Same H H' → Q (valV (FS.symV a b)) H'
theorem scSym : FnScope ["number", "by"] ["number", "by"] (defScope (top 31)) := ⟨rfl, rfl, rfl, by decide +kernel, rfl, by decide +kernel, by decide +kernel⟩
theorem ok_sym {f C CF : Addr} {fd : FuncData} (F : Fun K "fourth_symbol" "fourth_symbol" (top 31) f fd) (T : TF K mg CF) (c : Cal P w K mg base 9 "fourth_steps" (spSteps C CF)) : FnOk P w K mg base CX0 10 f fd ["number", "by"] (spSym C) := by
  refine F.ok scSym (fun vs H Q E h => ?_) (fun cdv A outer s H vs Q E hr h => ?_)
  · obtain ⟨p, q, a, b, rfl, _⟩ := h; rfl
  · obtain ⟨p, q, a, b, rfl, hp, hq, ba, bb, ob, k⟩ := h
    refine ⟨_, pss_one (ps_ret (pe_fld (pe_c c hr (by rfl) (pa_cons (pv 0) (pa_cons (pv 1) pa_nil))) rfl)), ?_⟩
    refine ⟨_, rfl, _, rfl, p, q, a, b, rfl, hp, hq, ba, bb, ob, fun H' r dx fs s1 e1 l1 => ?_⟩
    exact ⟨r, CF, dx, fs, _, rfl, e1, T.cl, T.nv, l1, k _ s1⟩
/-! ### _law_times -/
def spLTimes : Sp := fun vs H Q _ => ∃ (p q : Addr) (a b : GI), vs = [.ref p, .ref q] ∧ TZ H p a ∧ TZ H q b ∧ BG 5000 a ∧ BG 5000 b ∧ ∀ (H' : Hp) (t : Addr), Same H H' → TZ H' t (a * b) → Q (.ref t) H'
theorem scLTimes : FnScope ["_law_one", "_law_other"] ["_law_one", "_law_other"] (defScope (top 37)) := ⟨rfl, rfl, rfl, by decide +kernel, rfl, by decide +kernel, by decide +kernel⟩
theorem ok_ltimes {f : Addr} {fd : FuncData} (F : Fun K "_law_times" "_law_times" (top 37) f fd) : FnOk P w K mg base CX0 1 f fd ["_law_one", "_law_other"] spLTimes := by
  refine F.ok scLTimes (fun vs H Q E h => ?_) (fun cdv A outer s H vs Q E hr h => ?_)
  · obtain ⟨p, q, a, b, rfl, _⟩ := h; rfl
  · obtain ⟨p, q, a, b, rfl, hp, hq, ba, bb, k⟩ := h
    have X := @pe_ix (cxOf CX0 P w K mg base ["_law_one", "_law_other"] "_law_times" (defScope (top 37)) f cdv A outer s H E).nox
    refine ⟨_, pss_one (ps_ret (pe_tup (pa_cons (pe_op op_sub (pe_op op_mulW (pe_ix ix_tup (pv 0) pe_int (fun _ _ => rfl)) (pe_ix ix_tup (pv 1) pe_int (fun _ _ => rfl))) (pe_op op_mulW (pe_ix ix_tup (pv 0) pe_int (fun _ _ => rfl)) (pe_ix ix_tup (pv 1) pe_int (fun _ _ => rfl))))
      (pa_cons (pe_op op_add (pe_op op_mulW (pe_ix ix_tup (pv 0) pe_int (fun _ _ => rfl)) (pe_ix ix_tup (pv 1) pe_int (fun _ _ => rfl))) (pe_op op_mulW (pe_ix ix_tup (pv 0) pe_int (fun _ _ => rfl)) (pe_ix ix_tup (pv 1) pe_int (fun _ _ => rfl)))) pa_nil)))), ?_⟩
    refine ⟨_, rfl, p, _, 0, _, rfl, rfl, SqT.of hp, rfl, _, rfl, q, _, 0, _, rfl, rfl, SqT.of hq, rfl, _, _, rfl, rfl, ba.1.mulW bb.1 (by decide) (by decide) (by decide), ?_⟩
    refine ⟨_, rfl, p, _, 1, _, rfl, rfl, SqT.of hp, rfl, _, rfl, q, _, 1, _, rfl, rfl, SqT.of hq, rfl, _, _, rfl, rfl, ba.2.mulW bb.2 (by decide) (by decide) (by decide), _, _, rfl, rfl, ?_⟩
    refine ⟨_, rfl, p, _, 0, _, rfl, rfl, SqT.of hp, rfl, _, rfl, q, _, 1, _, rfl, rfl, SqT.of hq, rfl, _, _, rfl, rfl, ba.1.mulW bb.2 (by decide) (by decide) (by decide), ?_⟩
    refine ⟨_, rfl, p, _, 1, _, rfl, rfl, SqT.of hp, rfl, _, rfl, q, _, 0, _, rfl, rfl, SqT.of hq, rfl, _, _, rfl, rfl, ba.2.mulW bb.1 (by decide) (by decide) (by decide), _, _, rfl, rfl, ?_⟩
    exact ⟨by show 2 ≤ sizeLine; decide, fun t ht => k _ t (Same.up ht) upd_same⟩
/-! ### _law_norm -/
def spLNorm : Sp := fun vs H Q _ => ∃ (p : Addr) (a : GI), vs = [.ref p] ∧ TZ H p a ∧ BG 5000 a ∧ Q (.int (FS.G.norm a)) H
theorem scLNorm : FnScope ["_law_one"] ["_law_one"] (defScope (top 38)) := ⟨rfl, rfl, rfl, by decide +kernel, rfl, by decide +kernel, by decide +kernel⟩
theorem ok_lnorm {f : Addr} {fd : FuncData} (F : Fun K "_law_norm" "_law_norm" (top 38) f fd) : FnOk P w K mg base CX0 1 f fd ["_law_one"] spLNorm := by
  refine F.ok scLNorm (fun vs H Q E h => ?_) (fun cdv A outer s H vs Q E hr h => ?_)
  · obtain ⟨p, a, rfl, _⟩ := h; rfl
  · obtain ⟨p, a, rfl, hp, ba, k⟩ := h
    refine ⟨_, pss_one (ps_ret (pe_op op_add (pe_op op_mulW (pe_ix ix_tup (pv 0) pe_int (fun _ _ => rfl)) (pe_ix ix_tup (pv 0) pe_int (fun _ _ => rfl))) (pe_op op_mulW (pe_ix ix_tup (pv 0) pe_int (fun _ _ => rfl)) (pe_ix ix_tup (pv 0) pe_int (fun _ _ => rfl))))), ?_⟩
    refine ⟨_, rfl, p, _, 0, _, rfl, rfl, SqT.of hp, rfl, _, rfl, p, _, 0, _, rfl, rfl, SqT.of hp, rfl, _, _, rfl, rfl, ba.1.mulW ba.1 (by decide) (by decide) (by decide), ?_⟩
    exact ⟨_, rfl, p, _, 1, _, rfl, rfl, SqT.of hp, rfl, _, rfl, p, _, 1, _, rfl, rfl, SqT.of hp, rfl, _, _, rfl, rfl, ba.2.mulW ba.2 (by decide) (by decide) (by decide), _, _, rfl, rfl, k⟩
/-! ### _law_rest -/
def spLRest : Sp := fun vs H Q _ => ∃ (p q : Addr) (a m : GI), vs = [.ref p, .ref q] ∧ TZ H p a ∧ TZ H q m ∧ BG 1500 a ∧ BG 1500 m ∧ m ≠ 0 ∧ ∀ (H' : Hp) (t : Addr), Same H H' → TZ H' t (FS.lrest a m) → Q (.ref t) H'
abbrev NLR : List Str := ["_law_number_here", "_law_by", "_law_norm_here", "_law_whole", "_law_back"]
theorem scLRest : FnScope NLR ["_law_number_here", "_law_by"] (defScope (top 39)) := ⟨rfl, rfl, rfl, by decide +kernel, rfl, by decide +kernel, by decide +kernel⟩
theorem ediv_B {k : Nat} {a n : Int} (h : B k a) (hn : 0 < n) : B (k + 1) (a / n) := by
  unfold B at *
  have h1 : (a / n).natAbs ≤ a.natAbs + 1 := by
    have h3 : n * (a / n) + a % n = a := Int.mul_ediv_add_emod a n
    have h4 := Int.emod_nonneg a (show n ≠ 0 by omega)
    have h5 := Int.emod_lt_of_pos a hn
    rcases Int.lt_or_le (a / n) 0 with h2 | h2
    · have : n * (a / n) ≤ a / n := by
        have := Int.mul_le_mul_of_nonpos_right (show (1 : Int) ≤ n by omega) (Int.le_of_lt h2)
        omega
      have h6 : a / n ≥ a - 0 ∨ True := .inr trivial
      have h7 : a < n * (a / n + 1) := by rw [Int.mul_add, Int.mul_one]; omega
      rcases Int.lt_or_le (a / n + 1) 0 with h8 | h8
      · have := Int.mul_le_mul_of_nonpos_right (show (1 : Int) ≤ n by omega) (Int.le_of_lt h8)
        omega
      · omega
    · have : a / n ≤ n * (a / n) := by
        have := Int.mul_le_mul_of_nonneg_right (show (1 : Int) ≤ n by omega) h2
        omega
      omega
  have : (2 : Nat) ^ (k + 1) = 2 ^ k * 2 := Nat.pow_succ 2 k
  have : 0 < 2 ^ k := Nat.pow_pos (by decide)
  omega
theorem divW_ok {m : GI} {k : Nat} {a : Int} (hm : m ≠ 0) (bm : BG k m) (hk : k + k + 1 < 9000) : CDivW a (FS.G.norm m) := by
  have hN := FS.G.norm_pos hm
  exact wide_div hN bm.norm (by omega) (by omega)
theorem ok_lrest {f : Addr} {fd : FuncData} (F : Fun K "_law_rest" "_law_rest" (top 39) f fd) (hi : mg "int" = none) (cn : Cal P w K mg base 1 "_law_norm" spLNorm) (ct : Cal P w K mg base 1 "_law_times" spLTimes) :
    FnOk P w K mg base CX0 2 f fd ["_law_number_here", "_law_by"] spLRest := by
  refine F.ok scLRest (fun vs H Q E h => ?_) (fun cdv A outer s H vs Q E hr h => ?_)
  · obtain ⟨p, q, a, m, rfl, _⟩ := h; rfl
  · obtain ⟨p, q, a, m, rfl, hp, hq, ba, bm, hm, k⟩ := h
    have nd := scLRest.nd
    refine ⟨_, pss_cons (ps_par (i := 2) (j := 3) rfl nd rfl rfl (by decide) rfl rfl (pa_cons (pe_c cn hr (by rfl) (pa_cons (pv 1) pa_nil)) (pa_cons (pe_c ct hr (by rfl) (pa_cons (pv 0) (pa_cons (pe_tup (pa_cons (pe_ix ix_tup (pv 1) pe_int (fun _ _ => rfl))
        (pa_cons (pe_un un_neg (pe_ix ix_tup (pv 1) pe_int (fun _ _ => rfl))) pa_nil))) pa_nil))) pa_nil)) (by rfl))
      (pss_cons (ps_set (i := 4) nd rfl (.inl rfl) (pe_c ct hr (by rfl) (pa_cons (pv 1) (pa_cons (pe_tup (pa_cons (pe_op op_fdivW (pe_callTy call_int1 (by rfl) hi (by decide +kernel) (pa_cons (pe_ix ix_tup (pv 3) pe_int (fun _ _ => rfl)) pa_nil)) (pv 2))
        (pa_cons (pe_op op_fdivW (pe_callTy call_int1 (by rfl) hi (by decide +kernel) (pa_cons (pe_ix ix_tup (pv 3) pe_int (fun _ _ => rfl)) pa_nil)) (pv 2)) pa_nil))) pa_nil))))
      (pss_one (ps_ret (pe_tup (pa_cons (pe_op op_sub (pe_ix ix_tup (pv 0) pe_int (fun _ _ => rfl)) (pe_ix ix_tup (pv 4) pe_int (fun _ _ => rfl))) (pa_cons (pe_op op_sub (pe_ix ix_tup (pv 0) pe_int (fun _ _ => rfl)) (pe_ix ix_tup (pv 4) pe_int (fun _ _ => rfl))) pa_nil)))))), ?_⟩
    have hN := FS.G.norm_pos hm
    refine ⟨_, rfl, q, m, rfl, hq, bm.mono (by decide), ?_⟩
    refine ⟨_, rfl, _, rfl, q, _, 0, _, rfl, rfl, SqT.of hq, rfl, _, rfl, q, _, 1, _, rfl, rfl, SqT.of hq, rfl, _, rfl, by show 2 ≤ sizeLine; decide, fun t1 ht1 => ?_⟩
    have s1 := Same.up (o := .tup [.int m.re, .int (-m.im)]) ht1
    have h1 : TZ (upd H t1 (.tup [.int m.re, .int (-m.im)])) t1 (FS.G.conj m) := upd_same
    refine ⟨p, t1, a, FS.G.conj m, rfl, hp.same s1, h1, ba.mono (by decide), bm.conj.mono (by decide), fun H2 t2 s2 h2 => ?_⟩
    refine ⟨_, _, rfl, ?_⟩
    have bw := ba.mul bm.conj
    refine ⟨_, rfl, _, rfl, t2, _, 0, _, rfl, rfl, SqT.of h2, rfl, .inl ⟨_, rfl, _, rfl, _, _, rfl, rfl, divW_ok hm bm (by decide), ?_⟩⟩
    refine ⟨_, rfl, t2, _, 1, _, rfl, rfl, SqT.of h2, rfl, .inl ⟨_, rfl, _, rfl, _, _, rfl, rfl, divW_ok hm bm (by decide), ?_⟩⟩
    refine ⟨by show 2 ≤ sizeLine; decide, fun t3 ht3 => ?_⟩
    have s3 := Same.up (o := .tup [.int ((a * FS.G.conj m).re / FS.G.norm m), .int ((a * FS.G.conj m).im / FS.G.norm m)]) ht3
    have bq : BG 3002 (⟨(a * FS.G.conj m).re / FS.G.norm m, (a * FS.G.conj m).im / FS.G.norm m⟩ : GI) := ⟨ediv_B bw.1 hN, ediv_B bw.2 hN⟩
    have hq3 := ((hq.same s1).same s2).same s3
    refine ⟨q, t3, m, ⟨(a * FS.G.conj m).re / FS.G.norm m, (a * FS.G.conj m).im / FS.G.norm m⟩, rfl, hq3, upd_same, bm.mono (by decide), bq.mono (by decide), fun H4 t4 s4 h4 => ?_⟩
    have hp4 := (((hp.same s1).same s2).same s3).same s4
    refine ⟨_, rfl, p, _, 0, _, rfl, rfl, SqT.of hp4, rfl, _, rfl, t4, _, 0, _, rfl, rfl, SqT.of h4, rfl, _, _, rfl, rfl, ?_⟩
    refine ⟨_, rfl, p, _, 1, _, rfl, rfl, SqT.of hp4, rfl, _, rfl, t4, _, 1, _, rfl, rfl, SqT.of h4, rfl, _, _, rfl, rfl, ?_⟩
    exact ⟨by show 2 ≤ sizeLine; decide, fun t ht => k _ t ((((s1.trans s2).trans s3).trans s4).trans (Same.up ht)) upd_same⟩
end
end Toy
namespace Toy
open PySem L2
theorem ssq_lt {N r1 r2 : Int} (h1 : 0 ≤ r1) (h2 : r1 < N) (h3 : 0 ≤ r2) (h4 : r2 < N) : r1 * r1 + r2 * r2 < 2 * (N * N) := by
  have a1 : r1 * r1 ≤ r1 * N := Int.mul_le_mul_of_nonneg_left (Int.le_of_lt h2) h1
  have a2 : r1 * N < N * N := Int.mul_lt_mul_of_pos_right h2 (by omega)
  have b1 : r2 * r2 ≤ r2 * N := Int.mul_le_mul_of_nonneg_left (Int.le_of_lt h4) h3
  have b2 : r2 * N < N * N := Int.mul_lt_mul_of_pos_right h4 (by omega)
  omega
theorem lrest_norm {a m : GI} (hm : m ≠ 0) : FS.G.norm (FS.lrest a m) < 2 * FS.G.norm m := by
  have hN := FS.G.norm_pos hm
  have e1 : FS.lrest a m * FS.G.conj m = a * FS.G.conj m - (FS.G.norm m : GI) * ⟨(a * FS.G.conj m).re / FS.G.norm m, (a * FS.G.conj m).im / FS.G.norm m⟩ := by
    rw [← FS.G.mul_conj]; unfold FS.lrest; grind
  have e2 : FS.G.norm (FS.lrest a m * FS.G.conj m) = FS.G.norm (FS.lrest a m) * FS.G.norm m := by rw [FS.G.norm_mul, FS.G.norm_conj]
  have e3 : FS.G.norm (FS.lrest a m * FS.G.conj m) < 2 * (FS.G.norm m * FS.G.norm m) := by
    rw [e1]
    generalize a * FS.G.conj m = z
    generalize hN' : FS.G.norm m = N at *
    have r1 := Int.emod_nonneg z.re (show N ≠ 0 by omega)
    have r2 := Int.emod_lt_of_pos z.re hN
    have i1 := Int.emod_nonneg z.im (show N ≠ 0 by omega)
    have i2 := Int.emod_lt_of_pos z.im hN
    have er : z.re % N = z.re - N * (z.re / N) := Int.emod_def _ _
    have ei : z.im % N = z.im - N * (z.im / N) := Int.emod_def _ _
    have : FS.G.norm (z - (N : GI) * ⟨z.re / N, z.im / N⟩) = (z.re % N) * (z.re % N) + (z.im % N) * (z.im % N) := by
      rw [er, ei]
      show (z.re - (N * (z.re / N) - 0 * (z.im / N))) * (z.re - (N * (z.re / N) - 0 * (z.im / N))) + (z.im - (N * (z.im / N) + 0 * (z.re / N))) * (z.im - (N * (z.im / N) + 0 * (z.re / N))) = _
      grind
    rw [this]
    exact ssq_lt r1 r2 i1 i2
  rw [e2] at e3
  have e4 : FS.G.norm (FS.lrest a m) * FS.G.norm m < (2 * FS.G.norm m) * FS.G.norm m := by rw [Int.mul_assoc]; exact e3
  exact Int.lt_of_mul_lt_mul_right e4 (by omega)
/-- for .. in enumerate(..) over a list that the body leaves as it is -/
theorem for_enum {K : PySem.W.Frag} {a : Addr} {xs : List V} {g : TG} {tb : TS} {D : Ends} {σ : L2.St} {H : Hp} (Pv : Nat → L2.St → Hp → Prop) (h0 : Pv 0 σ H) (hl : ∀ i σ H, i ≤ xs.length → Pv i σ H → SqL K H a xs)
    (hs : ∀ i x σ H T, xs[i]? = some x → Pv i σ H → H T = none → g (.ref T) σ (upd H T (.tup [.int (i : Nat), x])) fun σ2 H2 => tb { D with nx := Pv (i + 1), ct := Pv (i + 1), bk := D.nx } σ2 H2) (hd : ∀ σ H, Pv xs.length σ H → D.nx σ H) :
    ∃ W : Nat → Nat → L2.St → Hp → Prop, (∃ m, W 0 m σ H) ∧ ∀ i m σ H, W i m σ H →
      ((Ite K a).stop i H ∧ D.nx σ H) ∨ ((Ite K a).go i H ∧ ∃ N : L2.St → Hp → Prop, (∀ σ' H', N σ' H' → ∃ m', m' < m ∧ W (i + 1) m' σ' H') ∧ ∀ x H', (Ite K a).yld i H x H' → g x σ H' fun σ2 H2 => tb { D with nx := N, ct := N, bk := D.nx } σ2 H2) := by
  refine ⟨fun i m σ H => m = xs.length - i ∧ i ≤ xs.length ∧ Pv i σ H, ⟨xs.length, by simp, Nat.zero_le _, h0⟩, ?_⟩
  rintro i m σ H ⟨rfl, hi, p⟩
  have q := hl i σ H hi p
  by_cases hlt : i < xs.length
  · refine .inr ⟨⟨xs, xs[i], q, by simp [hlt]⟩, Pv (i + 1), fun σ' H' p' => ⟨xs.length - (i + 1), by omega, rfl, hlt, p'⟩, fun x H' y => ?_⟩
    obtain ⟨T, z, e, hT, eH, y⟩ := y
    subst e
    subst eH
    exact hs i z σ _ T (y xs q) p hT
  · have e : i = xs.length := by omega
    subst e
    exact .inl ⟨⟨xs, q, Nat.le_refl _⟩, hd σ H p⟩
section
variable {P : Program} {w : World} {K : PySem.W.Frag} {mg : Str → Option Value} {base : Heap}
/-! ### _law_turned -/
def spLTurned : Sp := fun vs H Q _ => ∃ (p : Addr) (a : GI) (k : Int), vs = [.ref p, .int k] ∧ TZ H p a ∧ ∀ (H' : Hp) (t : Addr), Same H H' → TZ H' t (FS.G.I ^ (k % 4).toNat * a) → Q (.ref t) H'
theorem scLTurned : FnScope ["_law_one", "_law_power"] ["_law_one", "_law_power"] (defScope (top 42)) := ⟨rfl, rfl, rfl, by decide +kernel, rfl, by decide +kernel, by decide +kernel⟩
theorem ok_lturned {f : Addr} {fd : FuncData} (F : Fun K "_law_turned" "_law_turned" (top 42) f fd) (hi : mg "int" = none) : FnOk P w K mg base CX0 1 f fd ["_law_one", "_law_power"] spLTurned := by
  refine F.ok scLTurned (fun vs H Q E h => ?_) (fun cdv A outer s H vs Q E hr h => ?_)
  · obtain ⟨p, a, k, rfl, _⟩ := h; rfl
  · obtain ⟨p, a, k, rfl, hp, c⟩ := h
    refine ⟨_, pss_one (ps_ret (pe_ix ix_list (pe_lst (pa_cons (pv 0) (pa_cons (pe_tup (pa_cons (pe_un un_neg (pe_ix ix_tup (pv 0) pe_int (fun _ _ => rfl))) (pa_cons (pe_ix ix_tup (pv 0) pe_int (fun _ _ => rfl)) pa_nil)))
      (pa_cons (pe_tup (pa_cons (pe_un un_neg (pe_ix ix_tup (pv 0) pe_int (fun _ _ => rfl))) (pa_cons (pe_un un_neg (pe_ix ix_tup (pv 0) pe_int (fun _ _ => rfl))) pa_nil)))
      (pa_cons (pe_tup (pa_cons (pe_ix ix_tup (pv 0) pe_int (fun _ _ => rfl)) (pa_cons (pe_un un_neg (pe_ix ix_tup (pv 0) pe_int (fun _ _ => rfl))) pa_nil))) pa_nil)))))
      (pe_op op_mod (pe_callTy call_int1 (by rfl) hi (by decide +kernel) (pa_cons (pv 1) pa_nil)) pe_int) (fun _ _ => rfl))), ?_⟩
    refine ⟨_, rfl, _, rfl, p, _, 1, _, rfl, rfl, SqT.of hp, rfl, _, rfl, _, rfl, p, _, 0, _, rfl, rfl, SqT.of hp, rfl, by show 2 ≤ sizeLine; decide, fun t1 n1 => ?_⟩
    have s1 := Same.up (o := .tup [.int (-a.im), .int a.re]) n1
    have hp1 := hp.same s1
    refine ⟨_, rfl, p, _, 0, _, rfl, rfl, SqT.of hp1, rfl, _, rfl, _, rfl, p, _, 1, _, rfl, rfl, SqT.of hp1, rfl, _, rfl, by show 2 ≤ sizeLine; decide, fun t2 n2 => ?_⟩
    have s2 := Same.up (o := .tup [.int (-a.re), .int (-a.im)]) n2
    have hp2 := hp1.same s2
    refine ⟨_, rfl, p, _, 1, _, rfl, rfl, SqT.of hp2, rfl, _, rfl, p, _, 0, _, rfl, rfl, SqT.of hp2, rfl, _, rfl, by show 2 ≤ sizeLine; decide, fun t3 n3 => ?_⟩
    have s3 := Same.up (o := .tup [.int a.im, .int (-a.re)]) n3
    refine ⟨by show 4 ≤ sizeLine; decide, fun L nL => ?_⟩
    have s4 := Same.up (o := .lst [.ref p, .ref t1, .ref t2, .ref t3]) nL
    have g1 := s4 _ _ (s3 _ _ (s2 _ _ (upd_same (H := H) (a := t1) (o := .tup [.int (-a.im), .int a.re]))))
    have g2 := s4 _ _ (s3 _ _ (upd_same (H := (upd H t1 (.tup [.int (-a.im), .int a.re]))) (a := t2) (o := .tup [.int (-a.re), .int (-a.im)])))
    have g3 := s4 _ _ (upd_same (H := upd (upd H t1 (.tup [.int (-a.im), .int a.re])) t2 (.tup [.int (-a.re), .int (-a.im)])) (a := t3) (o := .tup [.int a.im, .int (-a.re)]))
    have S := ((s1.trans s2).trans s3).trans s4
    refine ⟨_, rfl, .inl ⟨_, rfl, _, _, rfl, rfl, (by show (0 : Int) < 4; decide), ?_⟩⟩
    have hk : k % 4 = 0 ∨ k % 4 = 1 ∨ k % 4 = 2 ∨ k % 4 = 3 := by omega
    have eI : ∀ (z y : GI), z.re = y.re → z.im = y.im → z = y := fun z y h1 h2 => FS.G.ext_iff.mpr ⟨h1, h2⟩
    rcases hk with h | h | h | h
    · rw [h] at c
      refine ⟨L, _, k % 4, _, rfl, rfl, SqL.of upd_same, by rw [h]; rfl, c _ p S ?_⟩
      have : FS.G.I ^ (0 : Int).toNat * a = a := by show (1 : GI) * a = a; grind
      rw [this]; exact S _ _ hp
    · rw [h] at c
      refine ⟨L, _, k % 4, _, rfl, rfl, SqL.of upd_same, by rw [h]; rfl, c _ t1 S ?_⟩
      have : FS.G.I ^ (1 : Int).toNat * a = ⟨-a.im, a.re⟩ := by show FS.G.I * a = _; exact eI _ _ (by show 0 * a.re - 1 * a.im = -a.im; omega) (by show 0 * a.im + 1 * a.re = a.re; omega)
      rw [this]; exact g1
    · rw [h] at c
      refine ⟨L, _, k % 4, _, rfl, rfl, SqL.of upd_same, by rw [h]; rfl, c _ t2 S ?_⟩
      have : FS.G.I ^ (2 : Int).toNat * a = ⟨-a.re, -a.im⟩ := by show (-1 : GI) * a = _; exact eI _ _ (by show (-1) * a.re - 0 * a.im = -a.re; omega) (by show (-1) * a.im + 0 * a.re = -a.im; omega)
      rw [this]; exact g2
    · rw [h] at c
      refine ⟨L, _, k % 4, _, rfl, rfl, SqL.of upd_same, by rw [h]; rfl, c _ t3 S ?_⟩
      have : FS.G.I ^ (3 : Int).toNat * a = ⟨a.im, -a.re⟩ := by show (⟨0, -1⟩ : GI) * a = _; exact eI _ _ (by show 0 * a.re - (-1) * a.im = a.im; omega) (by show 0 * a.im + (-1) * a.re = -a.re; omega)
      rw [this]; exact g3
/-! ### _law_told -/
def spLTold : Sp := fun vs H Q _ => ∃ (p q : Addr) (a b : GI), vs = [.ref p, .ref q] ∧ TZ H p a ∧ TZ H q b ∧ BG 400 a ∧ BG 400 b ∧ FS.G.norm b % 2 = 1 ∧ ∀ (H' : Hp), Same H H' → Q (valV (FS.symV a b)) H'
theorem scLTold : FnScope ["_law_number_here", "_law_by"] ["_law_number_here", "_law_by"] (defScope (top 43)) := ⟨rfl, rfl, rfl, by decide +kernel, rfl, by decide +kernel, by decide +kernel⟩
theorem ok_ltold {f C : Addr} {fd : FuncData} (F : Fun K "_law_told" "_law_told" (top 43) f fd) (cs : Cal P w K mg base 10 "fourth_symbol" (spSym C)) (c : CalC P w K mg base 4 "Pair" C (spInit C)) : FnOk P w K mg base CX0 11 f fd ["_law_number_here", "_law_by"] spLTold := by
  refine F.ok scLTold (fun vs H Q E h => ?_) (fun cdv A outer s H vs Q E hr h => ?_)
  · obtain ⟨p, q, a, b, rfl, _⟩ := h; rfl
  · obtain ⟨p, q, a, b, rfl, hp, hq, ba, bb, ob, k⟩ := h
    refine ⟨_, pss_one (ps_ret (pe_c cs hr (by rfl) (pa_cons (pe_mk c (hr.mono (by decide)) (by rfl) (pa_cons (pe_ix ix_tup (pv 0) pe_int (fun _ _ => rfl)) (pa_cons (pe_ix ix_tup (pv 0) pe_int (fun _ _ => rfl)) pa_nil)))
      (pa_cons (pe_mk c (hr.mono (by decide)) (by rfl) (pa_cons (pe_ix ix_tup (pv 1) pe_int (fun _ _ => rfl)) (pa_cons (pe_ix ix_tup (pv 1) pe_int (fun _ _ => rfl)) pa_nil))) pa_nil)))), ?_⟩
    refine ⟨_, rfl, p, _, 0, _, rfl, rfl, SqT.of hp, rfl, _, rfl, p, _, 1, _, rfl, rfl, SqT.of hp, rfl, ?_⟩
    intro x dx nx nd ne
    refine mk_pair' (z := a) (ba.mono (by decide)) nx nd fun H1 s1 h1 => ⟨rfl, ?_⟩
    have hq1 := hq.same s1
    refine ⟨_, rfl, q, _, 0, _, rfl, rfl, SqT.of hq1, rfl, _, rfl, q, _, 1, _, rfl, rfl, SqT.of hq1, rfl, ?_⟩
    intro y dy ny nd' ne'
    refine mk_pair' (z := b) (bb.mono (by decide)) ny nd' fun H2 s2 h2 => ⟨rfl, ?_⟩
    exact ⟨x, y, a, b, rfl, h1.same s2, h2, ba, bb, ob, fun H3 s3 => k _ ((s1.trans s2).trans s3)⟩
end
end Toy
namespace Toy
open PySem L2
theorem room_units {k : Nat} {A : Around} (hr : Room k A) : A.units + 64 < cLine := by have := hr.un; omega
theorem eqv_zero (z : GI) : PyData.eqv (.tuple [.int z.re, .int z.im]) (.tuple [.int 0, .int 0]) = decide (z = 0) := by
  have e : PyData.eqv (.tuple [.int z.re, .int z.im]) (.tuple [.int 0, .int 0]) = ((z.re == 0) && ((z.im == 0) && true)) := rfl
  rw [e]
  by_cases h : z = 0
  · rw [h]; rfl
  · rw [decide_eq_false h]
    by_cases h1 : z.re = 0
    · have h2 : ¬ z.im = 0 := fun h2 => h (FS.G.ext_iff.mpr ⟨h1, h2⟩)
      rw [show (z.im == 0) = false from beq_eq_false_iff_ne.mpr h2]; simp
    · rw [show (z.re == 0) = false from beq_eq_false_iff_ne.mpr h1]; rfl
theorem dp_tz {K : PySem.W.Frag} {H : Hp} {t : Addr} {z : GI} (h : TZ H t z) : Dp K H (.ref t) (.tuple [.int z.re, .int z.im]) := .tup (SqT.of h) (.cons (.int _) (.cons (.int _) .nil))
theorem dp_zero {K : PySem.W.Frag} {H : Hp} {t : Addr} (h : H t = some (.tup [.int 0, .int 0])) : Dp K H (.ref t) (.tuple [.int 0, .int 0]) := .tup (SqT.of h) (.cons (.int _) (.cons (.int _) .nil))
def U : Nat → GI
  | 0 => 1
  | 1 => FS.G.I
  | 2 => -1
  | _ => ⟨0, -1⟩
theorem lfind_at {g p : GI} : ∀ {i : Nat}, i < 4 → (∀ j, j < i → FS.lrest (g - U j) p ≠ 0) → FS.lrest (g - U i) p = 0 → FS.lfind g p = i
  | 0, _, _, h => by
    show (if FS.lrest (g - U 0) p = 0 then _ else _) = _
    rw [if_pos h]; rfl
  | 1, _, n, h => by
    show (if FS.lrest (g - U 0) p = 0 then _ else if FS.lrest (g - U 1) p = 0 then _ else _) = _
    rw [if_neg (n 0 (by decide)), if_pos h]; rfl
  | 2, _, n, h => by
    show (if FS.lrest (g - U 0) p = 0 then _ else if FS.lrest (g - U 1) p = 0 then _ else if FS.lrest (g - U 2) p = 0 then _ else _) = _
    rw [if_neg (n 0 (by decide)), if_neg (n 1 (by decide)), if_pos h]; rfl
  | 3, _, n, h => by
    show (if FS.lrest (g - U 0) p = 0 then _ else if FS.lrest (g - U 1) p = 0 then _ else if FS.lrest (g - U 2) p = 0 then _ else if FS.lrest (g - U 3) p = 0 then _ else _) = _
    rw [if_neg (n 0 (by decide)), if_neg (n 1 (by decide)), if_neg (n 2 (by decide)), if_pos h]; rfl
  | i + 4, h, _, _ => by omega
theorem lfind_no {g p : GI} (n : ∀ j, j < 4 → FS.lrest (g - U j) p ≠ 0) : FS.lfind g p = 9 := by
  show (if FS.lrest (g - U 0) p = 0 then _ else if FS.lrest (g - U 1) p = 0 then _ else if FS.lrest (g - U 2) p = 0 then _ else if FS.lrest (g - U 3) p = 0 then _ else _) = _
  rw [if_neg (n 0 (by decide)), if_neg (n 1 (by decide)), if_neg (n 2 (by decide)), if_neg (n 3 (by decide))]
theorem lrest_BG {a m : GI} (hm : m ≠ 0) (bm : BG 20 m) : BG 22 (FS.lrest a m) := by
  have h1 := lrest_norm (a := a) hm
  have h2 := norm_lt_of bm
  exact norm_B (by
    have : (2 : Int) ^ (2 * 22) = 4 * 2 ^ (2 * (20 + 1)) := by decide
    omega)
theorem bg_one : BG 22 (1 : GI) := ⟨(by decide : (1 : Int).natAbs < 2 ^ 22), (by decide : (0 : Int).natAbs < 2 ^ 22)⟩
theorem bg_U : ∀ i, BG 1 (U i)
  | 0 => ⟨(by decide : (1 : Int).natAbs < 2 ^ 1), (by decide : (0 : Int).natAbs < 2 ^ 1)⟩
  | 1 => ⟨(by decide : (0 : Int).natAbs < 2 ^ 1), (by decide : (1 : Int).natAbs < 2 ^ 1)⟩
  | 2 => ⟨(by decide : (-1 : Int).natAbs < 2 ^ 1), (by decide : (0 : Int).natAbs < 2 ^ 1)⟩
  | _ + 3 => ⟨(by decide : (0 : Int).natAbs < 2 ^ 1), (by decide : (-1 : Int).natAbs < 2 ^ 1)⟩
section
variable {P : Program} {w : World} {K : PySem.W.Frag} {mg : Str → Option Value} {base : Heap}
/-! ### _law_power_of_i -/
def spLPow : Sp := fun vs H Q _ => ∃ (p q : Addr) (a m : GI), vs = [.ref p, .ref q] ∧ TZ H p a ∧ TZ H q m ∧ BG 1000 a ∧ BG 20 m ∧ m ≠ 0 ∧ ∀ (H' : Hp), Same H H' → Q (valV (FS.lpi a m)) H'
abbrev NLP : List Str := ["_law_number_here", "_law_prime", "_law_first", "_law_found", "_law_turn", "_law_power", "_law_unit"]
theorem scLPow : FnScope NLP ["_law_number_here", "_law_prime"] (defScope (top 40)) := ⟨rfl, rfl, rfl, by decide +kernel, rfl, by decide +kernel, by decide +kernel⟩
theorem ok_lpow {f : Addr} {fd : FuncData} (F : Fun K "_law_power_of_i" "_law_power_of_i" (top 40) f fd) (hi : mg "int" = none) (hrg : mg "range" = none) (hen : mg "enumerate" = none) (cr : Cal P w K mg base 2 "_law_rest" spLRest)
    (cn : Cal P w K mg base 1 "_law_norm" spLNorm) (ct : Cal P w K mg base 1 "_law_times" spLTimes) : FnOk P w K mg base CX0 3 f fd ["_law_number_here", "_law_prime"] spLPow := by
  refine F.ok scLPow (fun vs H Q E h => ?_) (fun cdv A outer s H vs Q E hr h => ?_)
  · obtain ⟨p, q, a, m, rfl, _⟩ := h; rfl
  · obtain ⟨p, q, a, m, rfl, hp, hq, ba, bm, hm, k⟩ := h
    have nd := scLPow.nd
    have hu := room_units hr
    refine ⟨_, pss_cons (ps_set (i := 2) nd rfl (.inl rfl) (pe_c cr (hr.mono (by decide)) (by rfl) (pa_cons (pv 0) (pa_cons (pv 1) pa_nil))))
      (pss_cons (ps_if (pt_cmpR (op_eqD hu) (pv 2) (pe_tup (pa_cons pe_int (pa_cons pe_int pa_nil))) (nomark _)) (pss_one (ps_ret pe_non)) pss_nil)
      (pss_cons (ps_set (i := 3) nd rfl (.inl rfl) (pe_tup (pa_cons pe_int (pa_cons pe_int pa_nil))))
      (pss_cons (ps_for PassesOwn.never rfl (pi_range1 (by rfl) hrg (pa_cons (pe_op op_fdiv (pe_callTy call_int1 (by rfl) hi (by decide +kernel) (pa_cons (pe_op op_sub (pe_c cn (hr.mono (by decide)) (by rfl) (pa_cons (pv 1) pa_nil)) pe_int) pa_nil)) pe_int) pa_nil)) (pg_name (i := 4) nd rfl (.inl rfl))
        (pss_one (ps_set (i := 3) nd rfl (.inl rfl) (pe_c cr (hr.mono (by decide)) (by rfl) (pa_cons (pe_c ct (hr.mono (by decide)) (by rfl) (pa_cons (pv 3) (pa_cons (pv 2) pa_nil))) (pa_cons (pv 1) pa_nil))))))
      (pss_cons (ps_for PassesOwn.never rfl (pi_enum (by rfl) hen (pa_cons (pe_lst (pa_cons (pe_tup (pa_cons pe_int (pa_cons pe_int pa_nil))) (pa_cons (pe_tup (pa_cons pe_int (pa_cons pe_int pa_nil))) (pa_cons (pe_tup (pa_cons (pe_un un_neg pe_int) (pa_cons pe_int pa_nil)))
          (pa_cons (pe_tup (pa_cons pe_int (pa_cons (pe_un un_neg pe_int) pa_nil))) pa_nil))))) pa_nil)) (pg_tup rfl (pgs_cons (pg_name (i := 5) nd rfl (.inl rfl)) (pgs_cons (pg_name (i := 6) nd rfl (.inl rfl)) pgs_nil)))
        (pss_one (ps_if (pt_cmpR (op_eqD hu) (pe_c cr (hr.mono (by decide)) (by rfl) (pa_cons (pe_tup (pa_cons (pe_op op_sub (pe_ix ix_tup (pv 3) pe_int (fun _ _ => rfl)) (pe_ix ix_tup (pv 6) pe_int (fun _ _ => rfl))) (pa_cons (pe_op op_sub (pe_ix ix_tup (pv 3) pe_int (fun _ _ => rfl)) (pe_ix ix_tup (pv 6) pe_int (fun _ _ => rfl))) pa_nil)))
          (pa_cons (pv 1) pa_nil))) (pe_tup (pa_cons pe_int (pa_cons pe_int pa_nil))) (nomark _)) (pss_one (ps_ret (pv 5))) pss_nil)))
      (pss_one (ps_ret pe_int)))))), ?_⟩
    refine ⟨_, rfl, _, rfl, p, q, a, m, rfl, hp, hq, ba.mono (by decide), bm.mono (by decide), hm, fun H1 fa s1 h1 => ?_⟩
    refine ⟨_, rfl, by show 2 ≤ sizeLine; decide, fun t2 n2 => ?_⟩
    have s2 := Same.up (o := .tup [.int 0, .int 0]) n2
    refine ⟨_, _, dp_tz (h1.same s2), dp_zero upd_same, rfl, rfl, _, rfl, ?_⟩
    rw [eqv_zero]
    refine ite2 (fun hc => ?_) (fun hc => ?_)
    · have h0 : FS.lrest a m = 0 := of_decide_eq_true hc
      have ev : FS.lpi a m = none := by unfold FS.lpi; rw [if_pos h0]
      rw [ev] at k
      exact k _ (s1.trans s2)
    have h0 : ¬ FS.lrest a m = 0 := fun e => hc (decide_eq_true e)
    have ev : FS.lpi a m = some (FS.lfind (FS.lpow (FS.lrest a m) m ((FS.G.norm m - 1) / 4).toNat) m) := by unfold FS.lpi; rw [if_neg h0]
    rw [ev] at k
    generalize hf : FS.lrest a m = fi at *
    have bf : BG 22 fi := by rw [← hf]; exact lrest_BG hm bm
    refine ⟨by show 2 ≤ sizeLine; decide, fun t3 n3 => ?_⟩
    have s3 := Same.up (o := .tup [.int 1, .int 0]) n3
    have hq3 := ((hq.same s1).same s2).same s3
    have S3 := (s1.trans s2).trans s3
    have hN := FS.G.norm_pos hm
    have hNb := norm_lt_of bm
    have e62 : (2 : Int) ^ (2 * (20 + 1)) = 4398046511104 := by decide
    refine ⟨_, rfl, q, m, rfl, hq3, bm.mono (by decide), _, _, rfl, rfl, .inl ⟨_, rfl, _, _, rfl, rfl, ⟨by decide, by decide⟩, ?_⟩⟩
    refine ⟨(FS.G.norm m - 1) / 4, rfl, by omega, by omega, ?_⟩
    refine for_range (lo := 0) (n := ((FS.G.norm m - 1) / 4).toNat) (fun i σ H' => ∃ (t : Addr) (x4 : Option V), σ = [some (.ref p), some (.ref q), some (.ref fa), some (.ref t), x4, none, none] ∧ Same H H' ∧ TZ H' fa fi ∧ TZ H' t (FS.lpow fi m i))
      ⟨t3, none, rfl, S3, (h1.same s2).same s3, upd_same⟩ ?_ ?_
    · rintro i σ H4 hi4 ⟨t, x4, rfl, S4, f4, g4⟩
      have bp : BG 22 (FS.lpow fi m i) := by
        cases i with
        | zero => exact bg_one
        | succ i => exact lrest_BG hm bm
      refine ⟨_, rfl, _, rfl, t, fa, FS.lpow fi m i, fi, rfl, g4, f4, bp.mono (by decide), bf.mono (by decide), fun H5 t5 s5 h5 => ?_⟩
      refine ⟨_, rfl, t5, q, FS.lpow fi m i * fi, m, rfl, h5, (hq.same S4).same s5, (bp.mul bf).mono (by decide), bm.mono (by decide), hm, fun H6 t6 s6 h6 => ?_⟩
      exact ⟨t6, _, rfl, (S4.trans s5).trans s6, (f4.same s5).same s6, h6⟩
    · rintro σ H4 ⟨t, x4, rfl, S4, f4, g4⟩
      generalize hg : FS.lpow fi m ((FS.G.norm m - 1) / 4).toNat = g at *
      have bg : BG 22 g := by
        rw [← hg]
        cases ((FS.G.norm m - 1) / 4).toNat with
        | zero => exact bg_one
        | succ i => exact lrest_BG hm bm
      refine ⟨by show 2 ≤ sizeLine; decide, fun u0 n0 => ?_⟩
      have w0 := Same.up (o := .tup [.int 1, .int 0]) n0
      refine ⟨by show 2 ≤ sizeLine; decide, fun u1 n1 => ?_⟩
      have w1 := Same.up (o := .tup [.int 0, .int 1]) n1
      refine ⟨_, rfl, by show 2 ≤ sizeLine; decide, fun u2 n2 => ?_⟩
      have w2 := Same.up (o := .tup [.int (-1), .int 0]) n2
      refine ⟨_, rfl, by show 2 ≤ sizeLine; decide, fun u3 n3 => ?_⟩
      have w3 := Same.up (o := .tup [.int 0, .int (-1)]) n3
      refine ⟨by show 4 ≤ sizeLine; decide, fun L nL => ?_⟩
      have w4 := Same.up (o := .lst [.ref u0, .ref u1, .ref u2, .ref u3]) nL
      generalize hH5 : upd _ L (.lst [.ref u0, .ref u1, .ref u2, .ref u3]) = H5 at w4 ⊢
      have hL : H5 L = some (.lst [.ref u0, .ref u1, .ref u2, .ref u3]) := by rw [← hH5]; exact upd_same
      have S5 := (((w0.trans w1).trans w2).trans w3).trans w4
      have c0 : TZ H5 u0 (U 0) := w4 _ _ (w3 _ _ (w2 _ _ (w1 _ _ upd_same)))
      have c1 : TZ H5 u1 (U 1) := w4 _ _ (w3 _ _ (w2 _ _ upd_same))
      have c2 : TZ H5 u2 (U 2) := w4 _ _ (w3 _ _ upd_same)
      have c3 : TZ H5 u3 (U 3) := w4 _ _ upd_same
      have hxs : ∀ (i : Nat) (x : V), ([.ref u0, .ref u1, .ref u2, .ref u3] : List V)[i]? = some x → ∃ u, x = .ref u ∧ TZ H5 u (U i) ∧ i < 4 ∧ BG 1 (U i) := by
        intro i x hx
        match i, hx with
        | 0, hx => cases hx; exact ⟨u0, rfl, c0, by decide, bg_U 0⟩
        | 1, hx => cases hx; exact ⟨u1, rfl, c1, by decide, bg_U 1⟩
        | 2, hx => cases hx; exact ⟨u2, rfl, c2, by decide, bg_U 2⟩
        | 3, hx => cases hx; exact ⟨u3, rfl, c3, by decide, bg_U 3⟩
        | i + 4, hx => cases hx
      clear hH5
      refine ⟨L, _, rfl, SqL.of hL, ?_⟩
      refine for_enum (xs := [.ref u0, .ref u1, .ref u2, .ref u3]) (fun i σ H' => ∃ (x5 x6 : Option V), σ = [some (.ref p), some (.ref q), some (.ref fa), some (.ref t), x4, x5, x6] ∧ Same H5 H' ∧ ∀ j, j < i → FS.lrest (g - U j) m ≠ 0)
        ⟨none, none, rfl, Same.refl H5, fun j hj => absurd hj (Nat.not_lt_zero _)⟩ (fun i σ H' _ ⟨_, _, _, s6, _⟩ => SqL.of (s6 _ _ hL)) ?_ ?_
      · rintro i x σ H6 T hx ⟨x5, x6, rfl, S6, hno⟩ nT
        obtain ⟨u, rfl, hu5, hi4, bu⟩ := hxs i x hx
        have s7 := Same.up (o := .tup [.int (i : Nat), .ref u]) nT
        generalize hH7 : upd H6 T (.tup [.int (i : Nat), .ref u]) = H7 at s7 ⊢
        have hT7 : H7 T = some (.tup [.int (i : Nat), .ref u]) := by rw [← hH7]; exact upd_same
        refine ⟨T, _, rfl, SqT.of hT7, rfl, _, _, rfl, _, _, rfl, rfl, ?_⟩
        have g7 : TZ H7 t g := ((g4.same S5).same S6).same s7
        have u7 : TZ H7 u (U i) := (hu5.same S6).same s7
        have q7 : TZ H7 q m := (((hq.same S4).same S5).same S6).same s7
        refine ⟨_, rfl, t, _, 0, _, rfl, rfl, SqT.of g7, rfl, _, rfl, u, _, 0, _, rfl, rfl, SqT.of u7, rfl, _, _, rfl, rfl, ?_⟩
        refine ⟨_, rfl, t, _, 1, _, rfl, rfl, SqT.of g7, rfl, _, rfl, u, _, 1, _, rfl, rfl, SqT.of u7, rfl, _, _, rfl, rfl, ?_⟩
        refine ⟨by show 2 ≤ sizeLine; decide, fun t8 n8 => ?_⟩
        have s8 := Same.up (o := .tup [.int (g.re - (U i).re), .int (g.im - (U i).im)]) n8
        refine ⟨_, rfl, t8, q, g - U i, m, rfl, upd_same, q7.same s8, (bg.sub (bu.mono (by decide))).mono (by decide), bm.mono (by decide), hm, fun H9 t9 s9 h9 => ?_⟩
        refine ⟨by show 2 ≤ sizeLine; decide, fun t10 n10 => ?_⟩
        have s10 := Same.up (o := .tup [.int 0, .int 0]) n10
        refine ⟨_, _, dp_tz (h9.same s10), dp_zero upd_same, rfl, rfl, _, rfl, ?_⟩
        rw [eqv_zero]
        have SS := (((S6.trans s7).trans s8).trans s9).trans s10
        refine ite2 (fun hc => ?_) (fun hc => ?_)
        · have h0 : FS.lrest (g - U i) m = 0 := of_decide_eq_true hc
          have el := lfind_at hi4 hno h0
          rw [el] at k
          exact ⟨_, rfl, k _ ((S4.trans S5).trans SS)⟩
        · have h0 : ¬ FS.lrest (g - U i) m = 0 := fun e => hc (decide_eq_true e)
          refine ⟨_, _, rfl, SS, fun j hj => ?_⟩
          by_cases e : j = i
          · rw [e]; exact h0
          · exact hno j (by omega)
      · rintro σ H6 ⟨x5, x6, rfl, S6, hno⟩
        rw [lfind_no hno] at k
        exact k _ ((S4.trans S5).trans S6)
end
end Toy
namespace Toy
open PySem L2
/-- a list of tuples of two whole numbers -/
def PL (H : Hp) (L : Addr) (ps : List GI) : Prop := ∃ tps : List (Addr × GI), H L = some (.lst (tps.map fun x => V.ref x.1)) ∧ tps.map (·.2) = ps ∧ ∀ x ∈ tps, TZ H x.1 x.2
theorem PL.same {H H' : Hp} {L : Addr} {ps : List GI} (h : PL H L ps) (s : Same H H') : PL H' L ps := by
  obtain ⟨tps, e, m, t⟩ := h
  exact ⟨tps, s _ _ e, m, fun x hx => (t x hx).same s⟩
theorem in_none {os : List (Option Int)} : inV .non (os.map valV) = true ↔ none ∈ os := by
  unfold inV
  rw [List.any_eq_true]
  constructor
  · rintro ⟨y, hy, e⟩
    obtain ⟨o, ho, rfl⟩ := List.mem_map.mp hy
    cases o with
    | none => exact ho
    | some i => cases e
  · intro h
    exact ⟨.non, List.mem_map.mpr ⟨none, h, rfl⟩, rfl⟩
theorem flat_valV (os : List (Option Int)) : (os.map valV).all flatV = true := by
  rw [List.all_eq_true]
  intro y hy
  obtain ⟨o, ho, rfl⟩ := List.mem_map.mp hy
  cases o <;> rfl
theorem lsum_none {os : List (Option Int)} (h : none ∈ os) : FS.lsum os = none := by
  induction os with
  | nil => cases h
  | cons o os ih =>
    cases o with
    | none => rfl
    | some x =>
      have h' : none ∈ os := by
        rcases List.mem_cons.mp h with e | e
        · cases e
        · exact e
      show (match FS.lsum os with | none => none | some y => some (x + y)) = none
      rw [ih h']
theorem lsum_some {os : List (Option Int)} (h : none ∉ os) : ∃ ns : List Int, os.map valV = ns.map V.int ∧ FS.lsum os = some ns.sum := by
  induction os with
  | nil => exact ⟨[], rfl, rfl⟩
  | cons o os ih =>
    cases o with
    | none => exact absurd List.mem_cons_self h
    | some x =>
      obtain ⟨ns, e1, e2⟩ := ih fun z => h (List.mem_cons_of_mem _ z)
      refine ⟨x :: ns, ?_, ?_⟩
      · show V.int x :: os.map valV = _
        rw [e1]; rfl
      · show (match FS.lsum os with | none => none | some y => some (x + y)) = _
        rw [e2]; rfl
section
variable {P : Program} {w : World} {K : PySem.W.Frag} {mg : Str → Option Value} {base : Heap}
/-! ### _law_due -/
def spLDue : Sp := fun vs H Q _ => ∃ (p L : Addr) (a : GI) (ps : List GI), vs = [.ref p, .ref L] ∧ TZ H p a ∧ PL H L ps ∧ ps.length ≤ 100 ∧ BG 1000 a ∧ (∀ m ∈ ps, BG 20 m ∧ m ≠ 0) ∧ ∀ (H' : Hp), Same H H' → Q (valV (FS.ldue a ps)) H'
abbrev NLD : List Str := ["_law_number_here", "_law_primes_here", "_law_powers", "_law_prime"]
theorem scLDue : FnScope NLD ["_law_number_here", "_law_primes_here"] (defScope (top 41)) := ⟨rfl, rfl, rfl, by decide +kernel, rfl, by decide +kernel, by decide +kernel⟩
theorem ok_ldue {f : Addr} {fd : FuncData} (F : Fun K "_law_due" "_law_due" (top 41) f fd) (hs : mg "sum" = none) (cp : Cal P w K mg base 3 "_law_power_of_i" spLPow) : FnOk P w K mg base CX0 4 f fd ["_law_number_here", "_law_primes_here"] spLDue := by
  refine F.ok scLDue (fun vs H Q E h => ?_) (fun cdv A outer s H vs Q E hr h => ?_)
  · obtain ⟨p, L, a, ps, rfl, _⟩ := h; rfl
  · obtain ⟨p, L, a, ps, rfl, hp, hL, hlen, ba, bps, k⟩ := h
    have nd := scLDue.nd
    refine ⟨_, pss_cons (ps_setLc (i := 2) (own := [("_law_prime", 3)]) (g := gName 3) (tt := tYes) rfl nd rfl rfl (sw_true rfl rfl rfl (by decide +kernel)) (pi_list (pv 1)) (blkOk_by (own := [("_law_prime", 3)]) (N := NLD) (sc := defScope (top 41)) (by decide +kernel))
        (fun _ _ _ _ _ => pg_name (i := 3) nd rfl (Or.inl rfl)) (fun _ _ _ _ _ => pts_nil) (fun _ _ _ _ _ => pe_c cp hr (by rfl) (pa_cons (pv 0) (pa_cons (pv 3) pa_nil))))
      (pss_one (ps_ret (pe_ifExp (pt_cmpR op_in_seq pe_non (pv 2) rfl) pe_non (pe_op op_mod (pe_callB (cr_sum rfl) (by rfl) hs PyProof.Rows.boot_sum (pa_cons (pv 2) pa_nil)) pe_int)))), ?_⟩
    obtain ⟨tps, e0, e1, e2⟩ := hL
    refine ⟨_, rfl, L, rfl, ⟨_, SqL.of e0⟩, fun D hD => ?_⟩
    have hl2 : tps.length ≤ 100 := by rw [← e1, List.length_map] at hlen; exact hlen
    refine lc_list (K := K) (a := L) (xs := tps.map fun x => V.ref x.1) (fun i H' => Same H H' ∧ H' D = some (.lst ((tps.take i).map fun x => valV (FS.lpi a x.2))))
      ⟨Same.up hD, upd_same⟩ (fun i H' _ ⟨s1, _⟩ => SqL.of (s1 _ _ e0)) ?_ ?_
    · rintro i x H' hi ⟨s1, hd⟩
      rw [List.getElem?_map] at hi
      cases hq : tps[i]? with
      | none => rw [hq] at hi; cases hi
      | some tz =>
        rw [hq] at hi
        cases hi
        have hm := List.mem_of_getElem? hq
        have hb := bps tz.2 (by rw [← e1]; exact List.mem_map_of_mem hm)
        refine ⟨rfl, _, rfl, _, rfl, p, tz.1, a, tz.2, rfl, hp.same s1, (e2 tz hm).same s1, ba, hb.1, hb.2, fun H4 s4 => ?_⟩
        refine ⟨_, s4 _ _ hd, ?_, fun b o e => ?_, ?_⟩
        · rw [List.length_map, List.length_take]
          exact Nat.lt_of_le_of_lt (Nat.le_trans (Nat.min_le_right _ _) hl2) (by decide)
        · rw [upd_ne (ne_of_none e hD)]
          exact s4 _ _ (s1 _ _ e)
        · rw [upd_same, List.take_add_one, hq, List.map_append]; rfl
    · rintro H' ⟨s1, hd⟩
      rw [List.length_map, List.take_length] at hd
      have ev : tps.map (fun x => valV (FS.lpi a x.2)) = (ps.map (FS.lpi a)).map valV := by rw [← e1, List.map_map, List.map_map]; rfl
      rw [ev] at hd
      refine ⟨_, rfl, D, _, rfl, .inl (SqL.of hd), rfl, flat_valV _, _, rfl, ?_⟩
      refine ite2 (fun hc => ?_) (fun hc => ?_)
      · have h0 := in_none.mp (show inV .non ((ps.map (FS.lpi a)).map valV) = true from hc)
        have e : FS.ldue a ps = none := by unfold FS.ldue; rw [lsum_none h0]; rfl
        rw [e] at k
        exact k _ s1
      · have h0 : none ∉ ps.map (FS.lpi a) := fun e => hc (in_none.mpr e)
        obtain ⟨ns, e3, e4⟩ := lsum_some h0
        have e : FS.ldue a ps = some (ns.sum % 4) := by unfold FS.ldue; rw [e4]; rfl
        rw [e] at k
        rw [e3] at hd
        exact ⟨_, rfl, D, ns, rfl, SqL.of hd, _, _, rfl, rfl, (by show (0 : Int) < 4; decide), k _ s1⟩
end
end Toy
namespace Toy
open PySem L2
theorem dpAll_ints {K : PySem.W.Frag} {H : Hp} : ∀ ns : List Int, DpAll K H (ns.map V.int) (ns.map PyData.int)
  | [] => .nil
  | n :: ns => .cons (.int n) (dpAll_ints ns)
theorem canAll_ints : ∀ ns : List Int, PyData.canLayAll0 (ns.map PyData.int) = true
  | [] => rfl
  | n :: ns => by show (PyData.canLay0 (.int n) && PyData.canLayAll0 (ns.map PyData.int)) = true; rw [canAll_ints ns]; rfl
theorem depthAll_ints : ∀ ns : List Int, PyData.depthAll (ns.map PyData.int) = 0
  | [] => rfl
  | n :: ns => by show max (PyData.depth (.int n)) (PyData.depthAll (ns.map PyData.int)) = 0; rw [depthAll_ints ns]; rfl
theorem shaped_ints (ns : List Int) : SeqAt.shaped (.list (ns.map PyData.int)) = true := by
  show (PyData.canLayAll0 (ns.map PyData.int) && decide (PyData.depthAll (ns.map PyData.int) + 1 ≤ 64)) = true
  rw [canAll_ints, depthAll_ints]; rfl
theorem eqv_empty (ds : List PyData) : PyData.eqv (.list ds) (.list []) = ds.isEmpty := by
  cases ds <;> rfl
/-- the pot -/
def Pot (H : Hp) (p : Addr) (n : Nat) : Prop := ∃ (c : Addr) (ns : List Int) (at_ : Nat) (r : Int), H p = some (.lst [.ref c, .int at_, .int r]) ∧ H c = some (.lst (ns.map V.int)) ∧ c ≠ p ∧ ns.length ≤ 63 ∧ at_ ≤ n
theorem Pot.same {H H' : Hp} {p : Addr} {n : Nat} (h : Pot H p n) (s : Same H H') : Pot H' p n := by
  obtain ⟨c, ns, at_, r, e1, e2, ne, l, a⟩ := h
  exact ⟨c, ns, at_, r, s _ _ e1, s _ _ e2, ne, l, a⟩
theorem Pot.mono {H : Hp} {p : Addr} {n m : Nat} (h : Pot H p n) (e : n ≤ m) : Pot H p m := by
  obtain ⟨c, ns, at_, r, e1, e2, ne, l, a⟩ := h
  exact ⟨c, ns, at_, r, e1, e2, ne, l, Nat.le_trans a e⟩
theorem SameBut.trans {p : Addr} {A B C : Hp} (a : SameBut p A B) (b : SameBut p B C) : SameBut p A C := fun x o n e => b x o n (a x o n e)
theorem Same.but {p : Addr} {A B : Hp} (a : Same A B) : SameBut p A B := fun x o _ e => a x o e
theorem SameBut.upd {p : Addr} {H : Hp} {o : HO} : SameBut p H (upd H p o) := fun b _ nb e => by rw [upd_ne nb]; exact e
theorem SameBut.refl {p : Addr} {H : Hp} : SameBut p H H := fun _ _ _ e => e
section
variable {P : Program} {w : World} {K : PySem.W.Frag} {mg : Str → Option Value} {base : Heap}
/-! ### _law_pot -/
def spLPot (K : PySem.W.Frag) : Sp := fun vs H Q _ => ∃ (a : Addr) (ns : List Int), vs = [.ref a] ∧ SqL K H a (ns.map V.int) ∧ ns.length ≤ 63 ∧ ∀ (H' : Hp) (p : Addr), Same H H' → Pot H' p 0 → H p = none → Q (.ref p) H'
abbrev NPo : List Str := ["_law_script", "_law_cell"]
theorem scLPot : FnScope NPo ["_law_script"] (defScope (top 33)) := ⟨rfl, rfl, rfl, by decide +kernel, rfl, by decide +kernel, by decide +kernel⟩
theorem sqL_same {K : PySem.W.Frag} {H H' : Hp} {a : Addr} {xs : List V} (h : SqL K H a xs) (s : Same H H') : SqL K H' a xs :=
  h.elim (fun h => .inl (h.elim (fun h => .inl (s _ _ h)) fun ⟨o, h⟩ => .inr ⟨o, s _ _ h⟩)) fun h => .inr h
theorem cut_ints (ns : List Int) (lo hi : Option Int) : ∃ ms : List Int, cutV (ns.map V.int) lo hi = ms.map V.int ∧ ms.length ≤ ns.length := by
  unfold cutV
  rw [List.length_map, ← List.map_drop, ← List.map_take]
  exact ⟨_, rfl, by rw [List.length_take, List.length_drop]; omega⟩
theorem ok_lpot {f : Addr} {fd : FuncData} (F : Fun K "_law_pot" "_law_pot" (top 33) f fd) (hi : mg "int" = none) : FnOk P w K mg base CX0 1 f fd ["_law_script"] (spLPot K) := by
  refine F.ok scLPot (fun vs H Q E h => ?_) (fun cdv A outer s H vs Q E hr h => ?_)
  · obtain ⟨a, ns, rfl, _⟩ := h; rfl
  · obtain ⟨a, ns, rfl, ha, hlen, k⟩ := h
    have nd := scLPot.nd
    refine ⟨_, pss_one (ps_ret (pe_lst (pa_cons (pe_lc (own := [("_law_cell", 1)]) (g := gName 1) (tt := tYes) rfl nd (pi_list (pe_slice sl_list (pv 0) po_none (po_some pe_int))) (blkOk_by (own := [("_law_cell", 1)]) (N := NPo) (sc := defScope (top 33)) (by decide +kernel))
        (fun _ _ _ _ _ => pg_name (i := 1) nd rfl (Or.inl rfl)) (fun _ _ _ _ _ => pts_nil) (fun _ _ _ _ _ => pe_callTy call_int1 (by rfl) hi (by decide +kernel) (pa_cons (pv 1) pa_nil)))
      (pa_cons pe_int (pa_cons pe_int pa_nil))))), ?_⟩
    refine ⟨_, rfl, 63, rfl, a, _, rfl, ha, fun c0 n0 => ?_⟩
    obtain ⟨ms, em, lm⟩ := cut_ints ns none (some 63)
    rw [em]
    have s0 := Same.up (o := .lst (ms.map V.int)) n0
    generalize hH0 : upd H c0 (.lst (ms.map V.int)) = H0 at s0 ⊢
    have h0 : H0 c0 = some (.lst (ms.map V.int)) := by rw [← hH0]; exact upd_same
    refine ⟨c0, rfl, ⟨_, SqL.of h0⟩, fun D hD => ?_⟩
    refine lc_list (K := K) (a := c0) (xs := ms.map V.int) (fun i H' => Same H0 H' ∧ H' D = some (.lst ((ms.take i).map V.int))) ⟨Same.up hD, upd_same⟩ (fun i H' _ ⟨s1, _⟩ => SqL.of (s1 _ _ h0)) ?_ ?_
    · rintro i x H' hi ⟨s1, hd⟩
      rw [List.getElem?_map] at hi
      cases hq : ms[i]? with
      | none => rw [hq] at hi; cases hi
      | some z =>
        rw [hq] at hi
        cases hi
        refine ⟨rfl, _, rfl, .inl ⟨z, rfl, _, hd, ?_, fun b o e => ?_, ?_⟩⟩
        · rw [List.length_map, List.length_take]
          exact Nat.lt_of_le_of_lt (Nat.le_trans (Nat.min_le_right _ _) (Nat.le_trans lm hlen)) (by decide)
        · rw [upd_ne (ne_of_none e hD)]
          exact s1 _ _ e
        · rw [upd_same, List.take_add_one, hq, List.map_append]; rfl
    · rintro H' ⟨s1, hd⟩
      rw [List.length_map, List.take_length] at hd
      refine ⟨by show 3 ≤ sizeLine; decide, fun p np => ?_⟩
      have S : Same H H' := s0.trans s1
      have s2 := Same.up (o := .lst [.ref D, .int 0, .int 0]) np
      refine k _ p (S.trans s2) ⟨D, ms, 0, 0, upd_same, s2 _ _ hd, ne_of_none hd np, Nat.le_trans lm hlen, Nat.le_refl 0⟩ ?_
      cases e : H p with
      | none => rfl
      | some o => have := S _ _ e; rw [np] at this; cases this
/-! ### _law_dip -/
def spLDip : Sp := fun vs H Q _ => ∃ (p : Addr) (m : Int) (n : Nat), vs = [.ref p, .int m] ∧ 0 < m ∧ m ≤ 10000000 ∧ Pot H p n ∧ n ≤ 1000 ∧ ∀ (H' : Hp) (v : Int), SameBut p H H' → Pot H' p (n + 1) → 0 ≤ v → v < m → Q (.int v) H'
/-- where the pot's cells are -/
def CellAt (H : Hp) (p c : Addr) : Prop := ∃ x y : V, H p = some (.lst [.ref c, x, y])
def spLDipC : Sp := fun vs H Q _ => ∃ (p : Addr) (m : Int) (n : Nat), vs = [.ref p, .int m] ∧ 0 < m ∧ m ≤ 10000000 ∧ Pot H p n ∧ n ≤ 1000 ∧ ∀ (H' : Hp) (v : Int), SameBut p H H' → Pot H' p (n + 1) → 0 ≤ v → v < m → (∀ c, CellAt H p c → CellAt H' p c) → Q (.int v) H'
theorem dip_imp (vs : List V) (H : Hp) (Q : VK) (E : XK) (h : spLDip vs H Q E) : spLDipC vs H Q E := by
  obtain ⟨p, m, n, e, a, b, c, d, k⟩ := h
  exact ⟨p, m, n, e, a, b, c, d, fun H' v s1 p1 l u _ => k H' v s1 p1 l u⟩
abbrev NDi : List Str := ["_law_pot_here", "_law_many", "_law_rest_here", "_law_at", "_law_cell", "_law_mixed"]
theorem scLDip : FnScope NDi ["_law_pot_here", "_law_many"] (defScope (top 34)) := ⟨rfl, rfl, rfl, by decide +kernel, rfl, by decide +kernel, by decide +kernel⟩
theorem ok_ldipc {f : Addr} {fd : FuncData} (F : Fun K "_law_dip" "_law_dip" (top 34) f fd) (hi : mg "int" = none) (hln : mg "len" = none) (hab : mg "abs" = none) : FnOk P w K mg base CX0 1 f fd ["_law_pot_here", "_law_many"] spLDipC := by
  refine F.ok scLDip (fun vs H Q E h => ?_) (fun cdv A outer s H vs Q E hr h => ?_)
  · obtain ⟨p, m, n, rfl, _⟩ := h; rfl
  · obtain ⟨p, m, n, rfl, hm0, hm, hp, hn, k⟩ := h
    have nd := scLDip.nd
    have hu := room_units hr
    have cdiv : ∀ i : Int, CDiv i m := fun i => ⟨hm0, by omega⟩
    obtain ⟨c, ns, at_, r, e1, e2, ne, ln, la⟩ := hp
    have k : ∀ (H' : Hp) (v : Int), SameBut p H H' → Pot H' p (n + 1) → 0 ≤ v → v < m → CellAt H' p c → Q (.int v) H' := fun H' v s1 p1 l u ce => k H' v s1 p1 l u fun c' ⟨x, y, h⟩ => by
      rw [e1] at h
      cases h
      exact ce
    have tail2 : ∃ t, PSs (cxOf CX0 P w K mg base NDi "_law_dip" (defScope (top 34)) f cdv A outer s H E).nox ((defBody (top 34)).drop 6) t ∧
        ∀ (cell : Int) (x2 x5 : Option V) (H1 : Hp), SameBut p H H1 → Pot H1 p (n + 1) → CellAt H1 p c → t { nx := fun _ H' => Q .non H', rt := Q } [some (.ref p), some (.int m), x2, some (.int at_), some (.int cell), x5] H1 := by
      refine ⟨_, pss_cons (ps_set (i := 5) nd rfl (.inl rfl) (pe_op op_mod (pe_callTy call_int1 (by rfl) hi (by decide +kernel) (pa_cons (pe_op op_pow (pe_op op_add (pe_op op_add (pe_op op_mod (pe_callTy call_int1 (by rfl) hi (by decide +kernel) (pa_cons (pv 4) pa_nil)) pe_int) (pe_op op_mul pe_int (pv 3))) pe_int) pe_int) pa_nil)) pe_int))
        (pss_cons (ps_set (i := 5) nd rfl (.inl rfl) (pe_op op_mod (pe_callTy call_int1 (by rfl) hi (by decide +kernel) (pa_cons (pe_op op_pow (pe_op op_add (pe_op op_add (pe_op op_mul (pv 5) (pe_op op_add (pe_op op_mul pe_int (pv 3)) pe_int)) (pe_op op_mul (pe_op op_mul pe_int (pv 3)) (pv 3))) pe_int) pe_int) pa_nil)) pe_int))
        (pss_one (ps_ret (pe_op op_mod (pe_callTy call_int1 (by rfl) hi (by decide +kernel) (pa_cons (pe_op op_fdiv (pv 5) pe_int) pa_nil)) (pv 1))))), ?_⟩
      intro cell x2 x5 H1 sb hp1 hce
      have hat : (0 : Int) ≤ at_ ∧ (at_ : Int) ≤ 1000 := ⟨by omega, by omega⟩
      generalize (at_ : Int) = a at hat ⊢
      refine ⟨_, rfl, .inl ⟨cell, rfl, _, _, rfl, rfl, (by show (0 : Int) < 2147483587; decide), _, rfl, _, _, rfl, rfl, .inl ⟨by decide, by decide⟩, _, _, rfl, rfl, _, _, rfl, rfl, _, _, rfl, rfl, ?_, .inl ⟨_, rfl, _, _, rfl, rfl, (by show (0 : Int) < 2147483629; decide), ?_⟩⟩⟩
      · have y1 := Int.emod_nonneg cell (show (2147483587 : Int) ≠ 0 by decide)
        have y2 := Int.emod_lt_of_pos cell (show (0 : Int) < 2147483587 by decide)
        generalize cell % 2147483587 = y at y1 y2
        refine ⟨by decide, by decide, ?_⟩
        show (y + 61099 * a + 7237).natAbs < 2 ^ 64
        omega
      obtain ⟨mx, hmx⟩ : ∃ mx, (cell % 2147483587 + 61099 * a + 7237) ^ (5 : Int).toNat % 2147483629 = mx := ⟨_, rfl⟩
      have m1 : 0 ≤ mx := by rw [← hmx]; exact Int.emod_nonneg _ (by decide)
      have m2 : mx < 2147483629 := by rw [← hmx]; exact Int.emod_lt_of_pos _ (by decide)
      have b1 : mx * (2 * a + 3919) ≤ 2147483629 * 5919 := Int.mul_le_mul (by omega) (by omega) (by omega) (by omega)
      have b2 : 0 ≤ mx * (2 * a + 3919) := Int.mul_nonneg m1 (by omega)
      have b3 : 88117 * a * a ≤ 88117000 * 1000 := Int.mul_le_mul (by omega) (by omega) (by omega) (by omega)
      have b4 : 0 ≤ 88117 * a * a := Int.mul_nonneg (by omega) (by omega)
      refine ⟨_, rfl, _, rfl, _, _, rfl, rfl, .inl ⟨by decide, by decide⟩, _, _, rfl, rfl, mx, _, congrArg V.int hmx, rfl, .inl ⟨by omega, by omega⟩, ?_⟩
      refine ⟨_, rfl, _, _, rfl, rfl, .inl ⟨by decide, by decide⟩, _, rfl, _, _, rfl, rfl, .inl ⟨by omega, by omega⟩, _, _, rfl, rfl, _, _, rfl, rfl, _, _, rfl, rfl, ⟨by decide, by decide, ?_⟩, .inl ⟨_, rfl, _, _, rfl, rfl, (by show (0 : Int) < 2147483563; decide), ?_⟩⟩
      · show (mx * (2 * a + 3919) + 88117 * a * a + 61099).natAbs < 2 ^ 64
        omega
      refine ⟨_, rfl, _, _, rfl, rfl, ⟨by decide, by decide⟩, .inl ⟨_, rfl, _, rfl, _, _, rfl, rfl, hm0, ?_⟩⟩
      exact k H1 _ sb hp1 (Int.emod_nonneg _ (by omega)) (Int.emod_lt_of_pos _ hm0) hce
    obtain ⟨t2, ht2, hq2⟩ := tail2
    have tail1 : ∃ t, PSs (cxOf CX0 P w K mg base NDi "_law_dip" (defScope (top 34)) f cdv A outer s H E).nox ((defBody (top 34)).drop 5) t ∧
        ∀ (cell : Int) (x2 x5 : Option V) (H1 : Hp), SameBut p H H1 → H1 p = some (.lst [.ref c, .int ((at_ : Int) + 1), .int r]) → H1 c = some (.lst (ns.map V.int)) → t { nx := fun _ H' => Q .non H', rt := Q } [some (.ref p), some (.int m), x2, some (.int at_), some (.int cell), x5] H1 := by
      refine ⟨_, pss_cons (ps_if (PW.pt (pw_and (pt_cmpR op_lt (pv 3) (pe_callB call_len_seq (by rfl) hln PySem.boot_len (pa_cons (pe_ix ix_list (pv 0) pe_int (fun _ _ => rfl)) pa_nil)) (nomark _))
          (pw_and1 (pt_cmpR op_ge (pe_callB call_abs (by rfl) hab PyProof.Rows.boot_abs (pa_cons (pv 4) pa_nil)) (pe_op op_pow pe_int pe_int) (nomark _)))))
        (pss_cons (ps_set (i := 2) nd rfl (.inl rfl) (pe_op op_add (pe_op op_mul pe_int (pe_op op_sub (pe_callB call_abs (by rfl) hab PyProof.Rows.boot_abs (pa_cons (pv 4) pa_nil)) (pe_op op_pow pe_int pe_int)))
            (pe_callTy call_int1 (by rfl) hi (by decide +kernel) (pa_cons (pe_cmpR op_lt (pv 4) pe_int (nomark _)) pa_nil))))
          (pss_cons (ps_asg (pe_op op_fdiv (pe_callTy call_int1 (by rfl) hi (by decide +kernel) (pa_cons (pv 2) pa_nil)) (pv 1)) (pg_sub (pv 0) pe_int set_list))
          (pss_one (ps_ret (pe_op op_mod (pe_callTy call_int1 (by rfl) hi (by decide +kernel) (pa_cons (pv 2) pa_nil)) (pv 1)))))) pss_nil) ht2, ?_⟩
      intro cell x2 x5 H1 sb g1 g2
      have hpot : Pot H1 p (n + 1) := ⟨c, ns, at_ + 1, r, g1, g2, ne, ln, by omega⟩
      refine ⟨_, rfl, _, rfl, p, _, 0, _, rfl, rfl, SqL.of g1, rfl, c, _, rfl, .inl (SqL.of g2), _, _, rfl, rfl, _, rfl, ?_⟩
      refine ite2 (fun hc => ?_) (fun hc => hq2 cell x2 x5 H1 sb hpot ⟨_, _, g1⟩)
      refine ⟨_, rfl, cell, rfl, _, _, rfl, rfl, ⟨by decide, by decide, by decide⟩, _, _, rfl, rfl, _, rfl, ?_⟩
      refine ite2 (fun hd => ?_) (fun hd => hq2 cell x2 x5 H1 sb hpot ⟨_, _, g1⟩)
      refine ⟨_, rfl, cell, rfl, _, _, rfl, rfl, ⟨by decide, by decide, by decide⟩, _, _, rfl, rfl, _, _, rfl, rfl, .inl ⟨by decide, by decide⟩, _, rfl, _, _, rfl, rfl, .inr ⟨_, rfl, _, _, rfl, rfl, ?_⟩⟩
      refine ⟨_, rfl, .inl ⟨_, rfl, _, rfl, _, _, rfl, rfl, cdiv _, _, rfl, p, _, 2, 2, rfl, rfl, g1, rfl, ?_⟩⟩
      refine ⟨_, rfl, .inl ⟨_, rfl, _, rfl, _, _, rfl, rfl, hm0, ?_⟩⟩
      refine k _ _ (sb.trans SameBut.upd) ⟨c, ns, at_ + 1, _, upd_same, ?_, ne, ln, by omega⟩ (Int.emod_nonneg _ (by omega)) (Int.emod_lt_of_pos _ hm0) ⟨_, _, upd_same⟩
      rw [upd_ne ne]; exact g2
    obtain ⟨t1, ht1, hq1⟩ := tail1
    refine ⟨_, pss_cons (ps_if (pt_cmpR op_gt (pe_ix ix_list (pv 0) pe_int (fun _ _ => rfl)) pe_int (nomark _))
        (pss_cons (ps_set (i := 2) nd rfl (.inl rfl) (pe_callTy call_int1 (by rfl) hi (by decide +kernel) (pa_cons (pe_ix ix_list (pv 0) pe_int (fun _ _ => rfl)) pa_nil)))
        (pss_cons (ps_asg (pe_op op_fdiv (pv 2) (pv 1)) (pg_sub (pv 0) pe_int set_list))
        (pss_one (ps_ret (pe_op op_mod (pe_callTy call_int1 (by rfl) hi (by decide +kernel) (pa_cons (pv 2) pa_nil)) (pv 1)))))) pss_nil)
      (pss_cons (ps_set (i := 3) nd rfl (.inl rfl) (pe_ix ix_list (pv 0) pe_int (fun _ _ => rfl)))
      (pss_cons (ps_asg (pe_op op_add (pv 3) pe_int) (pg_sub (pv 0) pe_int set_list))
      (pss_cons (ps_set (i := 4) nd rfl (.inl rfl) (pe_op op_add (pe_op op_mul pe_int (pv 3)) pe_int))
      (pss_cons (ps_if (pt_cmpR (op_neD hu) (pe_ix ix_list (pv 0) pe_int (fun _ _ => rfl)) (pe_lst pa_nil) (nomark _))
        (pss_one (ps_set (i := 4) nd rfl (.inl rfl) (pe_ix ix_list (pe_ix ix_list (pv 0) pe_int (fun _ _ => rfl)) (pe_op op_mod (pe_callTy call_int1 (by rfl) hi (by decide +kernel) (pa_cons (pv 3) pa_nil)) (pe_callB call_len_seq (by rfl) hln PySem.boot_len (pa_cons (pe_ix ix_list (pv 0) pe_int (fun _ _ => rfl)) pa_nil))) (fun _ _ => rfl)))) pss_nil) ht1)))), ?_⟩
    refine ⟨_, rfl, p, _, 2, _, rfl, rfl, SqL.of e1, rfl, _, _, rfl, rfl, _, rfl, ?_⟩
    refine ite2 (fun hc => ?_) (fun hc => ?_)
    · refine ⟨_, rfl, p, _, 2, _, rfl, rfl, SqL.of e1, rfl, .inl ⟨_, rfl, ?_⟩⟩
      refine ⟨_, rfl, _, rfl, _, _, rfl, rfl, cdiv _, _, rfl, p, _, 2, 2, rfl, rfl, e1, rfl, ?_⟩
      refine ⟨_, rfl, .inl ⟨_, rfl, _, rfl, _, _, rfl, rfl, hm0, ?_⟩⟩
      refine k _ _ SameBut.upd ⟨c, ns, at_, _, upd_same, ?_, ne, ln, by omega⟩ (Int.emod_nonneg _ (by omega)) (Int.emod_lt_of_pos _ hm0) ⟨_, _, upd_same⟩
      rw [upd_ne ne]; exact e2
    · refine ⟨_, rfl, p, _, 1, _, rfl, rfl, SqL.of e1, rfl, ?_⟩
      refine ⟨_, rfl, _, _, rfl, rfl, _, rfl, p, _, 1, 1, rfl, rfl, e1, rfl, ?_⟩
      have sb1 : SameBut p H (upd H p (.lst [.ref c, .int ((at_ : Int) + 1), .int r])) := SameBut.upd
      have g1 : upd H p (.lst [.ref c, .int ((at_ : Int) + 1), .int r]) p = some (.lst [.ref c, .int ((at_ : Int) + 1), .int r]) := upd_same
      have g2 : upd H p (.lst [.ref c, .int ((at_ : Int) + 1), .int r]) c = some (.lst (ns.map V.int)) := by rw [upd_ne ne]; exact e2
      refine ⟨_, rfl, _, _, rfl, rfl, .inl ⟨by decide, by decide⟩, _, _, rfl, rfl, ?_⟩
      refine ⟨_, rfl, p, _, 0, _, rfl, rfl, SqL.of g1, rfl, by show 0 ≤ sizeLine; decide, fun l hl => ?_⟩
      have s2 := Same.up (o := .lst []) hl
      refine ⟨_, _, .lst (SqL.of (s2 _ _ g2)) (dpAll_ints ns), .lst (SqL.of upd_same) .nil, shaped_ints ns, rfl, _, rfl, ?_⟩
      refine ite2 (fun hc => ?_) (fun hc => ?_)
      · have hne : ns ≠ [] := by
          rintro rfl
          exact absurd hc (by decide)
        have hpos : (0 : Int) < ns.length := by
          cases ns with
          | nil => exact absurd rfl hne
          | cons _ _ => simp
        have i1 := Int.emod_nonneg (at_ : Int) (show ((ns.length : Nat) : Int) ≠ 0 by omega)
        have i2 := Int.emod_lt_of_pos (at_ : Int) hpos
        obtain ⟨j, hj⟩ : ∃ j : Nat, (at_ : Int) % ns.length = j := ⟨((at_ : Int) % ns.length).toNat, by omega⟩
        have jl : j < ns.length := by omega
        refine ⟨_, rfl, p, _, 0, _, rfl, rfl, SqL.of (s2 _ _ g1), rfl, _, rfl, .inl ⟨_, rfl, _, rfl, p, _, 0, _, rfl, rfl, SqL.of (s2 _ _ g1), rfl, c, _, rfl, .inl (SqL.of (s2 _ _ g2)), _, _, rfl, rfl, ?_, ?_⟩⟩
        · rw [List.length_map]; exact hpos
        · refine ⟨c, _, (j : Int), .int ns[j], rfl, ?_, SqL.of (s2 _ _ g2), atI_nat ?_, ?_⟩
          · rw [List.length_map]; exact congrArg V.int hj
          · rw [List.getElem?_map, List.getElem?_eq_getElem jl]; rfl
          · exact hq1 _ _ _ _ (sb1.trans (Same.but s2)) (s2 _ _ g1) (s2 _ _ g2)
      · exact hq1 _ _ _ _ (sb1.trans (Same.but s2)) (s2 _ _ g1) (s2 _ _ g2)
theorem ok_ldip {f : Addr} {fd : FuncData} (F : FnOk P w K mg base CX0 1 f fd ["_law_pot_here", "_law_many"] spLDipC) : FnOk P w K mg base CX0 1 f fd ["_law_pot_here", "_law_many"] spLDip := F.imp dip_imp
end
end Toy
namespace Toy
open PySem L2
theorem Pot.lst {H : Hp} {p : Addr} {n : Nat} (h : Pot H p n) : ∃ xs, H p = some (.lst xs) := by
  obtain ⟨c, ns, at_, r, e1, _⟩ := h
  exact ⟨_, e1⟩
theorem TZ.but {H H' : Hp} {t p : Addr} {z : GI} {n : Nat} (h : TZ H t z) (hp : Pot H p n) (s : SameBut p H H') : TZ H' t z := by
  obtain ⟨xs, e⟩ := hp.lst
  exact s _ _ (ne_of h e (by intro z; cases z)) h
theorem PL.but {H H' : Hp} {L p : Addr} {ps : List GI} {n : Nat} (h : PL H L ps) (hp : Pot H p n) (ne : L ≠ p) (s : SameBut p H H') : PL H' L ps := by
  obtain ⟨tps, e, m, t⟩ := h
  exact ⟨tps, s _ _ ne e, m, fun x hx => (t x hx).but hp s⟩
theorem dpAll_tz {K : PySem.W.Frag} {H : Hp} : ∀ tps : List (Addr × GI), (∀ x ∈ tps, TZ H x.1 x.2) → DpAll K H (tps.map fun x => V.ref x.1) (tps.map fun x => PyData.tuple [.int x.2.re, .int x.2.im])
  | [], _ => .nil
  | x :: r, h => .cons (dp_tz (h x List.mem_cons_self)) (dpAll_tz r fun y hy => h y (List.mem_cons_of_mem _ hy))
theorem canAll_tz : ∀ tps : List (Addr × GI), PyData.canLayAll0 (tps.map fun x => PyData.tuple [.int x.2.re, .int x.2.im]) = true
  | [] => rfl
  | x :: r => by
    show (PyData.canLay0 (.tuple [.int x.2.re, .int x.2.im]) && PyData.canLayAll0 (r.map fun x => PyData.tuple [.int x.2.re, .int x.2.im])) = true
    rw [canAll_tz r]; rfl
theorem depthAll_tz : ∀ tps : List (Addr × GI), PyData.depthAll (tps.map fun x => PyData.tuple [.int x.2.re, .int x.2.im]) ≤ 1
  | [] => Nat.zero_le _
  | x :: r => Nat.max_le.mpr ⟨Nat.le_refl 1, depthAll_tz r⟩
theorem shaped_tz (tps : List (Addr × GI)) : SeqAt.shaped (.list (tps.map fun x => PyData.tuple [.int x.2.re, .int x.2.im])) = true := by
  show (PyData.canLayAll0 (tps.map fun x => PyData.tuple [.int x.2.re, .int x.2.im]) && decide (PyData.depthAll (tps.map fun x => PyData.tuple [.int x.2.re, .int x.2.im]) + 1 ≤ 64)) = true
  have := depthAll_tz tps
  rw [canAll_tz, decide_eq_true (by omega)]; rfl
section
variable {P : Program} {w : World} {K : PySem.W.Frag} {mg : Str → Option Value} {base : Heap}
/-! ### _law_part -/
def spLPart : Sp := fun vs H Q _ => ∃ (p : Addr) (n : Nat), vs = [.ref p] ∧ Pot H p n ∧ n ≤ 900 ∧ ∀ (H' : Hp) (v : Int), SameBut p H H' → Pot H' p (n + 4) → B 60 v → Q (.int v) H'
abbrev NPa : List Str := ["_law_pot_here", "_law_way", "_law_found"]
theorem scLPart : FnScope NPa ["_law_pot_here"] (defScope (top 35)) := ⟨rfl, rfl, rfl, by decide +kernel, rfl, by decide +kernel, by decide +kernel⟩
theorem ok_lpart {f : Addr} {fd : FuncData} (F : Fun K "_law_part" "_law_part" (top 35) f fd) (c : Cal P w K mg base 1 "_law_dip" spLDip) : FnOk P w K mg base CX0 2 f fd ["_law_pot_here"] spLPart := by
  refine F.ok scLPart (fun vs H Q E h => ?_) (fun cdv A outer s H vs Q E hr h => ?_)
  · obtain ⟨p, n, rfl, _⟩ := h; rfl
  · obtain ⟨p, n, rfl, hp, hn, k⟩ := h
    have nd := scLPart.nd
    refine ⟨_, pss_cons (ps_set (i := 1) nd rfl (.inl rfl) (pe_c c hr (by rfl) (pa_cons (pv 0) (pa_cons pe_int pa_nil))))
      (pss_cons (ps_if (pt_cmpR op_lt (pv 1) pe_int (nomark _)) (pss_one (ps_ret (pe_op op_sub (pe_c c hr (by rfl) (pa_cons (pv 0) (pa_cons pe_int pa_nil))) pe_int))) pss_nil)
      (pss_cons (ps_if (pt_cmpR op_eq (pv 1) pe_int (nomark _)) (pss_one (ps_ret (pe_op op_sub (pe_c c hr (by rfl) (pa_cons (pv 0) (pa_cons pe_int pa_nil))) pe_int))) pss_nil)
      (pss_cons (ps_set (i := 2) nd rfl (.inl rfl) (pe_op op_add (pe_op op_mul (pe_c c hr (by rfl) (pa_cons (pv 0) (pa_cons (pe_op op_pow pe_int pe_int) pa_nil))) (pe_op op_pow pe_int pe_int)) (pe_c c hr (by rfl) (pa_cons (pv 0) (pa_cons (pe_op op_pow pe_int pe_int) pa_nil)))))
      (pss_one (ps_ret (pe_ifExp (pt_cmpR op_eq (pe_c c hr (by rfl) (pa_cons (pv 0) (pa_cons pe_int pa_nil))) pe_int (nomark _)) (pv 2) (pe_un un_neg (pv 2)))))))), ?_⟩
    refine ⟨_, rfl, p, 4, n, rfl, by decide, by decide, hp, by omega, fun H1 v1 s1 p1 l1 u1 => ?_⟩
    refine ⟨_, rfl, _, _, rfl, rfl, _, rfl, ?_⟩
    refine ite2 (fun hc => ?_) (fun hc => ?_)
    · refine ⟨_, rfl, p, 15, n + 1, rfl, by decide, by decide, p1, by omega, fun H2 v2 s2 p2 l2 u2 => ⟨_, _, rfl, rfl, k _ _ (s1.trans s2) (p2.mono (by omega)) ?_⟩⟩
      unfold B; have : (2 : Nat) ^ 60 = 1152921504606846976 := by decide
      omega
    refine ⟨_, rfl, rfl, _, rfl, ?_⟩
    refine ite2 (fun hd => ?_) (fun hd => ?_)
    · refine ⟨_, rfl, p, 1999, n + 1, rfl, by decide, by decide, p1, by omega, fun H2 v2 s2 p2 l2 u2 => ⟨_, _, rfl, rfl, k _ _ (s1.trans s2) (p2.mono (by omega)) ?_⟩⟩
      unfold B; have : (2 : Nat) ^ 60 = 1152921504606846976 := by decide
      omega
    refine ⟨_, rfl, _, _, rfl, rfl, ⟨by decide, by decide, by decide⟩, p, 10000000, n + 1, rfl, by decide, by decide, p1, by omega, fun H2 v2 s2 p2 l2 u2 => ?_⟩
    refine ⟨_, _, rfl, rfl, ⟨by decide, by decide, by decide⟩, _, _, rfl, rfl, .inl ⟨by omega, by omega⟩, ?_⟩
    refine ⟨_, rfl, _, _, rfl, rfl, ⟨by decide, by decide, by decide⟩, p, 10000000, n + 2, rfl, by decide, by decide, p2, by omega, fun H3 v3 s3 p3 l3 u3 => ⟨_, _, rfl, rfl, ?_⟩⟩
    refine ⟨_, rfl, p, 2, n + 3, rfl, by decide, by decide, p3, by omega, fun H4 v4 s4 p4 l4 u4 => ⟨rfl, _, rfl, ?_⟩⟩
    have e7 : (10 : Int) ^ (7 : Int).toNat = 10000000 := by decide
    have hb : B 60 (v2 * (10 : Int) ^ (7 : Int).toNat + v3) := by
      rw [e7]
      unfold B; have : (2 : Nat) ^ 60 = 1152921504606846976 := by decide
      omega
    have S := ((s1.trans s2).trans s3).trans s4
    refine ite2 (fun he => ?_) (fun he => ?_)
    · exact ⟨_, rfl, k _ _ S p4 hb⟩
    · exact ⟨_, rfl, _, rfl, k _ _ S p4 hb.neg⟩
/-! ### _law_number -/
def spLNumber : Sp := fun vs H Q _ => ∃ (p L : Addr) (n : Nat) (ps : List GI), vs = [.ref p, .ref L] ∧ Pot H p n ∧ n ≤ 800 ∧ L ≠ p ∧ PL H L ps ∧ ps.length ≤ 200 ∧ (∀ m ∈ ps, BG 20 m) ∧
  ∀ (H' : Hp) (t : Addr) (z : GI), SameBut p H H' → Pot H' p (n + 10) → TZ H' t z → BG 100 z → Q (.ref t) H'
abbrev NNu : List Str := ["_law_pot_here", "_law_primes_here", "_law_number_here", "_law_way"]
theorem scLNumber : FnScope NNu ["_law_pot_here", "_law_primes_here"] (defScope (top 44)) := ⟨rfl, rfl, rfl, by decide +kernel, rfl, by decide +kernel, by decide +kernel⟩
theorem ok_lnumber {f : Addr} {fd : FuncData} (F : Fun K "_law_number" "_law_number" (top 44) f fd) (hln : mg "len" = none) (cp : Cal P w K mg base 2 "_law_part" spLPart) (c : Cal P w K mg base 1 "_law_dip" spLDip) (ct : Cal P w K mg base 1 "_law_times" spLTimes) :
    FnOk P w K mg base CX0 3 f fd ["_law_pot_here", "_law_primes_here"] spLNumber := by
  refine F.ok scLNumber (fun vs H Q E h => ?_) (fun cdv A outer s H vs Q E hr h => ?_)
  · obtain ⟨p, L, n, ps, rfl, _⟩ := h; rfl
  · obtain ⟨p, L, n, ps, rfl, hp, hn, ne, hL, hlen, bps, k⟩ := h
    have nd := scLNumber.nd
    have hu := room_units hr
    have hr1 := hr.mono (show 1 ≤ 2 by decide)
    have tail : ∃ t, PSs (cxOf CX0 P w K mg base NNu "_law_number" (defScope (top 44)) f cdv A outer s H E).nox ((defBody (top 44)).drop 2) t ∧
        ∀ (H1 : Hp) (a : Addr) (z : GI) (way : Int), SameBut p H H1 → Pot H1 p (n + 10) → TZ H1 a z → BG 60 z → 0 ≤ way → way < 9 → t { nx := fun _ H' => Q .non H', rt := Q } [some (.ref p), some (.ref L), some (.ref a), some (.int way)] H1 := by
      refine ⟨_, pss_one (ps_ret (pe_ifExp (pt_chain op_lt op_lt pe_int (pv 3) pe_int) (pe_ix ix_list (pe_lst (pa_cons (pe_tup (pa_cons pe_int (pa_cons pe_int pa_nil))) (pa_cons (pe_tup (pa_cons pe_int (pa_cons pe_int pa_nil))) (pa_cons (pe_tup (pa_cons pe_int (pa_cons pe_int pa_nil)))
        (pa_cons (pe_tup (pa_cons pe_int (pa_cons pe_int pa_nil))) (pa_cons (pe_tup (pa_cons (pe_ix ix_tup (pv 2) pe_int (fun _ _ => rfl)) (pa_cons pe_int pa_nil))) pa_nil)))))) (pe_op op_sub (pv 3) pe_int) (fun _ _ => rfl)) (pv 2))), ?_⟩
      intro H1 a z way sb hp1 ha bz w0 w9
      refine ⟨_, rfl, _, _, rfl, rfl, _, rfl, ?_⟩
      refine ite2 (fun hc => ?_) (fun hc => ?_)
      · have h0 : 0 < way := of_decide_eq_true hc
        refine ⟨_, _, rfl, rfl, _, rfl, ?_⟩
        refine ite2 (fun hd => ?_) (fun hd => ?_)
        · have h6 : way < 6 := of_decide_eq_true hd
          refine ⟨by show 2 ≤ sizeLine; decide, fun u0 n0 => ?_⟩
          have w0 := Same.up (o := .tup [.int 0, .int 0]) n0
          refine ⟨by show 2 ≤ sizeLine; decide, fun u1 n1 => ?_⟩
          have w1 := Same.up (o := .tup [.int 0, .int 1]) n1
          refine ⟨by show 2 ≤ sizeLine; decide, fun u2 n2 => ?_⟩
          have w2 := Same.up (o := .tup [.int 1, .int 1]) n2
          refine ⟨by show 2 ≤ sizeLine; decide, fun u3 n3 => ?_⟩
          have w3 := Same.up (o := .tup [.int 2, .int 0]) n3
          refine ⟨_, rfl, a, _, 0, _, rfl, rfl, SqT.of ((((ha.same w0).same w1).same w2).same w3), rfl, by show 2 ≤ sizeLine; decide, fun u4 n4 => ?_⟩
          have w4 := Same.up (o := .tup [.int z.re, .int 0]) n4
          refine ⟨by show 5 ≤ sizeLine; decide, fun l hl => ?_⟩
          have w5 := Same.up (o := .lst [.ref u0, .ref u1, .ref u2, .ref u3, .ref u4]) hl
          generalize hH5 : upd _ l (.lst [.ref u0, .ref u1, .ref u2, .ref u3, .ref u4]) = H5 at w5 ⊢
          have hL5 : H5 l = some (.lst [.ref u0, .ref u1, .ref u2, .ref u3, .ref u4]) := by rw [← hH5]; exact upd_same
          have S5 := ((((w0.trans w1).trans w2).trans w3).trans w4).trans w5
          have c0 : TZ H5 u0 ⟨0, 0⟩ := w5 _ _ (w4 _ _ (w3 _ _ (w2 _ _ (w1 _ _ upd_same))))
          have c1 : TZ H5 u1 ⟨0, 1⟩ := w5 _ _ (w4 _ _ (w3 _ _ (w2 _ _ upd_same)))
          have c2 : TZ H5 u2 ⟨1, 1⟩ := w5 _ _ (w4 _ _ (w3 _ _ upd_same))
          have c3 : TZ H5 u3 ⟨2, 0⟩ := w5 _ _ (w4 _ _ upd_same)
          have c4 : TZ H5 u4 ⟨z.re, 0⟩ := w5 _ _ upd_same
          clear hH5
          have fin : ∀ (u : Addr) (y : GI), TZ H5 u y → BG 100 y → Q (.ref u) H5 := fun u y h b => k H5 u y (sb.trans (Same.but S5)) (hp1.same S5) h b
          have sm : ∀ a b : Int, a.natAbs ≤ 2 → b.natAbs ≤ 2 → BG 100 (⟨a, b⟩ : GI) := fun a b ha hb => BG.mono (k := 2) ⟨Nat.lt_of_le_of_lt ha (by decide), Nat.lt_of_le_of_lt hb (by decide)⟩ (by decide)
          refine ⟨_, rfl, _, _, rfl, rfl, ?_⟩
          have hw : way = 1 ∨ way = 2 ∨ way = 3 ∨ way = 4 ∨ way = 5 := by omega
          rcases hw with rfl | rfl | rfl | rfl | rfl
          · exact ⟨l, _, 0, _, rfl, rfl, SqL.of hL5, rfl, fin _ _ c0 (sm _ _ (by decide) (by decide))⟩
          · exact ⟨l, _, 1, _, rfl, rfl, SqL.of hL5, rfl, fin _ _ c1 (sm _ _ (by decide) (by decide))⟩
          · exact ⟨l, _, 2, _, rfl, rfl, SqL.of hL5, rfl, fin _ _ c2 (sm _ _ (by decide) (by decide))⟩
          · exact ⟨l, _, 3, _, rfl, rfl, SqL.of hL5, rfl, fin _ _ c3 (sm _ _ (by decide) (by decide))⟩
          · exact ⟨l, _, 4, _, rfl, rfl, SqL.of hL5, rfl, fin _ _ c4 ⟨bz.1.mono (by decide), Nat.pow_pos (by decide)⟩⟩
        · exact ⟨_, rfl, k _ _ _ sb hp1 ha (bz.mono (by decide))⟩
      · exact ⟨_, rfl, iteF ⟨_, rfl, k _ _ _ sb hp1 ha (bz.mono (by decide))⟩⟩
    obtain ⟨tt, htt, hqt⟩ := tail
    refine ⟨_, pss_cons (ps_par (i := 2) (j := 3) rfl nd rfl rfl (by decide) rfl rfl (pa_cons (pe_tup (pa_cons (pe_c cp hr (by rfl) (pa_cons (pv 0) pa_nil)) (pa_cons (pe_c cp hr (by rfl) (pa_cons (pv 0) pa_nil)) pa_nil))) (pa_cons (pe_c c hr1 (by rfl) (pa_cons (pv 0) (pa_cons pe_int pa_nil))) pa_nil)) (by rfl))
      (pss_cons (ps_if (PW.pt (pw_and (pt_cmpR op_eq (pv 3) pe_int (nomark _)) (pw_and1 (pt_cmpR (op_neD hu) (pv 1) (pe_lst pa_nil) (nomark _)))))
        (pss_one (ps_ret (pe_c ct hr1 (by rfl) (pa_cons (pv 2) (pa_cons (pe_ix ix_list (pv 1) (pe_c c hr1 (by rfl) (pa_cons (pv 0) (pa_cons (pe_callB call_len_seq (by rfl) hln PySem.boot_len (pa_cons (pv 1) pa_nil)) pa_nil))) (fun _ _ => rfl)) pa_nil))))) pss_nil) htt), ?_⟩
    refine ⟨_, rfl, p, n, rfl, hp, by omega, fun H1 v1 s1 p1 b1 => ?_⟩
    refine ⟨_, rfl, p, n + 4, rfl, p1, by omega, fun H2 v2 s2 p2 b2 => ?_⟩
    refine ⟨by show 2 ≤ sizeLine; decide, fun t nt => ?_⟩
    have s3 := Same.up (o := .tup [.int v1, .int v2]) nt
    generalize hH3 : upd H2 t (.tup [.int v1, .int v2]) = H3 at s3 ⊢
    have ht3 : TZ H3 t ⟨v1, v2⟩ := by rw [← hH3]; exact upd_same
    have p3 := p2.same s3
    refine ⟨_, rfl, p, 9, n + 8, rfl, by decide, by decide, p3, by omega, fun H4 v4 s4 p4 l4 u4 => ?_⟩
    refine ⟨_, _, rfl, ?_⟩
    have ht4 := ht3.but p3 s4
    have S4 : SameBut p H H4 := ((s1.trans s2).trans (Same.but s3)).trans s4
    obtain ⟨tps, e0, e1, e2⟩ := hL.but hp ne S4
    have bz : BG 60 (⟨v1, v2⟩ : GI) := ⟨b1, b2⟩
    refine ⟨_, rfl, rfl, _, rfl, ?_⟩
    refine ite2 (fun hc => ?_) (fun hc => hqt _ _ _ _ S4 (p4.mono (by omega)) ht4 bz l4 u4)
    refine ⟨_, rfl, by show 0 ≤ sizeLine; decide, fun l hl => ?_⟩
    have s5 := Same.up (o := .lst []) hl
    refine ⟨_, _, .lst (SqL.of (s5 _ _ e0)) (dpAll_tz tps fun x hx => (e2 x hx).same s5), .lst (SqL.of upd_same) .nil, shaped_tz tps, rfl, _, rfl, ?_⟩
    refine ite2 (fun hd => ?_) (fun hd => hqt _ _ _ _ (S4.trans (Same.but s5)) ((p4.same s5).mono (by omega)) (ht4.same s5) bz l4 u4)
    have hne : tps ≠ [] := by
      rintro rfl
      exact absurd hd (by decide)
    have hlen2 : tps.length ≤ 200 := by rw [← e1, List.length_map] at hlen; exact hlen
    have hpos : 0 < tps.length := List.length_pos_iff.mpr hne
    refine ⟨_, rfl, _, rfl, _, rfl, _, rfl, L, _, rfl, .inl (SqL.of (s5 _ _ e0)), p, _, n + 9, rfl, ?_, ?_, p4.same s5, by omega, fun H6 v6 s6 p6 l6 u6 => ?_⟩
    · rw [List.length_map]; omega
    · rw [List.length_map]; omega
    · rw [List.length_map] at u6
      obtain ⟨j, rfl⟩ : ∃ j : Nat, v6 = j := ⟨v6.toNat, by omega⟩
      have jl : j < tps.length := by omega
      have hm : tps[j] ∈ tps := List.getElem_mem jl
      have eL6 := s6 _ _ ne (s5 _ _ e0)
      refine ⟨L, _, (j : Int), .ref (tps[j]).1, rfl, rfl, SqL.of eL6, atI_nat ?_, ?_⟩
      · rw [List.getElem?_map, List.getElem?_eq_getElem jl]; rfl
      · have bm := bps (tps[j]).2 (by rw [← e1]; exact List.mem_map_of_mem hm)
        refine ⟨t, (tps[j]).1, ⟨v1, v2⟩, (tps[j]).2, rfl, (ht4.same s5).but (p4.same s5) s6, ((e2 _ hm).same s5).but (p4.same s5) s6, bz.mono (by decide), bm.mono (by decide), fun H7 t7 s7 h7 => ?_⟩
        exact k H7 t7 _ (((S4.trans (Same.but s5)).trans s6).trans (Same.but s7)) (p6.same s7) h7 ((bz.mul bm).mono (by decide))
end
end Toy
namespace Toy
open PySem L2
section
variable {P : Program} {w : World} {K : PySem.W.Frag} {mg : Str → Option Value} {base : Heap}
/-! ### _law_primes -/
/-- the list of primes as it grows -/
def Gr (H : Hp) (L : Addr) (n : Nat) : Prop := ∃ tps : List (Addr × GI), H L = some (.lst (tps.map fun x => V.ref x.1)) ∧ tps.length ≤ n ∧ tps ≠ [] ∧ ∀ x ∈ tps, TZ H x.1 x.2 ∧ FS.GP x.2 ∧ BG 20 x.2
theorem Gr.same {H H' : Hp} {L : Addr} {n : Nat} (h : Gr H L n) (s : Same H H') : Gr H' L n := by
  obtain ⟨tps, e, l, ne, t⟩ := h
  exact ⟨tps, s _ _ e, l, ne, fun x hx => ⟨(t x hx).1.same s, (t x hx).2⟩⟩
theorem Gr.mono {H : Hp} {L : Addr} {n m : Nat} (h : Gr H L n) (e : n ≤ m) : Gr H L m := by
  obtain ⟨tps, e1, l, ne, t⟩ := h
  exact ⟨tps, e1, Nat.le_trans l e, ne, t⟩
def spLPrimes : Sp := fun vs H Q _ => vs = [] ∧ ∀ (H' : Hp) (L : Addr), Same H H' → H L = none → Gr H' L 103 → Q (.ref L) H'
abbrev NPr : List Str := ["_law_found", "_law_one", "_law_other", "_law_norm_here", "_law_by"]
theorem scLPrimes : FnScope NPr [] (defScope (top 36)) := ⟨rfl, rfl, rfl, by decide +kernel, rfl, by decide +kernel, by decide +kernel⟩
theorem small_BG {a b : Int} (ha : a.natAbs ≤ 1000) (hb : b.natAbs ≤ 1000) : BG 20 (⟨a, b⟩ : GI) := ⟨Nat.lt_of_le_of_lt ha (by decide), Nat.lt_of_le_of_lt hb (by decide)⟩
theorem ok_lprimes {f : Addr} {fd : FuncData} (F : Fun K "_law_primes" "_law_primes" (top 36) f fd) (hi : mg "int" = none) (hrg : mg "range" = none) : FnOk P w K mg base CX0 1 f fd [] spLPrimes := by
  refine F.ok scLPrimes (fun vs H Q E h => ?_) (fun cdv A outer s H vs Q E hr h => ?_)
  · obtain ⟨rfl, _⟩ := h; rfl
  · obtain ⟨rfl, k⟩ := h
    have nd := scLPrimes.nd
    have hu := room_units hr
    refine ⟨_, pss_cons (ps_set (i := 0) nd rfl (.inl rfl) (pe_lst (pa_cons (pe_tup (pa_cons pe_int (pa_cons pe_int pa_nil))) (pa_cons (pe_tup (pa_cons pe_int (pa_cons pe_int pa_nil))) (pa_cons (pe_tup (pa_cons pe_int (pa_cons pe_int pa_nil))) pa_nil)))))
      (pss_cons (ps_for PassesOwn.never rfl (pi_range2 (by rfl) hrg (pa_cons pe_int (pa_cons pe_int pa_nil))) (pg_name (i := 1) nd rfl (.inl rfl))
        (pss_one (ps_for PassesOwn.never rfl (pi_range2 (by rfl) hrg (pa_cons pe_int (pa_cons pe_int pa_nil))) (pg_name (i := 2) nd rfl (.inl rfl))
          (pss_cons (ps_set (i := 3) nd rfl (.inr rfl) (pe_op op_add (pe_op op_mul (pv 1) (pv 1)) (pe_op op_mul (pv 2) (pv 2))))
          (pss_one (ps_if (PW.pt (pw_and (pt_chain op_lt op_lt pe_int (pv 3) pe_int) (pw_and1 (pt_cmpR (op_eqD hu)
              (pe_lc (own := [("_law_by", 4)]) (g := gName 4) rfl nd (pi_range2 (by rfl) hrg (pa_cons pe_int (pa_cons pe_int pa_nil))) (blkOk_by (own := [("_law_by", 4)]) (N := NPr) (sc := defScope (top 36)) (by decide +kernel))
                (fun _ _ _ _ _ => pg_name (i := 4) nd rfl (Or.inl rfl)) (fun _ _ _ _ _ => pts_one (PW.pt (pw_and (pt_cmpR op_le (pe_op op_mul (pv 4) (pv 4)) (pv 3) (nomark _)) (pw_and1 (pt_cmpR op_eq (pe_op op_mod (pe_callTy call_int1 (by rfl) hi (by decide +kernel) (pa_cons (pv 3) pa_nil)) (pv 4)) pe_int (nomark _))))))
                (fun _ _ _ _ _ => pv 4)) (pe_lst pa_nil) (nomark _)))))
            (pss_one (ps_expr (pe_bm PySem.F.plainAttrs_list PySem.F.slot_list_append PySem.F.type_list_append mt_append (pv 0) (pa_cons (pe_tup (pa_cons (pv 1) (pa_cons (pv 2) pa_nil))) pa_nil)))) pss_nil))))))
      (pss_one (ps_ret (pv 0)))), ?_⟩
    refine ⟨by show 2 ≤ sizeLine; decide, fun u0 n0 => ?_⟩
    have w0 := Same.up (o := .tup [.int 3, .int 0]) n0
    refine ⟨by show 2 ≤ sizeLine; decide, fun u1 n1 => ?_⟩
    have w1 := Same.up (o := .tup [.int 7, .int 0]) n1
    refine ⟨by show 2 ≤ sizeLine; decide, fun u2 n2 => ?_⟩
    have w2 := Same.up (o := .tup [.int 11, .int 0]) n2
    refine ⟨by show 3 ≤ sizeLine; decide, fun L hL => ?_⟩
    have w3 := Same.up (o := .lst [.ref u0, .ref u1, .ref u2]) hL
    generalize hH5 : upd _ L (.lst [.ref u0, .ref u1, .ref u2]) = H5 at w3 ⊢
    have hL5 : H5 L = some (.lst [.ref u0, .ref u1, .ref u2]) := by rw [← hH5]; exact upd_same
    have S5 := ((w0.trans w1).trans w2).trans w3
    have c0 : TZ H5 u0 ((3 : Int) : GI) := w3 _ _ (w2 _ _ (w1 _ _ upd_same))
    have c1 : TZ H5 u1 ((7 : Int) : GI) := w3 _ _ (w2 _ _ upd_same)
    have c2 : TZ H5 u2 ((11 : Int) : GI) := w3 _ _ upd_same
    have nL : H L = none := by
      cases e : H L with
      | none => rfl
      | some o => have := w2 _ _ (w1 _ _ (w0 _ _ e)); rw [hL] at this; cases this
    have G5 : Gr H5 L 3 := by
      refine ⟨[(u0, ((3 : Int) : GI)), (u1, ((7 : Int) : GI)), (u2, ((11 : Int) : GI))], hL5, Nat.le_refl 3, by simp, fun x hx => ?_⟩
      rcases List.mem_cons.mp hx with rfl | hx
      · exact ⟨c0, FS.GP3, small_BG (by decide) (by decide)⟩
      rcases List.mem_cons.mp hx with rfl | hx
      · exact ⟨c1, FS.GP7, small_BG (by decide) (by decide)⟩
      rcases List.mem_cons.mp hx with rfl | hx
      · exact ⟨c2, FS.GP11, small_BG (by decide) (by decide)⟩
      · cases hx
    clear hH5 hL w0 w1 w2 w3 n0 n1 n2 c0 c1 c2
    refine ⟨1, 11, rfl, ⟨by decide, by decide, by decide, by decide⟩, ?_⟩
    refine for_range (lo := 1) (n := 10) (fun i σ H' => ∃ (x1 x2 x3 x4 : Option V), σ = [some (.ref L), x1, x2, x3, x4] ∧ Same H H' ∧ Gr H' L (3 + 10 * i)) ⟨_, _, _, _, rfl, S5, G5⟩ ?_ ?_
    · rintro i σ H1 hi10 ⟨x1, x2, x3, x4, rfl, S1, G1⟩
      refine ⟨1, 11, rfl, ⟨by decide, by decide, by decide, by decide⟩, ?_⟩
      refine for_range (lo := 1) (n := 10) (fun j σ H' => ∃ (x2 x3 x4 : Option V), σ = [some (.ref L), some (.int (1 + i)), x2, x3, x4] ∧ Same H H' ∧ Gr H' L (3 + 10 * i + j)) ⟨_, _, _, rfl, S1, G1⟩ ?_ ?_
      · rintro j σ H2 hj10 ⟨x2, x3, x4, rfl, S2, G2⟩
        have a1 : (1 : Int) ≤ 1 + i ∧ (1 + i : Int) ≤ 10 := ⟨by omega, by omega⟩
        have a2 : (1 : Int) ≤ 1 + j ∧ (1 + j : Int) ≤ 10 := ⟨by omega, by omega⟩
        obtain ⟨x, hx⟩ : ∃ x : Int, (1 + i : Int) = x := ⟨_, rfl⟩
        obtain ⟨y, hy⟩ : ∃ y : Int, (1 + j : Int) = y := ⟨_, rfl⟩
        rw [hx, hy]
        rw [hx] at a1
        rw [hy] at a2
        have n1 : x * x ≤ 10 * 10 := Int.mul_le_mul a1.2 a1.2 (by omega) (by omega)
        have n2 : y * y ≤ 10 * 10 := Int.mul_le_mul a2.2 a2.2 (by omega) (by omega)
        have n3 : 0 ≤ x * x := Int.mul_nonneg (by omega) (by omega)
        have n4 : 0 ≤ y * y := Int.mul_nonneg (by omega) (by omega)
        refine ⟨_, rfl, _, rfl, _, _, rfl, rfl, .inl ⟨by omega, by omega⟩, ?_⟩
        refine ⟨_, rfl, _, rfl, _, _, rfl, rfl, .inl ⟨by omega, by omega⟩, _, _, rfl, rfl, ?_⟩
        have eN : FS.G.norm (⟨x, y⟩ : GI) = x * x + y * y := rfl
        refine ⟨_, rfl, _, _, rfl, rfl, _, rfl, ?_⟩
        refine ite2 (fun hc => ?_) (fun hc => ?_)
        · have h4 : 4 < x * x + y * y := of_decide_eq_true hc
          refine ⟨_, _, rfl, rfl, _, rfl, ?_⟩
          refine ite2 (fun hd => ?_) (fun hd => ?_)
          · have h120 : x * x + y * y < 120 := of_decide_eq_true hd
            -- the divisors
            refine ⟨2, 11, rfl, ⟨by decide, by decide, by decide, by decide⟩, fun D hD => ?_⟩
            refine lc_range (lo := 2) (n := 9) (fun i H' => Same H2 H' ∧ ∃ acc : List Int, H' D = some (.lst (acc.map V.int)) ∧ acc.length ≤ i ∧ (acc = [] → ∀ d : Int, 2 ≤ d → d < 2 + i → d * d ≤ x * x + y * y → (x * x + y * y) % d ≠ 0))
              ⟨Same.up hD, [], upd_same, Nat.le_refl 0, fun _ d h1 h2 => by omega⟩ ?_ ?_
            · rintro i9 H3 hi9 ⟨S3, acc, e3, l3, h3⟩
              have b1 : (2 : Int) ≤ 2 + i9 ∧ (2 + i9 : Int) ≤ 10 := ⟨by omega, by omega⟩
              obtain ⟨d, hdd⟩ : ∃ d : Int, (2 + i9 : Int) = d := ⟨_, rfl⟩
              rw [hdd]
              rw [hdd] at b1
              refine ⟨rfl, _, rfl, _, rfl, _, _, rfl, rfl, .inl ⟨by omega, by omega⟩, _, rfl, _, _, rfl, rfl, _, rfl, ?_⟩
              refine ite2 (fun he => ?_) (fun he => ?_)
              · have h5 : d * d ≤ x * x + y * y := of_decide_eq_true he
                refine ⟨_, rfl, .inl ⟨_, rfl, _, rfl, _, _, rfl, rfl, by show 0 < d; omega, rfl, _, rfl, ?_⟩⟩
                refine ite2 (fun hf => ?_) (fun hf => ?_)
                · refine ⟨_, rfl, _, e3, ?_, fun b o e => ?_, acc ++ [d], ?_, ?_, fun z => absurd z (by simp)⟩
                  · rw [List.length_map]; exact Nat.lt_of_le_of_lt (show acc.length ≤ 9 by omega) (by decide)
                  · rw [upd_ne (ne_of_none e hD)]; exact S3 _ _ e
                  · rw [upd_same, List.map_append]; rfl
                  · rw [List.length_append]; show acc.length + 1 ≤ _; omega
                · refine ⟨S3, acc, e3, by omega, fun z d' g1 g2 g3 => ?_⟩
                  by_cases e : d' = d
                  · rw [e]
                    intro e0
                    have hf' : ¬ decide (V.int ((x * x + y * y) % d) = V.int 0) = true := hf
                    rw [e0] at hf'
                    exact hf' (by decide)
                  · exact h3 z d' g1 (by omega) g3
              · have h5 : ¬ d * d ≤ x * x + y * y := fun e => he (decide_eq_true e)
                refine ⟨S3, acc, e3, by omega, fun z d' g1 g2 g3 => ?_⟩
                by_cases e : d' = d
                · rw [e] at g3; exact absurd g3 h5
                · exact h3 z d' g1 (by omega) g3
            · rintro H3 ⟨S3, acc, e3, l3, h3⟩
              refine ⟨by show 0 ≤ sizeLine; decide, fun l hl => ?_⟩
              have s5 := Same.up (o := .lst []) hl
              refine ⟨_, _, .lst (SqL.of (s5 _ _ e3)) (dpAll_ints acc), .lst (SqL.of upd_same) .nil, shaped_ints acc, rfl, _, rfl, ?_⟩
              have G4 := (G2.same S3).same s5
              have S4 := (S2.trans S3).trans s5
              refine ite2 (fun he => ?_) (fun he => ?_)
              · have hnil : acc = [] := by
                  cases acc with
                  | nil => rfl
                  | cons a b => exact Bool.noConfusion (show false = true from he)
                have hgp : FS.GP (⟨x, y⟩ : GI) := FS.GP_small (by rw [eN]; exact h4) (by rw [eN]; exact h120) (fun d g1 g2 g3 => by rw [eN] at g3 ⊢; exact h3 hnil d g1 (by omega) g3)
                obtain ⟨tps, e6, l6, ne6, t6⟩ := G4
                refine ⟨_, rfl, .inl ⟨rfl, _, SqL.of e6⟩, _, rfl, _, rfl, by show 2 ≤ sizeLine; decide, fun t nt => ?_⟩
                have s7 := Same.up (o := .tup [.int x, .int y]) nt
                generalize hH7 : upd _ t (.tup [.int x, .int y]) = H7 at s7 ⊢
                have ht7 : TZ H7 t ⟨x, y⟩ := by rw [← hH7]; exact upd_same
                have e7 := s7 _ _ e6
                refine ⟨L, _, _, rfl, rfl, e7, ?_, ?_⟩
                · rw [List.length_map]; exact Nat.lt_of_le_of_lt (show tps.length ≤ 1000 by omega) (by decide)
                have sb : SameBut L H7 (upd H7 L (.lst (tps.map (fun x => V.ref x.1) ++ [.ref t]))) := SameBut.upd
                refine ⟨_, _, _, rfl, fun b o e => ?_, tps ++ [(t, ⟨x, y⟩)], ?_, ?_, by simp, fun z hz => ?_⟩
                · exact sb _ _ (ne_of_none e nL) (s7 _ _ (S4 _ _ e))
                · rw [upd_same, List.map_append]; rfl
                · rw [List.length_append]; show tps.length + 1 ≤ _; omega
                · have key : ∀ (b : Addr) (v : GI), TZ H7 b v → TZ (upd H7 L (.lst (tps.map (fun x => V.ref x.1) ++ [.ref t]))) b v := fun b v h => sb _ _ (ne_of h e7 (by intro z; cases z)) h
                  rcases List.mem_append.mp hz with hz | hz
                  · exact ⟨key _ _ ((t6 z hz).1.same s7), (t6 z hz).2⟩
                  · rcases List.mem_cons.mp hz with rfl | hz
                    · exact ⟨key _ _ ht7, hgp, small_BG (by omega) (by omega)⟩
                    · cases hz
              · exact ⟨_, _, _, rfl, S4, G4.mono (by omega)⟩
          · exact ⟨_, _, _, rfl, S2, G2.mono (by omega)⟩
        · exact ⟨_, rfl, iteF ⟨_, _, _, rfl, S2, G2.mono (by omega)⟩⟩
      · rintro σ H2 ⟨x2, x3, x4, rfl, S2, G2⟩
        exact ⟨_, _, _, _, rfl, S2, G2.mono (by omega)⟩
    · rintro σ H1 ⟨x1, x2, x3, x4, rfl, S1, G1⟩
      exact ⟨_, rfl, k H1 L S1 nL G1⟩
end
end Toy
namespace Toy
open PySem L2
/-- repr of None or a small number -/
def repS : Option Int → Str
  | none => "None"
  | some i => toString i
def OkV (o : Option Int) : Prop := ∀ i, o = some i → 0 ≤ i ∧ i < 4
theorem call_repr_val {X : Cx} : CallR X (.builtin "repr") (fun xs H Q => ∃ o : Option Int, xs = [valV o] ∧ OkV o ∧ Q (.str (repS o)) H) := by
  intro pins s σ H xs us Q I r h
  obtain ⟨o, rfl, hz, q⟩ := h
  obtain ⟨u, rfl, ru⟩ := vals1 r
  cases o with
  | none =>
    obtain rfl : u = Value.none := ru
    exact PySem.P.repr_of_none ⟨.str _, H, I.tok _, ⟨_, rfl⟩, q⟩
  | some i =>
    obtain ⟨t, rfl⟩ := ru
    have hi := hz i rfl
    refine PySem.P.repr_of_int ?_ ⟨.str _, H, I.tok _, ⟨_, rfl⟩, q⟩
    have : i.natAbs < 4 := by omega
    have h4 : i.natAbs = 0 ∨ i.natAbs = 1 ∨ i.natAbs = 2 ∨ i.natAbs = 3 := by omega
    rcases h4 with e | e | e | e <;> rw [e] <;> decide
theorem okV_due {a : GI} {ps : List GI} : OkV (FS.ldue a ps) := by
  intro i h
  unfold FS.ldue at h
  cases e : FS.lsum (ps.map (FS.lpi a)) with
  | none => rw [e] at h; cases h
  | some x =>
    rw [e] at h
    have : x % 4 = i := Option.some.inj h
    omega
/-- a def called with keywords alone -/
structure CalK (P : Program) (w : World) (K : PySem.W.Frag) (mg : Str → Option Value) (base : Heap) (k : Nat) (x : Str) (ks : List Str) (gV : List V → List V → List V) (sp : Sp) : Prop where
  out : ∃ (f : Addr) (fd : FuncData) (ps : List Str) (g : List Value → List Value → List Value), mg x = some (.ref f) ∧ PySem.W.keepIn K (.ref f) = true ∧ KBinds K fd ps ks g gV ∧ FnOk P w K mg base CX0 k f fd ps sp
def tCK (sp : Sp) (gV : List V → List V → List V) (tk : TA) : TE := fun σ H Q => tk σ H fun zs H2 => sp (gV [] zs) H2 Q E0
section
variable {X : Cx} {k : Nat} {x : Str} {sp : Sp} {kws : List Keyword} {tk : TA} {p pos : Pos} {ks : List Str} {gV : List V → List V → List V}
theorem pe_ck (c : CalK X.prog X.w X.K X.mg X.base k x ks gV sp) (hr : Room k X.A) (hg : Gl X x) (hkw : PK X kws tk) (hall : (backToKw pos (keywordEach kws X.env)).all (·.1.isSome) = true := by rfl) (hks : (backToKw pos (keywordEach kws X.env)).filterMap (·.1) = ks := by rfl)
    (hdb : (x == ("__debug__" : Str)) = false := by decide)
    (hpl : ((backTo pos (starEach [] X.env)).any (·.1) || (backToKw pos (keywordEach kws X.env)).any (·.1.isNone)) = false := by rfl) :
    PE X (.Call (.Name x p) [] kws pos) (tCK sp gV tk) := by
  obtain ⟨f, fd, ps, g, hm, hk, hb, F⟩ := c.out
  refine ⟨fun pins s σ H Q I h => ?_⟩
  refine wpAny_Call_Name_kw (ld_glob I hg hm ?_ hdb)
  refine PySem.W.callWith_KW0 (h₀ := X.base) I.ok.mod.kin hk hall ?_ hpl
  refine thn (hkw.run pos pins s σ H _ I h) fun ws s2 ⟨zs, H2, I2, rz, q2⟩ => ⟨I2.kIn, ?_⟩
  rw [hks]
  exact run_fnk F hr hb pass0 I2 .nil rz q2
end
def gNB : List Value → List Value → List Value
  | [], [b, n] => [n, b]
  | _, _ => []
def gNBV : List V → List V → List V
  | [], [b, n] => [n, b]
  | _, _ => []
theorem gNB_rel {vs : List V} {us : List Value} {zs : List V} {ws : List Value} (r : Vals vs us) (rz : Vals zs ws) : Vals (gNBV vs zs) (gNB us ws) := by
  cases r with
  | cons a b =>
    cases rz with
    | nil => exact .nil
    | cons c d =>
      cases d with
      | nil => exact .nil
      | cons e f => cases f <;> exact .nil
  | nil =>
    cases rz with
    | nil => exact .nil
    | cons c d =>
      cases d with
      | nil => exact .nil
      | cons e f =>
        cases f with
        | nil => exact .cons e (.cons c .nil)
        | cons _ _ => exact .nil
/-- some primes in a list -/
def Gx (H : Hp) (L : Addr) (n : Nat) : Prop := ∃ tps : List (Addr × GI), H L = some (.lst (tps.map fun x => V.ref x.1)) ∧ tps.length ≤ n ∧ ∀ x ∈ tps, TZ H x.1 x.2 ∧ FS.GP x.2 ∧ BG 20 x.2
theorem gp_ne {m : GI} (h : FS.GP m) : m ≠ 0 := by
  rintro rfl
  have : FS.G.norm (0 : GI) % 2 = 1 := h.od
  exact absurd this (by decide)
theorem Gx.pl {H : Hp} {L : Addr} {n : Nat} (h : Gx H L n) : ∃ ps, PL H L ps ∧ ps.length ≤ n ∧ ∀ m ∈ ps, FS.GP m ∧ BG 20 m := by
  obtain ⟨tps, e, l, t⟩ := h
  refine ⟨tps.map (·.2), ⟨tps, e, rfl, fun x hx => (t x hx).1⟩, by rw [List.length_map]; exact l, fun m hm => ?_⟩
  obtain ⟨x, hx, rfl⟩ := List.mem_map.mp hm
  exact (t x hx).2
theorem Gr.but {H H' : Hp} {L p : Addr} {n m : Nat} (h : Gr H L n) (hp : Pot H p m) (ne : L ≠ p) (s : SameBut p H H') : Gr H' L n := by
  obtain ⟨tps, e, l, z, t⟩ := h
  exact ⟨tps, s _ _ ne e, l, z, fun x hx => ⟨(t x hx).1.but hp s, (t x hx).2⟩⟩
theorem Gx.same {H H' : Hp} {L : Addr} {n : Nat} (h : Gx H L n) (s : Same H H') : Gx H' L n := by
  obtain ⟨tps, e, l, t⟩ := h
  exact ⟨tps, s _ _ e, l, fun x hx => ⟨(t x hx).1.same s, (t x hx).2⟩⟩
theorem Gx.but {H H' : Hp} {L p : Addr} {n m : Nat} (h : Gx H L n) (hp : Pot H p m) (ne : L ≠ p) (s : SameBut p H H') : Gx H' L n := by
  obtain ⟨tps, e, l, t⟩ := h
  exact ⟨tps, s _ _ ne e, l, fun x hx => ⟨(t x hx).1.but hp s, (t x hx).2⟩⟩
theorem Gx.mono {H : Hp} {L : Addr} {n m : Nat} (h : Gx H L n) (e : n ≤ m) : Gx H L m := by
  obtain ⟨tps, e1, l, t⟩ := h
  exact ⟨tps, e1, Nat.le_trans l e, t⟩
theorem pot_ne {H : Hp} {p x : Addr} {n : Nat} (hp : Pot H p n) (h : H x = none) : x ≠ p := by
  rintro rfl
  obtain ⟨xs, e⟩ := hp.lst
  rw [h] at e; cases e
/-- the extra prime pairs -/
def XQ : Nat → GI
  | 0 => ⟨2, 1⟩
  | 1 => ((3 : Int) : GI)
  | 2 => ⟨1, 4⟩
  | _ => ((7 : Int) : GI)
def XM : Nat → GI
  | 0 => ⟨2, 1⟩
  | 1 => ⟨-3, 0⟩
  | 2 => ⟨1, 4⟩
  | _ => ⟨0, 7⟩
def XE : Nat → Nat
  | 0 => 0
  | 1 => 2
  | 2 => 0
  | _ => 1
theorem xm_eq : ∀ i, XM i = FS.G.I ^ XE i * XQ i
  | 0 => rfl
  | 1 => rfl
  | 2 => rfl
  | _ + 3 => rfl
theorem XQ_gp : ∀ i, FS.GP (XQ i) ∧ BG 20 (XQ i)
  | 0 => ⟨FS.GP_small (by decide) (by decide) (fun d h1 h2 h3 => by
      rw [show FS.G.norm (XQ 0) = 5 from rfl] at h3 ⊢
      have : d = 2 ∨ d = 3 ∨ d = 4 ∨ d = 5 ∨ d = 6 ∨ d = 7 ∨ d = 8 ∨ d = 9 ∨ d = 10 := by omega
      rcases this with rfl | rfl | rfl | rfl | rfl | rfl | rfl | rfl | rfl <;> first | (exact absurd h3 (by decide)) | decide), small_BG (by decide) (by decide)⟩
  | 1 => ⟨FS.GP3, small_BG (by decide) (by decide)⟩
  | 2 => ⟨FS.GP_small (by decide) (by decide) (fun d h1 h2 h3 => by
      rw [show FS.G.norm (XQ 2) = 17 from rfl] at h3 ⊢
      have : d = 2 ∨ d = 3 ∨ d = 4 ∨ d = 5 ∨ d = 6 ∨ d = 7 ∨ d = 8 ∨ d = 9 ∨ d = 10 := by omega
      rcases this with rfl | rfl | rfl | rfl | rfl | rfl | rfl | rfl | rfl <;> first | (exact absurd h3 (by decide)) | decide), small_BG (by decide) (by decide)⟩
  | _ + 3 => ⟨FS.GP7, small_BG (by decide) (by decide)⟩
theorem XM_bg : ∀ i, BG 20 (XM i)
  | 0 => small_BG (by decide) (by decide)
  | 1 => small_BG (by decide) (by decide)
  | 2 => small_BG (by decide) (by decide)
  | _ + 3 => small_BG (by decide) (by decide)
theorem due_two {a q : GI} {ps : List GI} : FS.ldue a (q :: ps) = if none ∈ [FS.ldue a ps, FS.ldue a [q]] then none else ((FS.lsum [FS.ldue a ps, FS.ldue a [q]]).map (· % 4)) := by
  unfold FS.ldue
  rw [List.map_cons, List.map_cons, List.map_nil]
  cases e1 : FS.lpi a q with
  | none => simp [FS.lsum]
  | some x =>
    cases e2 : FS.lsum (ps.map (FS.lpi a)) with
    | none => simp [FS.lsum, e2]
    | some y => simp [FS.lsum, e2]; omega
end Toy
namespace Toy
open PySem L2
theorem n_times (z : GI) : (pf z).lookup ("times_i" : Str) = none := pf_no z (by decide +kernel) (by decide +kernel) (by decide +kernel)
section
variable {P : Program} {w : World} {K : PySem.W.Frag} {mg : Str → Option Value} {base : Heap}
/-! ### _law_symbols_right -/
def spSR : Sp := fun vs H Q _ => ∃ (p L : Addr) (n : Nat), vs = [.ref p, .ref L] ∧ Pot H p n ∧ n ≤ 300 ∧ L ≠ p ∧ Gr H L 103 ∧ ∀ (H' : Hp), SameBut p H H' → Pot H' p (n + 100) → Q (.bl true) H'
abbrev NSR : List Str := ["_law_pot_here", "_law_all_primes", "_law_primes_here", "_law_by", "_law_prime", "_law_one", "_law_other", "_law_power", "_law_number_here", "_law_kin", "_law_more", "_law_due_here", "_law_turn"]
theorem scSR : FnScope NSR ["_law_pot_here", "_law_all_primes"] (defScope (top 45)) := ⟨rfl, rfl, rfl, by decide +kernel, rfl, by decide +kernel, by decide +kernel⟩
structure SRF (P : Program) (w : World) (K : PySem.W.Frag) (mg : Str → Option Value) (base : Heap) (C : Addr) : Prop where
  range : mg "range" = none
  len : mg "len" = none
  repr : mg "repr" = none
  sum : mg "sum" = none
  cl : Cls K C
  dip : Cal P w K mg base 1 "_law_dip" spLDip
  dipC : Cal P w K mg base 1 "_law_dip" spLDipC
  times : Cal P w K mg base 1 "_law_times" spLTimes
  turned : Cal P w K mg base 1 "_law_turned" spLTurned
  number : Cal P w K mg base 3 "_law_number" spLNumber
  told : Cal P w K mg base 11 "_law_told" spLTold
  due : Cal P w K mg base 4 "_law_due" spLDue
  pair : CalC P w K mg base 4 "Pair" C (spInit C)
  timesI : CalM P w K mg base 6 C "times_i" (spTimes C)
  sym : CalK P w K mg base 10 "fourth_symbol" ["by", "number"] gNBV (spSym C)
theorem tail_sr {f C : Addr} (T : SRF P w K mg base C) (cdv : Value) (A : Around) (outer : List Env) (s : Shared) (H : Hp) (Q : VK) (E : XK) (p L : Addr) (n : Nat) (hr : Room 11 (A.deeper (PyProof.Rows.envOfC "_law_symbols_right" (defScope (top 45)) s.heap.objs.size f cdv)))
    (hn : n ≤ 300) (k : ∀ (H' : Hp), SameBut p H H' → Pot H' p (n + 100) → Q (.bl true) H') :
    ∃ t, PSs (cxOf CX0 P w K mg base NSR "_law_symbols_right" (defScope (top 45)) f cdv A outer s H E).nox ((defBody (top 45)).drop 2) t ∧
      ∀ (H1 : Hp) (D : Addr) (x12 : Option V), SameBut p H H1 → Pot H1 p (n + 20) → D ≠ p → Gx H1 D 6 → t { nx := fun _ H' => Q .non H', rt := Q } [some (.ref p), some (.ref L), some (.ref D), none, none, none, none, none, none, none, none, none, x12] H1 := by
  have nd := scSR.nd
  have hr1 := hr.mono (show 1 ≤ 11 by decide)
  have hr3 := hr.mono (show 3 ≤ 11 by decide)
  have hr4 := hr.mono (show 4 ≤ 11 by decide)
  have hr5 := hr.mono (show 5 ≤ 11 by decide)
  have hr6 := hr.mono (show 6 ≤ 11 by decide)
  have hr10 := hr.mono (show 10 ≤ 11 by decide)
  have X := @pe_ix (cxOf CX0 P w K mg base NSR "_law_symbols_right" (defScope (top 45)) f cdv A outer s H E).nox
  refine ⟨_, pss_cons (ps_set (i := 3) nd rfl (.inl rfl) (pe_tup (pa_cons pe_int (pa_cons pe_int pa_nil))))
    (pss_cons (ps_for PassesOwn.never rfl (pi_list (pv 2)) (pg_name (i := 4) nd rfl (.inl rfl)) (pss_one (ps_set (i := 3) nd rfl (.inl rfl) (pe_c T.times hr1 (by rfl) (pa_cons (pv 3) (pa_cons (pv 4) pa_nil))))))
    (pss_cons (ps_set (i := 3) nd rfl (.inl rfl) (pe_c T.turned hr1 (by rfl) (pa_cons (pv 3) (pa_cons (pe_c T.dip hr1 (by rfl) (pa_cons (pv 0) (pa_cons pe_int pa_nil))) pa_nil))))
    (pss_cons (ps_par3 (i := 5) (j := 6) (l := 7) rfl nd rfl rfl rfl (by decide) (by decide) (by decide) rfl rfl rfl (pa_cons (pe_c T.number hr3 (by rfl) (pa_cons (pv 0) (pa_cons (pv 2) pa_nil))) (pa_cons (pe_c T.number hr3 (by rfl) (pa_cons (pv 0) (pa_cons (pv 2) pa_nil)))
        (pa_cons (pe_c T.dip hr1 (by rfl) (pa_cons (pv 0) (pa_cons pe_int pa_nil))) pa_nil))) (by rfl))
    (pss_cons (ps_for PassesOwn.never rfl (pi_tup (pe_tup (pa_cons (pv 5) (pa_cons (pv 6) (pa_cons (pe_c T.times hr1 (by rfl) (pa_cons (pv 5) (pa_cons (pv 6) pa_nil))) (pa_cons (pe_c T.turned hr1 (by rfl) (pa_cons (pv 5) (pa_cons (pv 7) pa_nil))) pa_nil)))))) (pg_name (i := 8) nd rfl (.inl rfl))
      (pss_one (ps_if (pt_cmpR op_ne (pe_callB call_repr_val (by rfl) T.repr PyProof.Rows.boot_repr (pa_cons (pe_c T.told hr (by rfl) (pa_cons (pv 8) (pa_cons (pv 3) pa_nil))) pa_nil)) (pe_callB call_repr_val (by rfl) T.repr PyProof.Rows.boot_repr (pa_cons (pe_c T.due hr4 (by rfl) (pa_cons (pv 8) (pa_cons (pv 2) pa_nil))) pa_nil)) (nomark _)) pss_never pss_nil)))
    (pss_cons (ps_set (i := 9) nd rfl (.inl rfl) (pe_ck T.sym hr10 (by rfl) (pk_cons (pe_m T.timesI hr6 T.cl (pe_mk T.pair hr5 (by rfl) (pa_cons (pe_ix ix_tup (pv 3) pe_int (fun _ _ => rfl)) (pa_cons (pe_ix ix_tup (pv 3) pe_int (fun _ _ => rfl)) pa_nil))) (pa_cons (pv 7) pa_nil))
        (pk_cons (pe_mk T.pair hr5 (by rfl) (pa_cons (pe_ix ix_tup (pv 5) pe_int (fun _ _ => rfl)) (pa_cons (pe_ix ix_tup (pv 5) pe_int (fun _ _ => rfl)) pa_nil))) pk_nil))))
    (pss_cons (ps_if (pt_cmpR op_ne (pe_callB call_repr_val (by rfl) T.repr PyProof.Rows.boot_repr (pa_cons (pv 9) pa_nil)) (pe_callB call_repr_val (by rfl) T.repr PyProof.Rows.boot_repr (pa_cons (pe_c T.due hr4 (by rfl) (pa_cons (pv 5) (pa_cons (pv 2) pa_nil))) pa_nil)) (nomark _)) pss_never pss_nil)
    (pss_cons (ps_set (i := 10) nd rfl (.inl rfl) (pe_c T.times hr1 (by rfl) (pa_cons (pv 3) (pa_cons (pe_ix ix_list (pe_lst (pa_cons (pe_tup (pa_cons pe_int (pa_cons pe_int pa_nil))) (pa_cons (pe_tup (pa_cons (pe_un un_neg pe_int) (pa_cons pe_int pa_nil))) (pa_cons (pe_tup (pa_cons pe_int (pa_cons pe_int pa_nil)))
        (pa_cons (pe_tup (pa_cons pe_int (pa_cons pe_int pa_nil))) pa_nil))))) (pv 7) (fun _ _ => rfl)) pa_nil))))
    (pss_cons (ps_set (i := 11) nd rfl (.inl rfl) (pe_lst (pa_cons (pe_c T.due hr4 (by rfl) (pa_cons (pv 5) (pa_cons (pv 2) pa_nil))) (pa_cons (pe_c T.due hr4 (by rfl) (pa_cons (pv 5) (pa_cons (pe_lst (pa_cons (pe_ix ix_list (pe_lst (pa_cons (pe_tup (pa_cons pe_int (pa_cons pe_int pa_nil)))
        (pa_cons (pe_tup (pa_cons pe_int (pa_cons pe_int pa_nil))) (pa_cons (pe_tup (pa_cons pe_int (pa_cons pe_int pa_nil))) (pa_cons (pe_tup (pa_cons pe_int (pa_cons pe_int pa_nil))) pa_nil))))) (pv 7) (fun _ _ => rfl)) pa_nil)) pa_nil))) pa_nil))))
    (pss_one (ps_ret (pe_cmpR op_eq (pe_callB call_repr_val (by rfl) T.repr PyProof.Rows.boot_repr (pa_cons (pe_c T.told hr (by rfl) (pa_cons (pv 5) (pa_cons (pv 10) pa_nil))) pa_nil))
      (pe_callB call_repr_val (by rfl) T.repr PyProof.Rows.boot_repr (pa_cons (pe_ifExp (pt_cmpR op_in_seq pe_non (pv 11) rfl) pe_non (pe_op op_mod (pe_callB (cr_sum rfl) (by rfl) T.sum PyProof.Rows.boot_sum (pa_cons (pv 11) pa_nil)) pe_int)) pa_nil)) (nomark _)))))))))))), ?_⟩
  intro H1 D x12 sb0 p0 nD gD
  refine ⟨by show 2 ≤ sizeLine; decide, fun b0 nb0 => ?_⟩
  have s0 := Same.up (o := .tup [.int 1, .int 0]) nb0
  generalize hH2 : upd H1 b0 (.tup [.int 1, .int 0]) = H2 at s0 ⊢
  have hb0 : TZ H2 b0 1 := by rw [← hH2]; exact upd_same
  clear hH2 nb0
  have p2 := p0.same s0
  have sb2 : SameBut p H H2 := sb0.trans (Same.but s0)
  obtain ⟨tps, eD, lD, tD⟩ := gD.same s0
  obtain ⟨ps, hps⟩ : ∃ ps : List GI, tps.map (·.2) = ps := ⟨_, rfl⟩
  have lps : ps.length = tps.length := by rw [← hps, List.length_map]
  have gps : ∀ m ∈ ps, FS.GP m ∧ BG 20 m := by
    intro m hm
    rw [← hps] at hm
    obtain ⟨x, hx, rfl⟩ := List.mem_map.mp hm
    exact (tD x hx).2
  have PLD : PL H2 D ps := ⟨tps, eD, hps, fun x hx => (tD x hx).1⟩
  refine ⟨_, rfl, D, rfl, ⟨_, SqL.of eD⟩, ?_⟩
  refine for_list (K := K) (a := D) (xs := tps.map fun x => V.ref x.1) (fun i σ H' => ∃ (b : Addr) (z : GI) (x4 : Option V), σ = [some (.ref p), some (.ref L), some (.ref D), some (.ref b), x4, none, none, none, none, none, none, none, x12] ∧ Same H2 H' ∧ TZ H' b z ∧ z * FS.PR (ps.drop i) = FS.PR ps ∧ BG (1 + 21 * i) z)
    ⟨b0, 1, none, rfl, Same.refl H2, hb0, by show 1 * FS.PR ps = FS.PR ps; grind, ⟨(by decide : (1 : Int).natAbs < 2 ^ 1), (by decide : (0 : Int).natAbs < 2 ^ 1)⟩⟩ (fun i σ H' _ ⟨_, _, _, _, s1, _⟩ => SqL.of (s1 _ _ eD)) ?_ ?_
  · rintro i x σ H3 hi ⟨b, z, x4, rfl, s3, hb, hz, bz⟩
    rw [List.getElem?_map] at hi
    cases hq : tps[i]? with
    | none => rw [hq] at hi; cases hi
    | some tz =>
      rw [hq] at hi
      cases hi
      have hm := List.mem_of_getElem? hq
      have il := (List.getElem?_eq_some_iff.mp hq).1
      obtain ⟨h1, h2, h3⟩ := tD tz hm
      refine ⟨_, rfl, _, rfl, b, tz.1, z, tz.2, rfl, hb, h1.same s3, bz.mono (by omega), h3.mono (by decide), fun H4 b4 s4 hb4 => ?_⟩
      refine ⟨b4, z * tz.2, _, rfl, s3.trans s4, hb4, ?_, (bz.mul h3).mono (by omega)⟩
      have il2 : i < ps.length := by omega
      have e1 : ps[i] = tz.2 := by
        have : ps[i]? = some tz.2 := by rw [← hps, List.getElem?_map, hq]; rfl
        exact Option.some.inj ((List.getElem?_eq_getElem il2).symm.trans this)
      rw [List.drop_eq_getElem_cons il2, FS.PR_cons, e1] at hz
      rw [← hz]; grind
  · rintro σ H3 ⟨b, z, x4, rfl, s3, hb, hz, bz⟩
    have ez : z = FS.PR ps := by
      rw [← hz, List.length_map, ← lps, List.drop_length]
      show z = z * 1
      grind
    have bz : BG 130 z := bz.mono (by rw [List.length_map]; omega)
    subst ez
    have od : FS.Od (FS.PR ps) := FS.PR_od fun m hm => (gps m hm).1
    generalize hB : FS.PR ps = B at *
    have p3 := p2.same s3
    refine ⟨_, rfl, _, rfl, p, 4, n + 20, rfl, by decide, by decide, p3, by omega, fun H4 v4 s4 p4 l4 u4 => ?_⟩
    refine ⟨b, B, v4, rfl, hb.but p3 s4, fun H5 b5 s5 hb5 => ?_⟩
    have odB : FS.Od (FS.G.I ^ (v4 % 4).toNat * B) := od.I_pow_mul _
    have bB : BG 130 (FS.G.I ^ (v4 % 4).toNat * B) := bz.Ipow _
    have sym : ∀ z : GI, FS.symV z (FS.G.I ^ (v4 % 4).toNat * B) = FS.ldue z ps := fun z => by rw [FS.symV_I_pow od, FS.ldue_eq (fun m hm => (gps m hm).1), hB]
    generalize hby : FS.G.I ^ (v4 % 4).toNat * B = by_ at hb5 odB bB sym ⊢
    have p5 := p4.same s5
    have S35 : SameBut p H2 H5 := ((Same.but s3).trans s4).trans (Same.but s5)
    have PL5 : PL H5 D ps := PLD.but p2 nD S35
    have lp6 : ps.length ≤ 6 := by omega
    have bps : ∀ m ∈ ps, BG 20 m := fun m hm => (gps m hm).2
    -- the two numbers and the power
    refine ⟨_, rfl, _, rfl, p, D, n + 21, ps, rfl, p5, by omega, nD, PL5, by omega, bps, fun H6 t1 one s6 p6 h6 b6 => ?_⟩
    have PL6 := PL5.but p5 nD s6
    refine ⟨_, rfl, _, rfl, p, D, n + 31, ps, rfl, p6, by omega, nD, PL6, by omega, bps, fun H7 t2 other s7 p7 h7 b7 => ?_⟩
    have PL7 := PL6.but p6 nD s7
    refine ⟨_, rfl, p, 4, n + 41, rfl, by decide, by decide, p7, by omega, fun H8 v8 s8 p8 l8 u8 => ?_⟩
    refine ⟨_, _, _, rfl, ?_⟩
    have PL8 := PL7.but p7 nD s8
    have one8 : TZ H8 t1 one := (h6.but p6 s7).but p7 s8
    have oth8 : TZ H8 t2 other := h7.but p7 s8
    have by8 : TZ H8 b5 by_ := ((hb5.but p5 s6).but p6 s7).but p7 s8
    have S8 : SameBut p H H8 := (((sb2.trans S35).trans s6).trans s7).trans s8
    have fin : ∀ H9, Same H8 H9 → Q (.bl true) H9 := fun H9 s9 => k H9 (S8.trans (Same.but s9)) ((p8.same s9).mono (by omega))
    clear k S8 s8 s7 s6 S35 PL7 PL6 PL5 p7 p6 p5 h6 h7 hb5 s5 s4 p4 p3 hb p2 p0 PLD eD
    have bps2 : ∀ m ∈ ps, BG 20 m ∧ m ≠ 0 := fun m hm => ⟨(gps m hm).2, gp_ne (gps m hm).1⟩
    -- the four
    refine ⟨_, rfl, _, rfl, _, rfl, _, rfl, t1, t2, one, other, rfl, one8, oth8, b6.mono (by decide), b7.mono (by decide), fun H9 t3 s9 h9 => ?_⟩
    refine ⟨_, rfl, _, rfl, t1, one, v8, rfl, one8.same s9, fun H10 t4 s10 h10 => ?_⟩
    refine ⟨by show 4 ≤ sizeLine; decide, fun T nT => ?_⟩
    have s11 := Same.up (o := .tup [.ref t1, .ref t2, .ref t3, .ref t4]) nT
    generalize hH11 : upd H10 T (.tup [.ref t1, .ref t2, .ref t3, .ref t4]) = H11 at s11 ⊢
    have eT : H11 T = some (.tup [.ref t1, .ref t2, .ref t3, .ref t4]) := by rw [← hH11]; exact upd_same
    clear hH11
    have S11 := (s9.trans s10).trans s11
    have hxs : ∀ (i : Nat) (x : V), ([.ref t1, .ref t2, .ref t3, .ref t4] : List V)[i]? = some x → ∃ (u : Addr) (z : GI), x = .ref u ∧ TZ H11 u z ∧ BG 300 z := by
      intro i x hx
      match i, hx with
      | 0, hx => cases hx; exact ⟨t1, one, rfl, one8.same S11, b6.mono (by decide)⟩
      | 1, hx => cases hx; exact ⟨t2, other, rfl, oth8.same S11, b7.mono (by decide)⟩
      | 2, hx => cases hx; exact ⟨t3, _, rfl, (h9.same s10).same s11, (b6.mul b7).mono (by decide)⟩
      | 3, hx => cases hx; exact ⟨t4, _, rfl, h10.same s11, (b6.Ipow _).mono (by decide)⟩
      | i + 4, hx => cases hx
    refine ⟨T, rfl, ⟨_, SqT.of eT⟩, ?_⟩
    refine for_tup (K := K) (a := T) (xs := [.ref t1, .ref t2, .ref t3, .ref t4]) (fun i σ H' => ∃ (x4 x8 : Option V), σ = [some (.ref p), some (.ref L), some (.ref D), some (.ref b5), x4, some (.ref t1), some (.ref t2), some (.int v8), x8, none, none, none, x12] ∧ Same H11 H')
      ⟨_, _, rfl, Same.refl H11⟩ (fun i σ H' _ ⟨_, _, _, s1⟩ => SqT.of (s1 _ _ eT)) ?_ ?_
    · rintro i x σ H12 hx ⟨x4, x8, rfl, s12⟩
      obtain ⟨u, z, rfl, hu, bu⟩ := hxs i x hx
      have S12 := S11.trans s12
      refine ⟨_, rfl, _, rfl, u, b5, z, by_, rfl, hu.same s12, by8.same S12, bu.mono (by decide), bB.mono (by decide), odB, fun H13 s13 => ?_⟩
      rw [sym z]
      refine ⟨_, rfl, okV_due, ?_⟩
      refine ⟨_, rfl, _, rfl, u, D, z, ps, rfl, (hu.same s12).same s13, (PL8.same S12).same s13, by omega, bu.mono (by decide), bps2, fun H14 s14 => ?_⟩
      refine ⟨_, rfl, okV_due, rfl, _, rfl, ?_⟩
      refine ite2 (fun hc => ?_) (fun hc => ⟨_, _, rfl, (s12.trans s13).trans s14⟩)
      rw [decide_eq_true rfl] at hc
      cases hc
    · rintro σ H12 ⟨x4, x8, rfl, s12⟩
      have S12 := S11.trans s12
      -- kin
      have by12 := by8.same S12
      refine ⟨_, rfl, b5, _, 0, _, rfl, rfl, SqT.of by12, rfl, _, rfl, b5, _, 1, _, rfl, rfl, SqT.of by12, rfl, ?_⟩
      intro x dx nx ndx nex
      refine mk_pair' (z := by_) (bB.mono (by decide)) nx ndx fun H13 s13 h13 => ⟨rfl, ?_⟩
      obtain ⟨dx', hx'⟩ := h13
      refine ⟨x, dx', _, rfl, hx', n_times _, _, rfl, x, by_, v8, rfl, ⟨dx', hx'⟩, bB.mono (by decide), fun H14 r s14 h14 => ?_⟩
      have one14 := ((one8.same S12).same s13).same s14
      refine ⟨_, rfl, t1, _, 0, _, rfl, rfl, SqT.of one14, rfl, _, rfl, t1, _, 1, _, rfl, rfl, SqT.of one14, rfl, ?_⟩
      intro y dy ny ndy ney
      refine mk_pair' (z := one) (b6.mono (by decide)) ny ndy fun H15 s15 h15 => ⟨rfl, ?_⟩
      refine ⟨y, r, one, FS.G.I ^ (v8 % 4).toNat * by_, rfl, h15, h14.same s15, b6.mono (by decide), (bB.Ipow _).mono (by decide), odB.I_pow_mul _, fun H16 s16 => ?_⟩
      rw [FS.symV_I_pow odB, sym one]
      have S16 := (((S12.trans s13).trans s14).trans s15).trans s16
      refine ⟨_, rfl, _, rfl, okV_due, ?_⟩
      refine ⟨_, rfl, _, rfl, t1, D, one, ps, rfl, one8.same S16, PL8.same S16, by omega, b6.mono (by decide), bps2, fun H17 s17 => ?_⟩
      refine ⟨_, rfl, okV_due, rfl, _, rfl, ?_⟩
      refine ite2 (fun hc => ?_) (fun _ => ?_)
      · rw [decide_eq_true rfl] at hc
        cases hc
      have S17 := S16.trans s17
      -- more
      obtain ⟨j, rfl⟩ : ∃ j : Nat, v8 = j := ⟨v8.toNat, by omega⟩
      have j4 : j < 4 := by omega
      refine ⟨_, rfl, by show 2 ≤ sizeLine; decide, fun q0 m0 => ?_⟩
      have w0 := Same.up (o := .tup [.int 2, .int 1]) m0
      refine ⟨_, rfl, by show 2 ≤ sizeLine; decide, fun q1 m1 => ?_⟩
      have w1 := Same.up (o := .tup [.int (-3), .int 0]) m1
      refine ⟨by show 2 ≤ sizeLine; decide, fun q2 m2 => ?_⟩
      have w2 := Same.up (o := .tup [.int 1, .int 4]) m2
      refine ⟨by show 2 ≤ sizeLine; decide, fun q3 m3 => ?_⟩
      have w3 := Same.up (o := .tup [.int 0, .int 7]) m3
      refine ⟨by show 4 ≤ sizeLine; decide, fun l hl => ?_⟩
      have w4 := Same.up (o := .lst [.ref q0, .ref q1, .ref q2, .ref q3]) hl
      generalize hH18 : upd _ l (.lst [.ref q0, .ref q1, .ref q2, .ref q3]) = H18 at w4 ⊢
      have el : H18 l = some (.lst [.ref q0, .ref q1, .ref q2, .ref q3]) := by rw [← hH18]; exact upd_same
      have ex : ∃ q, ([.ref q0, .ref q1, .ref q2, .ref q3] : List V)[j]? = some (.ref q) ∧ TZ H18 q (XM j) := by
        match j, j4 with
        | 0, _ => exact ⟨q0, rfl, w4 _ _ (w3 _ _ (w2 _ _ (w1 _ _ upd_same)))⟩
        | 1, _ => exact ⟨q1, rfl, w4 _ _ (w3 _ _ (w2 _ _ upd_same))⟩
        | 2, _ => exact ⟨q2, rfl, w4 _ _ (w3 _ _ upd_same)⟩
        | 3, _ => exact ⟨q3, rfl, w4 _ _ upd_same⟩
      clear hH18
      have S18 := ((((S17.trans w0).trans w1).trans w2).trans w3).trans w4
      obtain ⟨q, eq, hq⟩ := ex
      refine ⟨_, rfl, l, _, (j : Int), _, rfl, rfl, SqL.of el, atI_nat eq, ?_⟩
      refine ⟨b5, q, by_, XM j, rfl, by8.same S18, hq, bB.mono (by decide), (XM_bg j).mono (by decide), fun H19 t5 s19 h19 => ?_⟩
      have S19 := S18.trans s19
      -- the two dues
      refine ⟨_, rfl, _, rfl, t1, D, one, ps, rfl, one8.same S19, PL8.same S19, by omega, b6.mono (by decide), bps2, fun H20 s20 => ?_⟩
      have S20 := S19.trans s20
      refine ⟨_, rfl, by show 2 ≤ sizeLine; decide, fun r0 m0 => ?_⟩
      have y0 := Same.up (o := .tup [.int 2, .int 1]) m0
      refine ⟨by show 2 ≤ sizeLine; decide, fun r1 m1 => ?_⟩
      have y1 := Same.up (o := .tup [.int 3, .int 0]) m1
      refine ⟨by show 2 ≤ sizeLine; decide, fun r2 m2 => ?_⟩
      have y2 := Same.up (o := .tup [.int 1, .int 4]) m2
      refine ⟨by show 2 ≤ sizeLine; decide, fun r3 m3 => ?_⟩
      have y3 := Same.up (o := .tup [.int 7, .int 0]) m3
      refine ⟨by show 4 ≤ sizeLine; decide, fun l2 hl2 => ?_⟩
      have y4 := Same.up (o := .lst [.ref r0, .ref r1, .ref r2, .ref r3]) hl2
      generalize hH21 : upd _ l2 (.lst [.ref r0, .ref r1, .ref r2, .ref r3]) = H21 at y4 ⊢
      have el2 : H21 l2 = some (.lst [.ref r0, .ref r1, .ref r2, .ref r3]) := by rw [← hH21]; exact upd_same
      have ex2 : ∃ q, ([.ref r0, .ref r1, .ref r2, .ref r3] : List V)[j]? = some (.ref q) ∧ TZ H21 q (XQ j) := by
        match j, j4 with
        | 0, _ => exact ⟨r0, rfl, y4 _ _ (y3 _ _ (y2 _ _ (y1 _ _ upd_same)))⟩
        | 1, _ => exact ⟨r1, rfl, y4 _ _ (y3 _ _ (y2 _ _ upd_same))⟩
        | 2, _ => exact ⟨r2, rfl, y4 _ _ (y3 _ _ upd_same)⟩
        | 3, _ => exact ⟨r3, rfl, y4 _ _ upd_same⟩
      clear hH21
      have S21 := ((((S20.trans y0).trans y1).trans y2).trans y3).trans y4
      obtain ⟨q', eq', hq'⟩ := ex2
      refine ⟨_, rfl, l2, _, (j : Int), _, rfl, rfl, SqL.of el2, atI_nat eq', ?_⟩
      refine ⟨by show 1 ≤ sizeLine; decide, fun l3 hl3 => ?_⟩
      have s22 := Same.up (o := .lst [.ref q']) hl3
      have gx := XQ_gp j
      refine ⟨t1, l3, one, [XQ j], rfl, (one8.same S21).same s22, ⟨[(q', XQ j)], upd_same, rfl, fun x hx => ?_⟩, by show 1 ≤ 100; decide, b6.mono (by decide), fun m hm => ?_, fun H23 s23 => ?_⟩
      · rcases List.mem_cons.mp hx with rfl | hx
        · exact hq'.same s22
        · cases hx
      · rcases List.mem_cons.mp hm with rfl | hm
        · exact ⟨gx.2, gp_ne gx.1⟩
        · cases hm
      have S23 := (S21.trans s22).trans s23
      refine ⟨by show 2 ≤ sizeLine; decide, fun l4 hl4 => ?_⟩
      have s24 := Same.up (o := .lst ([FS.ldue one ps, FS.ldue one [XQ j]].map valV)) hl4
      generalize hH24 : upd H23 l4 (.lst ([FS.ldue one ps, FS.ldue one [XQ j]].map valV)) = H24 at s24
      have el4 : H24 l4 = some (.lst ([FS.ldue one ps, FS.ldue one [XQ j]].map valV)) := by rw [← hH24]; exact upd_same
      have hH24' : upd H23 l4 (.lst [valV (FS.ldue one ps), valV (FS.ldue one [XQ j])]) = H24 := hH24
      rw [hH24']
      have S24 := S23.trans s24
      -- the last
      have eM : by_ * XM j = FS.G.I ^ XE j * (XQ j * by_) := by rw [xm_eq]; grind
      have odM : FS.Od (XQ j * by_) := gx.1.od.mul odB
      have gq : ∀ m ∈ XQ j :: ps, FS.GP m := fun m hm => by
        rcases List.mem_cons.mp hm with rfl | hm
        · exact gx.1
        · exact (gps m hm).1
      have h19' := (((h19.same s20).same ((((y0.trans y1).trans y2).trans y3).trans y4)).same (s22.trans s23)).same s24
      rw [eM] at h19'
      have symM : FS.symV one (FS.G.I ^ XE j * (XQ j * by_)) = FS.ldue one (XQ j :: ps) := by
        have e1 : XQ j * by_ = FS.G.I ^ (v4 % 4).toNat * FS.PR (XQ j :: ps) := by rw [FS.PR_cons, hB, ← hby]; grind
        have od1 := FS.PR_od gq
        rw [e1, FS.symV_I_pow (od1.I_pow_mul _), FS.symV_I_pow od1, FS.ldue_eq gq]
      refine ⟨_, rfl, _, rfl, t1, t5, one, FS.G.I ^ XE j * (XQ j * by_), rfl, one8.same S24, h19', b6.mono (by decide), ?_, odM.I_pow_mul _, fun H25 s25 => ?_⟩
      · rw [← eM]
        exact (bB.mul (XM_bg j)).mono (by decide)
      rw [symM]
      refine ⟨_, rfl, okV_due, ?_⟩
      have el5 := s25 _ _ el4
      refine ⟨_, rfl, l4, _, rfl, .inl (SqL.of el5), rfl, flat_valV _, _, rfl, ?_⟩
      rw [due_two]
      refine ite2 (fun hc => ?_) (fun hc => ?_)
      · have h0 := in_none.mp (show inV .non ([FS.ldue one ps, FS.ldue one [XQ j]].map valV) = true from hc)
        rw [if_pos h0]
        refine ⟨none, rfl, (fun i h => nomatch h), rfl, ?_⟩
        rw [decide_eq_true rfl]
        exact fin _ (S24.trans s25)
      · have h0 : none ∉ [FS.ldue one ps, FS.ldue one [XQ j]] := fun e => hc (in_none.mpr e)
        obtain ⟨ns, e3, e4⟩ := lsum_some h0
        rw [if_neg h0, e4]
        rw [e3] at el5
        refine ⟨_, rfl, l4, ns, rfl, SqL.of el5, _, _, rfl, rfl, (by show (0 : Int) < 4; decide), some (ns.sum % 4), rfl, (fun i h => ?_), rfl, ?_⟩
        · have : ns.sum % 4 = i := Option.some.inj h
          omega
        · have : decide (V.str (repS (Option.map (fun x => x % 4) (some ns.sum))) = V.str (repS (some (ns.sum % 4)))) = true := decide_eq_true rfl
          rw [this]
          exact fin _ (S24.trans s25)
end
end Toy
namespace Toy
open PySem L2
theorem cut_tz (tps : List (Addr × GI)) (lo hi : Option Int) : ∃ us : List (Addr × GI), cutV (tps.map fun x => V.ref x.1) lo hi = us.map (fun x => V.ref x.1) ∧ us.length ≤ tps.length ∧ ∀ x ∈ us, x ∈ tps := by
  unfold cutV
  rw [List.length_map, ← List.map_drop, ← List.map_take]
  exact ⟨_, rfl, by rw [List.length_take, List.length_drop]; omega, fun x hx => List.mem_of_mem_drop (List.mem_of_mem_take hx)⟩
section
variable {P : Program} {w : World} {K : PySem.W.Frag} {mg : Str → Option Value} {base : Heap}
def rLenS (K : PySem.W.Frag) : List V → Hp → VK → Prop := fun xs H Q => ∃ p ys, xs = [.ref p] ∧ (SqL K H p ys ∨ SqT K H p ys) ∧ Q (.int ys.length) H
theorem ok_sr {f C : Addr} {fd : FuncData} (F : Fun K "_law_symbols_right" "_law_symbols_right" (top 45) f fd) (T : SRF P w K mg base C) : FnOk P w K mg base CX0 12 f fd ["_law_pot_here", "_law_all_primes"] spSR := by
  refine F.ok scSR (fun vs H Q E h => ?_) (fun cdv A outer s H vs Q E hr h => ?_)
  · obtain ⟨p, L, n, rfl, _⟩ := h; rfl
  · obtain ⟨p, L, n, rfl, hp, hn, nL, gL, k⟩ := h
    have nd := scSR.nd
    have hu := room_units hr
    have hr1 := hr.mono (show 1 ≤ 11 by decide)
    obtain ⟨tt, htt, hqt⟩ := tail_sr (f := f) T cdv A outer s H Q E p L n hr hn k
    refine ⟨_, pss_cons (ps_setLc (i := 2) (own := [("_law_turn", 12)]) (g := gName 12) (tt := tYes) rfl nd rfl rfl (sw_true rfl rfl rfl (by decide +kernel)) (pi_range1 (by rfl) T.range (pa_cons (pe_ix ix_list (pe_lst (pa_cons pe_int (pa_cons pe_int (pa_cons pe_int (pa_cons pe_int (pa_cons pe_int pa_nil))))))
          (pe_c T.dip hr1 (by rfl) (pa_cons (pv 0) (pa_cons pe_int pa_nil))) (fun _ _ => rfl)) pa_nil)) (blkOk_by (own := [("_law_turn", 12)]) (N := NSR) (sc := defScope (top 45)) (by decide +kernel))
        (fun _ _ _ _ _ => pg_name (i := 12) nd rfl (Or.inl rfl)) (fun _ _ _ _ _ => pts_nil) (fun _ _ _ _ _ => pe_ix (r := rIxL K) ix_list (pv 1) (pe_c T.dipC hr1 (by rfl) (pa_cons (pv 0) (pa_cons (pe_callB (r := rLenS K) call_len_seq (by rfl) T.len PySem.boot_len (pa_cons (pv 1) pa_nil)) pa_nil))) (fun _ _ => rfl)))
      (pss_cons (ps_if (PW.pt (pw_and (pt_cmpR (op_neD hu) (pv 2) (pe_lst pa_nil) (nomark _)) (pw_and1 (pt_cmpR op_eq (pe_c T.dip hr1 (by rfl) (pa_cons (pv 0) (pa_cons pe_int pa_nil))) pe_int (nomark _)))))
        (pss_one (ps_set (i := 2) nd rfl (.inl rfl) (pe_op op_cat (pv 2) (pe_slice sl_list (pv 2) po_none (po_some pe_int))))) pss_nil) htt), ?_⟩
    refine ⟨by show 5 ≤ sizeLine; decide, fun l hl => ?_⟩
    have s0 := Same.up (o := .lst [.int 1, .int 2, .int 1, .int 3, .int 0]) hl
    generalize hH1 : upd H l (.lst [.int 1, .int 2, .int 1, .int 3, .int 0]) = H1 at s0 ⊢
    have el : H1 l = some (.lst [.int 1, .int 2, .int 1, .int 3, .int 0]) := by rw [← hH1]; exact upd_same
    clear hH1
    have p1 := hp.same s0
    have nl : l ≠ p := pot_ne hp hl
    refine ⟨_, rfl, p, 5, n, rfl, by decide, by decide, p1, by omega, fun H2 v2 s2 p2 l2 u2 => ?_⟩
    have el2 := s2 _ _ nl el
    have ex : ∃ j : Nat, j ≤ 3 ∧ atI ([.int 1, .int 2, .int 1, .int 3, .int 0] : List V) v2 = some (.int j) := by
      have : v2 = 0 ∨ v2 = 1 ∨ v2 = 2 ∨ v2 = 3 ∨ v2 = 4 := by omega
      rcases this with rfl | rfl | rfl | rfl | rfl
      · exact ⟨1, by decide, rfl⟩
      · exact ⟨2, by decide, rfl⟩
      · exact ⟨1, by decide, rfl⟩
      · exact ⟨3, by decide, rfl⟩
      · exact ⟨0, by decide, rfl⟩
    obtain ⟨j, j3, ej⟩ := ex
    refine ⟨l, _, v2, _, rfl, rfl, SqL.of el2, ej, ?_⟩
    refine ⟨(j : Int), rfl, by omega, by omega, fun D hD => ?_⟩
    have S2 : SameBut p H H2 := (Same.but s0).trans s2
    have g2 : Gr H2 L 103 := gL.but hp nL S2
    have nD : D ≠ p := pot_ne p2 hD
    obtain ⟨c0, ns0, at0, r0, q1, q2, _⟩ := id p2
    have nc : c0 ≠ D := ne_of_none q2 hD
    refine lc_range (lo := 0) (n := (j : Int).toNat) (fun i H' => SameBut p H2 H' ∧ CellAt H' p c0 ∧ Pot H' p (n + 1 + i) ∧ Gx H' D i) ⟨(Same.but (Same.up hD)), ⟨_, _, Same.up hD _ _ q1⟩, p2.same (Same.up hD), [], upd_same, Nat.le_refl 0, fun x hx => nomatch hx⟩ ?_ ?_
    · rintro i H3 hi ⟨s3, ce3, p3, tps, e3, l3, t3⟩
      have hi4 : i < 3 := by omega
      obtain ⟨aps, ea, la, na, ta⟩ := g2.but p2 nL s3
      have lpos : 0 < aps.length := List.length_pos_iff.mpr na
      refine ⟨rfl, _, rfl, _, rfl, _, rfl, L, _, rfl, .inl (SqL.of ea), p, _, n + 1 + i, rfl, ?_, ?_, p3, by omega, fun H4 v4 s4 p4 l4 u4 ce4 => ?_⟩
      · rw [List.length_map]; omega
      · rw [List.length_map]; omega
      · rw [List.length_map] at u4
        obtain ⟨m, rfl⟩ : ∃ m : Nat, v4 = m := ⟨v4.toNat, by omega⟩
        have ml : m < aps.length := by omega
        have hm : aps[m] ∈ aps := List.getElem_mem ml
        have ea4 := s4 _ _ nL ea
        have e4 := s4 _ _ nD e3
        obtain ⟨y1, y2, g4⟩ := ce4 c0 ce3
        refine ⟨L, _, (m : Int), .ref (aps[m]).1, rfl, rfl, SqL.of ea4, atI_nat ?_, _, e4, ?_, fun b o nb e => ?_, ⟨y1, y2, by rw [upd_ne (Ne.symm nD)]; exact g4⟩, ?_, tps ++ [aps[m]], ?_, ?_, fun x hx => ?_⟩
        · rw [List.getElem?_map, List.getElem?_eq_getElem ml]; rfl
        · rw [List.length_map]; exact Nat.lt_of_le_of_lt (show tps.length ≤ 3 by omega) (by decide)
        · rw [upd_ne (ne_of_none e hD)]
          exact s4 _ _ nb (s3 _ _ nb e)
        · obtain ⟨c, ns, at_, r, q1, q2, q3, q4, q5⟩ := p4
          have ec : c = c0 := by
            rw [q1] at g4; cases g4; rfl
          refine ⟨c, ns, at_, r, ?_, ?_, q3, q4, by omega⟩
          · rw [upd_ne (Ne.symm nD)]; exact q1
          · rw [upd_ne (by rw [ec]; exact nc)]
            exact q2
        · rw [upd_same, List.map_append]; rfl
        · rw [List.length_append]; show tps.length + 1 ≤ _; omega
        · have key : ∀ (b : Addr) (v : GI), TZ H4 b v → TZ (upd H4 D (.lst (tps.map (fun x => V.ref x.1) ++ [.ref (aps[m]).1]))) b v := fun b v h => SameBut.upd _ _ (ne_of h e4 (by intro z; cases z)) h
          rcases List.mem_append.mp hx with hx | hx
          · exact ⟨key _ _ ((t3 x hx).1.but p3 s4), (t3 x hx).2⟩
          · rcases List.mem_cons.mp hx with rfl | hx
            · exact ⟨key _ _ ((ta _ hm).1.but p3 s4), (ta _ hm).2⟩
            · cases hx
    · rintro H3 ⟨s3, ce3, p3, tps, e3, l3, t3⟩
      have l3' : tps.length ≤ 3 := by omega
      have p3' : Pot H3 p (n + 4) := p3.mono (by omega)
      have S3 := S2.trans s3
      refine ⟨_, rfl, by show 0 ≤ sizeLine; decide, fun l2 hl2 => ?_⟩
      have s5 := Same.up (o := .lst []) hl2
      have g5 : Gx (upd H3 l2 (.lst [])) D 6 := ⟨tps, s5 _ _ e3, by omega, fun x hx => ⟨(t3 x hx).1.same s5, (t3 x hx).2⟩⟩
      refine ⟨_, _, .lst (SqL.of (s5 _ _ e3)) (dpAll_tz tps fun x hx => (t3 x hx).1.same s5), .lst (SqL.of upd_same) .nil, shaped_tz tps, rfl, _, rfl, ?_⟩
      have p5 := p3'.same s5
      have S5 := S3.trans (Same.but s5)
      refine ite2 (fun hc => ?_) (fun hc => hqt _ D _ S5 (p5.mono (by omega)) nD g5)
      refine ⟨_, rfl, p, 4, n + 4, rfl, by decide, by decide, p5, by omega, fun H6 v6 s6 p6 l6 u6 => ?_⟩
      refine ⟨rfl, _, rfl, ?_⟩
      have g6 := g5.but p5 nD s6
      refine ite2 (fun hd => ?_) (fun hd => hqt _ D _ (S5.trans s6) (p6.mono (by omega)) nD g6)
      obtain ⟨us6, e6, l6', t6⟩ : ∃ us : List (Addr × GI), H6 D = some (.lst (us.map fun x => V.ref x.1)) ∧ us.length ≤ 3 ∧ ∀ x ∈ us, TZ H6 x.1 x.2 ∧ FS.GP x.2 ∧ BG 20 x.2 :=
        ⟨tps, s6 _ _ nD (s5 _ _ e3), l3', fun x hx => ⟨((t3 x hx).1.same s5).but p5 s6, (t3 x hx).2⟩⟩
      refine ⟨_, rfl, _, rfl, 1, rfl, D, _, rfl, SqL.of e6, fun m hm => ?_⟩
      obtain ⟨vs, ev, lv, tv⟩ := cut_tz us6 none (some 1)
      rw [ev]
      have s7 := Same.up (o := .lst (vs.map fun x => V.ref x.1)) hm
      refine ⟨D, m, _, _, rfl, rfl, s7 _ _ e6, upd_same, ?_, fun q hq => ?_⟩
      · rw [List.length_map, List.length_map]; exact Nat.le_trans (show us6.length + vs.length ≤ 6 by omega) (by decide)
      have s8 := Same.up (o := .lst (us6.map (fun x => V.ref x.1) ++ vs.map fun x => V.ref x.1)) hq
      have S78 := s7.trans s8
      refine hqt _ q _ ((S5.trans s6).trans (Same.but S78)) ((p6.same S78).mono (by omega)) (pot_ne (p6.same s7) hq) ⟨us6 ++ vs, ?_, ?_, fun x hx => ?_⟩
      · rw [upd_same, List.map_append]
      · rw [List.length_append]; omega
      · have hx' : x ∈ us6 := by
          rcases List.mem_append.mp hx with hx | hx
          · exact hx
          · exact tv x hx
        exact ⟨(t6 x hx').1.same S78, (t6 x hx').2⟩
end
end Toy
namespace Toy
open PySem L2
section
variable {P : Program} {w : World} {K : PySem.W.Frag} {mg : Str → Option Value} {base : Heap}
def spLaw (K : PySem.W.Frag) : Sp := fun vs H Q _ => ∃ (a : Addr) (ns : List Int), vs = [.ref a] ∧ SqL K H a (ns.map V.int) ∧ ns.length ≤ 63 ∧ ∀ H', Q (.bl true) H'
abbrev NLw : List Str := ["_law_script", "_law_pot_here", "_law_all_primes", "_law_turn"]
theorem scLaw : FnScope NLw ["_law_script"] (defScope (top 46)) := ⟨rfl, rfl, rfl, by decide +kernel, rfl, by decide +kernel, by decide +kernel⟩
theorem ok_law {f : Addr} {fd : FuncData} (F : Fun K "law" "law" (top 46) f fd) (hrg : mg "range" = none) (cp : Cal P w K mg base 1 "_law_pot" (spLPot K)) (cq : Cal P w K mg base 1 "_law_primes" spLPrimes) (cs : Cal P w K mg base 12 "_law_symbols_right" spSR) :
    FnOk P w K mg base CX0 13 f fd ["_law_script"] (spLaw K) := by
  refine F.ok scLaw (fun vs H Q E h => ?_) (fun cdv A outer s H vs Q E hr h => ?_)
  · obtain ⟨a, ns, rfl, _⟩ := h; rfl
  · obtain ⟨a, ns, rfl, ha, hl, k⟩ := h
    have nd := scLaw.nd
    have hr1 := hr.mono (show 1 ≤ 12 by decide)
    refine ⟨_, pss_cons (ps_par (i := 1) (j := 2) rfl nd rfl rfl (by decide) rfl rfl (pa_cons (pe_c cp hr1 (by rfl) (pa_cons (pv 0) pa_nil)) (pa_cons (pe_c0 cq hr1 (by rfl)) pa_nil)) (by rfl))
      (pss_cons (ps_for PassesOwn.never rfl (pi_range1 (by rfl) hrg (pa_cons pe_int pa_nil)) (pg_name (i := 3) nd rfl (.inl rfl)) (pss_one (ps_if (pt_not (pt_val (pe_c cs hr (by rfl) (pa_cons (pv 1) (pa_cons (pv 2) pa_nil))))) pss_never pss_nil)))
      (pss_one (ps_ret pe_bl))), ?_⟩
    refine ⟨_, rfl, a, ns, rfl, ha, hl, fun H1 p s1 p1 np => ?_⟩
    refine ⟨rfl, fun H2 L s2 nL g2 => ?_⟩
    refine ⟨_, _, rfl, ?_⟩
    have p2 := p1.same s2
    have ne : L ≠ p := pot_ne p1 nL
    refine ⟨3, rfl, by decide, by decide, ?_⟩
    refine for_range (lo := 0) (n := 3) (fun i σ H' => ∃ x3 : Option V, σ = [some (.ref a), some (.ref p), some (.ref L), x3] ∧ SameBut p H2 H' ∧ Pot H' p (100 * i)) ⟨_, rfl, SameBut.refl, p2⟩ ?_ ?_
    · rintro i σ H3 hi ⟨x3, rfl, s3, p3⟩
      refine ⟨_, rfl, _, rfl, p, L, 100 * i, rfl, p3, by omega, ne, g2.but p2 ne s3, fun H4 s4 p4 => ?_⟩
      exact ⟨true, rfl, iteF ⟨_, rfl, s3.trans s4, p4.mono (by omega)⟩⟩
    · rintro σ H3 ⟨x3, rfl, s3, p3⟩
      exact k H3
end
end Toy
namespace Toy
open PySem L2
theorem all_mk {w : World} {K : PySem.W.Frag} {h : Heap} {mg : Str → Option Value} {fa C CF CP : Addr} (X : K.In h) (G : h.Ns mainGlobals mg) (hfa : mg "law" = some (.ref fa))
    {f8 : Addr} {od8 an8 : Option Addr} {sl8 : Array (Option Value)} {oc8 kV8 dc8 pm8 cd8 ct8 : Value}
    {f9 : Addr} {od9 an9 : Option Addr} {sl9 : Array (Option Value)} {oc9 kV9 dc9 pm9 cd9 ct9 : Value}
    {f10 : Addr} {od10 an10 : Option Addr} {sl10 : Array (Option Value)} {oc10 kV10 dc10 pm10 cd10 ct10 : Value}
    {f16 : Addr} {od16 an16 : Option Addr} {sl16 : Array (Option Value)} {oc16 kV16 dc16 pm16 cd16 ct16 : Value}
    {f17 : Addr} {od17 an17 : Option Addr} {sl17 : Array (Option Value)} {oc17 kV17 dc17 pm17 cd17 ct17 : Value}
    {f20 : Addr} {od20 an20 : Option Addr} {sl20 : Array (Option Value)} {oc20 kV20 dc20 pm20 cd20 ct20 : Value}
    {f24 : Addr} {od24 an24 : Option Addr} {sl24 : Array (Option Value)} {oc24 kV24 dc24 pm24 cd24 ct24 : Value}
    {f25 : Addr} {od25 an25 : Option Addr} {sl25 : Array (Option Value)} {oc25 kV25 dc25 pm25 cd25 ct25 : Value}
    {f26 : Addr} {od26 an26 : Option Addr} {sl26 : Array (Option Value)} {oc26 kV26 dc26 pm26 cd26 ct26 : Value}
    {f27 : Addr} {od27 an27 : Option Addr} {sl27 : Array (Option Value)} {oc27 kV27 dc27 pm27 cd27 ct27 : Value}
    {f28 : Addr} {od28 an28 : Option Addr} {sl28 : Array (Option Value)} {oc28 kV28 dc28 pm28 cd28 ct28 : Value}
    {f29 : Addr} {od29 an29 : Option Addr} {sl29 : Array (Option Value)} {oc29 kV29 dc29 pm29 cd29 ct29 : Value}
    {f30 : Addr} {od30 an30 : Option Addr} {sl30 : Array (Option Value)} {oc30 kV30 dc30 pm30 cd30 ct30 : Value}
    {f31 : Addr} {od31 an31 : Option Addr} {sl31 : Array (Option Value)} {oc31 kV31 dc31 pm31 cd31 ct31 : Value}
    {f33 : Addr} {od33 an33 : Option Addr} {sl33 : Array (Option Value)} {oc33 kV33 dc33 pm33 cd33 ct33 : Value}
    {f34 : Addr} {od34 an34 : Option Addr} {sl34 : Array (Option Value)} {oc34 kV34 dc34 pm34 cd34 ct34 : Value}
    {f35 : Addr} {od35 an35 : Option Addr} {sl35 : Array (Option Value)} {oc35 kV35 dc35 pm35 cd35 ct35 : Value}
    {f36 : Addr} {od36 an36 : Option Addr} {sl36 : Array (Option Value)} {oc36 kV36 dc36 pm36 cd36 ct36 : Value}
    {f37 : Addr} {od37 an37 : Option Addr} {sl37 : Array (Option Value)} {oc37 kV37 dc37 pm37 cd37 ct37 : Value}
    {f38 : Addr} {od38 an38 : Option Addr} {sl38 : Array (Option Value)} {oc38 kV38 dc38 pm38 cd38 ct38 : Value}
    {f39 : Addr} {od39 an39 : Option Addr} {sl39 : Array (Option Value)} {oc39 kV39 dc39 pm39 cd39 ct39 : Value}
    {f40 : Addr} {od40 an40 : Option Addr} {sl40 : Array (Option Value)} {oc40 kV40 dc40 pm40 cd40 ct40 : Value}
    {f41 : Addr} {od41 an41 : Option Addr} {sl41 : Array (Option Value)} {oc41 kV41 dc41 pm41 cd41 ct41 : Value}
    {f42 : Addr} {od42 an42 : Option Addr} {sl42 : Array (Option Value)} {oc42 kV42 dc42 pm42 cd42 ct42 : Value}
    {f43 : Addr} {od43 an43 : Option Addr} {sl43 : Array (Option Value)} {oc43 kV43 dc43 pm43 cd43 ct43 : Value}
    {f44 : Addr} {od44 an44 : Option Addr} {sl44 : Array (Option Value)} {oc44 kV44 dc44 pm44 cd44 ct44 : Value}
    {f45 : Addr} {od45 an45 : Option Addr} {sl45 : Array (Option Value)} {oc45 kV45 dc45 pm45 cd45 ct45 : Value}
    {f46 : Addr} {od46 an46 : Option Addr} {sl46 : Array (Option Value)} {oc46 kV46 dc46 pm46 cd46 ct46 : Value}
    {fm0 : Addr} {odm0 anm0 : Option Addr} {slm0 : Array (Option Value)} {ocm0 kVm0 dcm0 pmm0 cdm0 ctm0 : Value}
    {fm3 : Addr} {odm3 anm3 : Option Addr} {slm3 : Array (Option Value)} {ocm3 kVm3 dcm3 pmm3 cdm3 ctm3 : Value}
    {fm4 : Addr} {odm4 anm4 : Option Addr} {slm4 : Array (Option Value)} {ocm4 kVm4 dcm4 pmm4 cdm4 ctm4 : Value}
    {fm8 : Addr} {odm8 anm8 : Option Addr} {slm8 : Array (Option Value)} {ocm8 kVm8 dcm8 pmm8 cdm8 ctm8 : Value}
    {fm9 : Addr} {odm9 anm9 : Option Addr} {slm9 : Array (Option Value)} {ocm9 kVm9 dcm9 pmm9 cdm9 ctm9 : Value}
    {fm10 : Addr} {odm10 anm10 : Option Addr} {slm10 : Array (Option Value)} {ocm10 kVm10 dcm10 pmm10 cdm10 ctm10 : Value}
    {fm11 : Addr} {odm11 anm11 : Option Addr} {slm11 : Array (Option Value)} {ocm11 kVm11 dcm11 pmm11 cdm11 ctm11 : Value}
    {fm13 : Addr} {odm13 anm13 : Option Addr} {slm13 : Array (Option Value)} {ocm13 kVm13 dcm13 pmm13 cdm13 ctm13 : Value}
    {fm14 : Addr} {odm14 anm14 : Option Addr} {slm14 : Array (Option Value)} {ocm14 kVm14 dcm14 pmm14 cdm14 ctm14 : Value}
    {fP : Addr} {odP anP : Option Addr} {slP : Array (Option Value)} {ocP kVP dcP pmP cdP ctP : Value}
    {fF cda cc : Addr} {odF anF : Option Addr} {slF : Array (Option Value)} {ocF kVF dcF pmF ctF : Value}
    {r1 : Value} {r2 : Option Addr} {r3 : Array Value} {r4 : Array (Option Value)} {r5 : Str} {r6 : Tok} {e1 : Value} {e2 : Option Addr} {e3 : Array (Option Value)} {cdC : ClassData}
    (a8 : PySem.W.nsIn K mainGlobals "is_integer" = some (some (.ref f8)))
    (l8 : K.lookup f8 = some ⟨oc8, od8, .func (PySem.W.fnOf "is_integer" "is_integer" (defArgs (top 8)) (defBody (top 8)) (defScope (top 8)) .none kV8 dc8 pm8 an8 cd8 ct8), sl8⟩)
    (c8 : PySem.W.codeIn K cd8 "is_integer" = true)
    (k8 : PySem.W.keepIn K (.ref f8) = true)
    (a9 : PySem.W.nsIn K mainGlobals "is_within" = some (some (.ref f9)))
    (l9 : K.lookup f9 = some ⟨oc9, od9, .func (PySem.W.fnOf "is_within" "is_within" (defArgs (top 9)) (defBody (top 9)) (defScope (top 9)) .none kV9 dc9 pm9 an9 cd9 ct9), sl9⟩)
    (c9 : PySem.W.codeIn K cd9 "is_within" = true)
    (k9 : PySem.W.keepIn K (.ref f9) = true)
    (a10 : PySem.W.nsIn K mainGlobals "need_number" = some (some (.ref f10)))
    (l10 : K.lookup f10 = some ⟨oc10, od10, .func (PySem.W.fnOf "need_number" "need_number" (defArgs (top 10)) (defBody (top 10)) (defScope (top 10)) .none kV10 dc10 pm10 an10 cd10 ct10), sl10⟩)
    (c10 : PySem.W.codeIn K cd10 "need_number" = true)
    (k10 : PySem.W.keepIn K (.ref f10) = true)
    (a16 : PySem.W.nsIn K mainGlobals "need_pair" = some (some (.ref f16)))
    (l16 : K.lookup f16 = some ⟨oc16, od16, .func (PySem.W.fnOf "need_pair" "need_pair" (defArgs (top 16)) (defBody (top 16)) (defScope (top 16)) .none kV16 dc16 pm16 an16 cd16 ct16), sl16⟩)
    (c16 : PySem.W.codeIn K cd16 "need_pair" = true)
    (k16 : PySem.W.keepIn K (.ref f16) = true)
    (a17 : PySem.W.nsIn K mainGlobals "nearest" = some (some (.ref f17)))
    (l17 : K.lookup f17 = some ⟨oc17, od17, .func (PySem.W.fnOf "nearest" "nearest" (defArgs (top 17)) (defBody (top 17)) (defScope (top 17)) .none kV17 dc17 pm17 an17 cd17 ct17), sl17⟩)
    (c17 : PySem.W.codeIn K cd17 "nearest" = true)
    (k17 : PySem.W.keepIn K (.ref f17) = true)
    (a20 : PySem.W.nsIn K mainGlobals "fixed" = some (some (.ref f20)))
    (l20 : K.lookup f20 = some ⟨oc20, od20, .func (PySem.W.fnOf "fixed" "fixed" (defArgs (top 20)) (defBody (top 20)) (defScope (top 20)) .none kV20 dc20 pm20 an20 cd20 ct20), sl20⟩)
    (c20 : PySem.W.codeIn K cd20 "fixed" = true)
    (k20 : PySem.W.keepIn K (.ref f20) = true)
    (a24 : PySem.W.nsIn K mainGlobals "need_both" = some (some (.ref f24)))
    (l24 : K.lookup f24 = some ⟨oc24, od24, .func (PySem.W.fnOf "need_both" "need_both" (defArgs (top 24)) (defBody (top 24)) (defScope (top 24)) .none kV24 dc24 pm24 an24 cd24 ct24), sl24⟩)
    (c24 : PySem.W.codeIn K cd24 "need_both" = true)
    (k24 : PySem.W.keepIn K (.ref f24) = true)
    (a25 : PySem.W.nsIn K mainGlobals "numbers_of" = some (some (.ref f25)))
    (l25 : K.lookup f25 = some ⟨oc25, od25, .func (PySem.W.fnOf "numbers_of" "numbers_of" (defArgs (top 25)) (defBody (top 25)) (defScope (top 25)) .none kV25 dc25 pm25 an25 cd25 ct25), sl25⟩)
    (c25 : PySem.W.codeIn K cd25 "numbers_of" = true)
    (k25 : PySem.W.keepIn K (.ref f25) = true)
    (a26 : PySem.W.nsIn K mainGlobals "quarter" = some (some (.ref f26)))
    (l26 : K.lookup f26 = some ⟨oc26, od26, .func (PySem.W.fnOf "quarter" "quarter" (defArgs (top 26)) (defBody (top 26)) (defScope (top 26)) .none kV26 dc26 pm26 an26 cd26 ct26), sl26⟩)
    (c26 : PySem.W.codeIn K cd26 "quarter" = true)
    (k26 : PySem.W.keepIn K (.ref f26) = true)
    (a27 : PySem.W.nsIn K mainGlobals "change_of" = some (some (.ref f27)))
    (l27 : K.lookup f27 = some ⟨oc27, od27, .func (PySem.W.fnOf "change_of" "change_of" (defArgs (top 27)) (defBody (top 27)) (defScope (top 27)) .none kV27 dc27 pm27 an27 cd27 ct27), sl27⟩)
    (c27 : PySem.W.codeIn K cd27 "change_of" = true)
    (k27 : PySem.W.keepIn K (.ref f27) = true)
    (a28 : PySem.W.nsIn K mainGlobals "row_of" = some (some (.ref f28)))
    (l28 : K.lookup f28 = some ⟨oc28, od28, .func (PySem.W.fnOf "row_of" "row_of" (defArgs (top 28)) (defBody (top 28)) (defScope (top 28)) .none kV28 dc28 pm28 an28 cd28 ct28), sl28⟩)
    (c28 : PySem.W.codeIn K cd28 "row_of" = true)
    (k28 : PySem.W.keepIn K (.ref f28) = true)
    (a29 : PySem.W.nsIn K mainGlobals "value_of" = some (some (.ref f29)))
    (l29 : K.lookup f29 = some ⟨oc29, od29, .func (PySem.W.fnOf "value_of" "value_of" (defArgs (top 29)) (defBody (top 29)) (defScope (top 29)) .none kV29 dc29 pm29 an29 cd29 ct29), sl29⟩)
    (c29 : PySem.W.codeIn K cd29 "value_of" = true)
    (k29 : PySem.W.keepIn K (.ref f29) = true)
    (a30 : PySem.W.nsIn K mainGlobals "fourth_steps" = some (some (.ref f30)))
    (l30 : K.lookup f30 = some ⟨oc30, od30, .func (PySem.W.fnOf "fourth_steps" "fourth_steps" (defArgs (top 30)) (defBody (top 30)) (defScope (top 30)) .none kV30 dc30 pm30 an30 cd30 ct30), sl30⟩)
    (c30 : PySem.W.codeIn K cd30 "fourth_steps" = true)
    (k30 : PySem.W.keepIn K (.ref f30) = true)
    (a31 : PySem.W.nsIn K mainGlobals "fourth_symbol" = some (some (.ref f31)))
    (l31 : K.lookup f31 = some ⟨oc31, od31, .func (PySem.W.fnOf "fourth_symbol" "fourth_symbol" (defArgs (top 31)) (defBody (top 31)) (defScope (top 31)) .none kV31 dc31 pm31 an31 cd31 ct31), sl31⟩)
    (c31 : PySem.W.codeIn K cd31 "fourth_symbol" = true)
    (k31 : PySem.W.keepIn K (.ref f31) = true)
    (a33 : PySem.W.nsIn K mainGlobals "_law_pot" = some (some (.ref f33)))
    (l33 : K.lookup f33 = some ⟨oc33, od33, .func (PySem.W.fnOf "_law_pot" "_law_pot" (defArgs (top 33)) (defBody (top 33)) (defScope (top 33)) .none kV33 dc33 pm33 an33 cd33 ct33), sl33⟩)
    (c33 : PySem.W.codeIn K cd33 "_law_pot" = true)
    (k33 : PySem.W.keepIn K (.ref f33) = true)
    (a34 : PySem.W.nsIn K mainGlobals "_law_dip" = some (some (.ref f34)))
    (l34 : K.lookup f34 = some ⟨oc34, od34, .func (PySem.W.fnOf "_law_dip" "_law_dip" (defArgs (top 34)) (defBody (top 34)) (defScope (top 34)) .none kV34 dc34 pm34 an34 cd34 ct34), sl34⟩)
    (c34 : PySem.W.codeIn K cd34 "_law_dip" = true)
    (k34 : PySem.W.keepIn K (.ref f34) = true)
    (a35 : PySem.W.nsIn K mainGlobals "_law_part" = some (some (.ref f35)))
    (l35 : K.lookup f35 = some ⟨oc35, od35, .func (PySem.W.fnOf "_law_part" "_law_part" (defArgs (top 35)) (defBody (top 35)) (defScope (top 35)) .none kV35 dc35 pm35 an35 cd35 ct35), sl35⟩)
    (c35 : PySem.W.codeIn K cd35 "_law_part" = true)
    (k35 : PySem.W.keepIn K (.ref f35) = true)
    (a36 : PySem.W.nsIn K mainGlobals "_law_primes" = some (some (.ref f36)))
    (l36 : K.lookup f36 = some ⟨oc36, od36, .func (PySem.W.fnOf "_law_primes" "_law_primes" (defArgs (top 36)) (defBody (top 36)) (defScope (top 36)) .none kV36 dc36 pm36 an36 cd36 ct36), sl36⟩)
    (c36 : PySem.W.codeIn K cd36 "_law_primes" = true)
    (k36 : PySem.W.keepIn K (.ref f36) = true)
    (a37 : PySem.W.nsIn K mainGlobals "_law_times" = some (some (.ref f37)))
    (l37 : K.lookup f37 = some ⟨oc37, od37, .func (PySem.W.fnOf "_law_times" "_law_times" (defArgs (top 37)) (defBody (top 37)) (defScope (top 37)) .none kV37 dc37 pm37 an37 cd37 ct37), sl37⟩)
    (c37 : PySem.W.codeIn K cd37 "_law_times" = true)
    (k37 : PySem.W.keepIn K (.ref f37) = true)
    (a38 : PySem.W.nsIn K mainGlobals "_law_norm" = some (some (.ref f38)))
    (l38 : K.lookup f38 = some ⟨oc38, od38, .func (PySem.W.fnOf "_law_norm" "_law_norm" (defArgs (top 38)) (defBody (top 38)) (defScope (top 38)) .none kV38 dc38 pm38 an38 cd38 ct38), sl38⟩)
    (c38 : PySem.W.codeIn K cd38 "_law_norm" = true)
    (k38 : PySem.W.keepIn K (.ref f38) = true)
    (a39 : PySem.W.nsIn K mainGlobals "_law_rest" = some (some (.ref f39)))
    (l39 : K.lookup f39 = some ⟨oc39, od39, .func (PySem.W.fnOf "_law_rest" "_law_rest" (defArgs (top 39)) (defBody (top 39)) (defScope (top 39)) .none kV39 dc39 pm39 an39 cd39 ct39), sl39⟩)
    (c39 : PySem.W.codeIn K cd39 "_law_rest" = true)
    (k39 : PySem.W.keepIn K (.ref f39) = true)
    (a40 : PySem.W.nsIn K mainGlobals "_law_power_of_i" = some (some (.ref f40)))
    (l40 : K.lookup f40 = some ⟨oc40, od40, .func (PySem.W.fnOf "_law_power_of_i" "_law_power_of_i" (defArgs (top 40)) (defBody (top 40)) (defScope (top 40)) .none kV40 dc40 pm40 an40 cd40 ct40), sl40⟩)
    (c40 : PySem.W.codeIn K cd40 "_law_power_of_i" = true)
    (k40 : PySem.W.keepIn K (.ref f40) = true)
    (a41 : PySem.W.nsIn K mainGlobals "_law_due" = some (some (.ref f41)))
    (l41 : K.lookup f41 = some ⟨oc41, od41, .func (PySem.W.fnOf "_law_due" "_law_due" (defArgs (top 41)) (defBody (top 41)) (defScope (top 41)) .none kV41 dc41 pm41 an41 cd41 ct41), sl41⟩)
    (c41 : PySem.W.codeIn K cd41 "_law_due" = true)
    (k41 : PySem.W.keepIn K (.ref f41) = true)
    (a42 : PySem.W.nsIn K mainGlobals "_law_turned" = some (some (.ref f42)))
    (l42 : K.lookup f42 = some ⟨oc42, od42, .func (PySem.W.fnOf "_law_turned" "_law_turned" (defArgs (top 42)) (defBody (top 42)) (defScope (top 42)) .none kV42 dc42 pm42 an42 cd42 ct42), sl42⟩)
    (c42 : PySem.W.codeIn K cd42 "_law_turned" = true)
    (k42 : PySem.W.keepIn K (.ref f42) = true)
    (a43 : PySem.W.nsIn K mainGlobals "_law_told" = some (some (.ref f43)))
    (l43 : K.lookup f43 = some ⟨oc43, od43, .func (PySem.W.fnOf "_law_told" "_law_told" (defArgs (top 43)) (defBody (top 43)) (defScope (top 43)) .none kV43 dc43 pm43 an43 cd43 ct43), sl43⟩)
    (c43 : PySem.W.codeIn K cd43 "_law_told" = true)
    (k43 : PySem.W.keepIn K (.ref f43) = true)
    (a44 : PySem.W.nsIn K mainGlobals "_law_number" = some (some (.ref f44)))
    (l44 : K.lookup f44 = some ⟨oc44, od44, .func (PySem.W.fnOf "_law_number" "_law_number" (defArgs (top 44)) (defBody (top 44)) (defScope (top 44)) .none kV44 dc44 pm44 an44 cd44 ct44), sl44⟩)
    (c44 : PySem.W.codeIn K cd44 "_law_number" = true)
    (k44 : PySem.W.keepIn K (.ref f44) = true)
    (a45 : PySem.W.nsIn K mainGlobals "_law_symbols_right" = some (some (.ref f45)))
    (l45 : K.lookup f45 = some ⟨oc45, od45, .func (PySem.W.fnOf "_law_symbols_right" "_law_symbols_right" (defArgs (top 45)) (defBody (top 45)) (defScope (top 45)) .none kV45 dc45 pm45 an45 cd45 ct45), sl45⟩)
    (c45 : PySem.W.codeIn K cd45 "_law_symbols_right" = true)
    (k45 : PySem.W.keepIn K (.ref f45) = true)
    (a46 : PySem.W.nsIn K mainGlobals "law" = some (some (.ref f46)))
    (l46 : K.lookup f46 = some ⟨oc46, od46, .func (PySem.W.fnOf "law" "law" (defArgs (top 46)) (defBody (top 46)) (defScope (top 46)) .none kV46 dc46 pm46 an46 cd46 ct46), sl46⟩)
    (c46 : PySem.W.codeIn K cd46 "law" = true)
    (k46 : PySem.W.keepIn K (.ref f46) = true)
    (aC : PySem.W.nsIn K mainGlobals "Pair" = some (some (.ref C)))
    (am0 : PySem.W.findIn K (.ref C) "__init__" = some (some (.ref fm0)))
    (im0 : PySem.W.isFn K (.ref fm0) = true)
    (lm0 : K.lookup fm0 = some ⟨ocm0, odm0, .func (PySem.W.fnOf "__init__" "Pair.__init__" (defArgs (sPair 0)) (defBody (sPair 0)) (defScope (sPair 0)) .none kVm0 dcm0 pmm0 anm0 cdm0 ctm0), slm0⟩)
    (cm0 : PySem.W.codeIn K cdm0 "Pair.__init__" = true)
    (km0 : PySem.W.keepIn K (.ref fm0) = true)
    (am3 : PySem.W.findIn K (.ref C) "__sub__" = some (some (.ref fm3)))
    (im3 : PySem.W.isFn K (.ref fm3) = true)
    (lm3 : K.lookup fm3 = some ⟨ocm3, odm3, .func (PySem.W.fnOf "__sub__" "Pair.__sub__" (defArgs (sPair 3)) (defBody (sPair 3)) (defScope (sPair 3)) .none kVm3 dcm3 pmm3 anm3 cdm3 ctm3), slm3⟩)
    (cm3 : PySem.W.codeIn K cdm3 "Pair.__sub__" = true)
    (km3 : PySem.W.keepIn K (.ref fm3) = true)
    (am4 : PySem.W.findIn K (.ref C) "__mul__" = some (some (.ref fm4)))
    (im4 : PySem.W.isFn K (.ref fm4) = true)
    (lm4 : K.lookup fm4 = some ⟨ocm4, odm4, .func (PySem.W.fnOf "__mul__" "Pair.__mul__" (defArgs (sPair 4)) (defBody (sPair 4)) (defScope (sPair 4)) .none kVm4 dcm4 pmm4 anm4 cdm4 ctm4), slm4⟩)
    (cm4 : PySem.W.codeIn K cdm4 "Pair.__mul__" = true)
    (km4 : PySem.W.keepIn K (.ref fm4) = true)
    (am8 : PySem.W.findIn K (.ref C) "flipped" = some (some (.ref fm8)))
    (im8 : PySem.W.isFn K (.ref fm8) = true)
    (lm8 : K.lookup fm8 = some ⟨ocm8, odm8, .func (PySem.W.fnOf "flipped" "Pair.flipped" (defArgs (sPair 8)) (defBody (sPair 8)) (defScope (sPair 8)) .none kVm8 dcm8 pmm8 anm8 cdm8 ctm8), slm8⟩)
    (cm8 : PySem.W.codeIn K cdm8 "Pair.flipped" = true)
    (km8 : PySem.W.keepIn K (.ref fm8) = true)
    (am9 : PySem.W.findIn K (.ref C) "times_i" = some (some (.ref fm9)))
    (im9 : PySem.W.isFn K (.ref fm9) = true)
    (lm9 : K.lookup fm9 = some ⟨ocm9, odm9, .func (PySem.W.fnOf "times_i" "Pair.times_i" (defArgs (sPair 9)) (defBody (sPair 9)) (defScope (sPair 9)) .none kVm9 dcm9 pmm9 anm9 cdm9 ctm9), slm9⟩)
    (cm9 : PySem.W.codeIn K cdm9 "Pair.times_i" = true)
    (km9 : PySem.W.keepIn K (.ref fm9) = true)
    (am10 : PySem.W.findIn K (.ref C) "is_primary" = some (some (.ref fm10)))
    (im10 : PySem.W.isFn K (.ref fm10) = true)
    (lm10 : K.lookup fm10 = some ⟨ocm10, odm10, .func (PySem.W.fnOf "is_primary" "Pair.is_primary" (defArgs (sPair 10)) (defBody (sPair 10)) (defScope (sPair 10)) .none kVm10 dcm10 pmm10 anm10 cdm10 ctm10), slm10⟩)
    (cm10 : PySem.W.codeIn K cdm10 "Pair.is_primary" = true)
    (km10 : PySem.W.keepIn K (.ref fm10) = true)
    (am11 : PySem.W.findIn K (.ref C) "divided" = some (some (.ref fm11)))
    (im11 : PySem.W.isFn K (.ref fm11) = true)
    (lm11 : K.lookup fm11 = some ⟨ocm11, odm11, .func (PySem.W.fnOf "divided" "Pair.divided" (defArgs (sPair 11)) (defBody (sPair 11)) (defScope (sPair 11)) .none kVm11 dcm11 pmm11 anm11 cdm11 ctm11), slm11⟩)
    (cm11 : PySem.W.codeIn K cdm11 "Pair.divided" = true)
    (km11 : PySem.W.keepIn K (.ref fm11) = true)
    (am13 : PySem.W.findIn K (.ref C) "odd_part" = some (some (.ref fm13)))
    (im13 : PySem.W.isFn K (.ref fm13) = true)
    (lm13 : K.lookup fm13 = some ⟨ocm13, odm13, .func (PySem.W.fnOf "odd_part" "Pair.odd_part" (defArgs (sPair 13)) (defBody (sPair 13)) (defScope (sPair 13)) .none kVm13 dcm13 pmm13 anm13 cdm13 ctm13), slm13⟩)
    (cm13 : PySem.W.codeIn K cdm13 "Pair.odd_part" = true)
    (km13 : PySem.W.keepIn K (.ref fm13) = true)
    (am14 : PySem.W.findIn K (.ref C) "primary" = some (some (.ref fm14)))
    (im14 : PySem.W.isFn K (.ref fm14) = true)
    (lm14 : K.lookup fm14 = some ⟨ocm14, odm14, .func (PySem.W.fnOf "primary" "Pair.primary" (defArgs (sPair 14)) (defBody (sPair 14)) (defScope (sPair 14)) .none kVm14 dcm14 pmm14 anm14 cdm14 ctm14), slm14⟩)
    (cm14 : PySem.W.codeIn K cdm14 "Pair.primary" = true)
    (km14 : PySem.W.keepIn K (.ref fm14) = true)
    (pg : PySem.W.plainGet K C Str.empty = true)
    (hd : PySem.W.hasDictIn K C = true)
    (po : PySem.W.plainOver K C = true)
    (sa : PySem.W.findIn K (.ref C) "__setattr__" = some (some (.builtin "object.__setattr__")))
    (mk : PySem.W.makesIn K C = true)
    (kc : PySem.W.keepIn K (.ref C) = true)
    (n_one : PySem.W.findIn K (.ref C) "one" = some none)
    (n_other : PySem.W.findIn K (.ref C) "other" = some none)
    (n_norm : PySem.W.findIn K (.ref C) "norm" = some none)
    (sf : PySem.W.selfFirst K C = true)
    (ha : PySem.W.findIn K (.ref C) "__class__" = some (some (.builtin "object.__class__")))
    (hn : PySem.W.specialIn K (.builtin "object.__class__") "__get__" = some (some (.builtin "getset_descriptor.__get__")))
    (htk : PySem.W.takesIn K (.builtin "object.__class__") = some true)
    (hm : PySem.W.mroIn K C (.type "object") = some true)
    (own : PySem.W.kitOne K (.ref C) (.ref C) = some true)
    (z_isinstance : PySem.W.nsIn K mainGlobals "isinstance" = some none)
    (z_int : PySem.W.nsIn K mainGlobals "int" = some none)
    (z_bool : PySem.W.nsIn K mainGlobals "bool" = some none)
    (z_range : PySem.W.nsIn K mainGlobals "range" = some none)
    (z_list : PySem.W.nsIn K mainGlobals "list" = some none)
    (z_tuple : PySem.W.nsIn K mainGlobals "tuple" = some none)
    (z_len : PySem.W.nsIn K mainGlobals "len" = some none)
    (z_abs : PySem.W.nsIn K mainGlobals "abs" = some none)
    (z_repr : PySem.W.nsIn K mainGlobals "repr" = some none)
    (z_sum : PySem.W.nsIn K mainGlobals "sum" = some none)
    (z_enumerate : PySem.W.nsIn K mainGlobals "enumerate" = some none)
    (z_super : PySem.W.nsIn K mainGlobals "super" = some none)
    (aF : PySem.W.nsIn K mainGlobals "FourthSteps" = some (some (.ref CF)))
    (aP : PySem.W.nsIn K mainGlobals "Paper" = some (some (.ref CP)))
    (aPi : PySem.W.findIn K (.ref CP) "__init__" = some (some (.ref fP)))
    (lP : K.lookup fP = some ⟨ocP, odP, .func (PySem.W.fnOf "__init__" "Paper.__init__" (defArgs (sPaper)) (defBody (sPaper)) (defScope (sPaper)) .none kVP dcP pmP anP cdP ctP), slP⟩)
    (cP : PySem.W.codeIn K cdP "Paper.__init__" = true)
    (kP : PySem.W.keepIn K (.ref fP) = true)
    (aFi : PySem.W.findIn K (.ref CF) "__init__" = some (some (.ref fF)))
    (iF : PySem.W.isFn K (.ref fF) = true)
    (lF : K.lookup fF = some ⟨ocF, odF, .func (PySem.W.ksFn "__init__" "FourthSteps.__init__" (defArgs sFS) (defBody sFS) (defScope sFS) .none kVF dcF pmF anF (.ref cda) ctF cc), slF⟩)
    (cF : PySem.W.codeIn K (.ref cda) "FourthSteps.__init__" = true)
    (rF : K.lookup cda = some ⟨r1, r2, .fields r3, r4⟩)
    (rV : r3[2]? = some (.str r5 r6))
    (rS : ((PySem.Challenge.pw_bendsigns_k47_whole_fourth_symbols_by_po.main.file : Str) == r5) = true)
    (eF : K.lookup cc = some ⟨e1, e2, .cell (some (.ref CF)), e3⟩)
    (dF : PySem.W.clsIn K CF = some cdC)
    (mF : PySem.W.mroIn K CF (.ref CF) = some true)
    (oF : PySem.W.nsIn K PySem.cStatics "thirdparty.any" = some none)
    (uF : PySem.W.ks_superIn K CF CF "__init__" = some (some (.ref fP)))
    (tF : PySem.W.typeIn K (.ref fP) = some (.type "function"))
    (nF : PySem.W.fnIn K fP = true)
    (pgF : PySem.W.plainGet K CF Str.empty = true)
    (hdF : PySem.W.hasDictIn K CF = true)
    (poF : PySem.W.plainOver K CF = true)
    (saF : PySem.W.findIn K (.ref CF) "__setattr__" = some (some (.builtin "object.__setattr__")))
    (mkF : PySem.W.makesIn K CF = true)
    (kcF : PySem.W.keepIn K (.ref CF) = true)
    (w_word : PySem.W.findIn K (.ref CF) "word" = some none)
    (w_parts : PySem.W.findIn K (.ref CF) "parts" = some none)
    (w_rows : PySem.W.findIn K (.ref CF) "rows" = some none)
    (w_value : PySem.W.findIn K (.ref CF) "value" = some none)
    : ∃ fd : FuncData, (∀ (s : Shared) (v : Value), BindsTo s fd ⟨[v], []⟩ [("_law_script", v)]) ∧ ∀ base : Heap, K.In base → base.Ns mainGlobals mg → FnOk PySem.Challenge.pw_bendsigns_k47_whole_fourth_symbols_by_po w K mg base CX0 13 fa fd ["_law_script"] (spLaw K) := by
  have e := hfa.symm.trans (PySem.W.mg_of X G a46)
  cases e
  have T : TP K mg C := ⟨⟨pg, hd, po, sa⟩, n_one, n_other, n_norm, ha, hn, htk, hm, own, PySem.W.mg_of X G aC⟩
  have Z := fun (x : Str) (z : PySem.W.nsIn K mainGlobals x = some none) => PySem.W.mg_none_of X G z
  have B : TB mg := ⟨Z _ z_isinstance, Z _ z_int, Z _ z_bool, Z _ z_range⟩
  have B2 : TB2 mg := ⟨Z _ z_isinstance, Z _ z_list, Z _ z_tuple⟩
  have TFS : TF K mg CF := ⟨⟨pgF, hdF, poF, saF⟩, w_word, w_parts, w_rows, w_value⟩
  have F8 := fun_mk (st := top 8) l8 c8 k8
  have b8 := F8.binds (ps := ["value"]) fun _ _ _ _ _ _ us hl => match us, hl with | [_], _ => rfl
  have g8 := PySem.W.mg_of X G a8
  have F9 := fun_mk (st := top 9) l9 c9 k9
  have b9 := F9.binds (ps := ["value", "least", "most"]) fun _ _ _ _ _ _ us hl => match us, hl with | [_, _, _], _ => rfl
  have g9 := PySem.W.mg_of X G a9
  have F10 := fun_mk (st := top 10) l10 c10 k10
  have b10 := F10.binds (ps := ["value", "part", "least", "most"]) fun _ _ _ _ _ _ us hl => match us, hl with | [_, _, _, _], _ => rfl
  have g10 := PySem.W.mg_of X G a10
  have F16 := fun_mk (st := top 16) l16 c16 k16
  have b16 := F16.binds (ps := ["value", "part"]) fun _ _ _ _ _ _ us hl => match us, hl with | [_, _], _ => rfl
  have g16 := PySem.W.mg_of X G a16
  have F17 := fun_mk (st := top 17) l17 c17 k17
  have b17 := F17.binds (ps := ["number", "by"]) fun _ _ _ _ _ _ us hl => match us, hl with | [_, _], _ => rfl
  have g17 := PySem.W.mg_of X G a17
  have F20 := fun_mk (st := top 20) l20 c20 k20
  have b20 := F20.binds (ps := ["value"]) fun _ _ _ _ _ _ us hl => match us, hl with | [_], _ => rfl
  have g20 := PySem.W.mg_of X G a20
  have F24 := fun_mk (st := top 24) l24 c24 k24
  have b24 := F24.binds (ps := ["number", "by"]) fun _ _ _ _ _ _ us hl => match us, hl with | [_, _], _ => rfl
  have g24 := PySem.W.mg_of X G a24
  have F25 := fun_mk (st := top 25) l25 c25 k25
  have b25 := F25.binds (ps := ["pair"]) fun _ _ _ _ _ _ us hl => match us, hl with | [_], _ => rfl
  have g25 := PySem.W.mg_of X G a25
  have F26 := fun_mk (st := top 26) l26 c26 k26
  have b26 := F26.binds (ps := ["pair"]) fun _ _ _ _ _ _ us hl => match us, hl with | [_], _ => rfl
  have g26 := PySem.W.mg_of X G a26
  have F27 := fun_mk (st := top 27) l27 c27 k27
  have b27 := F27.binds (ps := ["by", "times", "power", "left"]) fun _ _ _ _ _ _ us hl => match us, hl with | [_, _, _, _], _ => rfl
  have g27 := PySem.W.mg_of X G a27
  have F28 := fun_mk (st := top 28) l28 c28 k28
  have b28 := F28.binds (ps := ["rest", "by"]) fun _ _ _ _ _ _ us hl => match us, hl with | [_, _], _ => rfl
  have g28 := PySem.W.mg_of X G a28
  have F29 := fun_mk (st := top 29) l29 c29 k29
  have b29 := F29.binds (ps := ["total", "by"]) fun _ _ _ _ _ _ us hl => match us, hl with | [_, _], _ => rfl
  have g29 := PySem.W.mg_of X G a29
  have F30 := fun_mk (st := top 30) l30 c30 k30
  have b30 := F30.binds (ps := ["number", "by"]) fun _ _ _ _ _ _ us hl => match us, hl with | [_, _], _ => rfl
  have g30 := PySem.W.mg_of X G a30
  have F31 := fun_mk (st := top 31) l31 c31 k31
  have b31 := F31.binds (ps := ["number", "by"]) fun _ _ _ _ _ _ us hl => match us, hl with | [_, _], _ => rfl
  have g31 := PySem.W.mg_of X G a31
  have F33 := fun_mk (st := top 33) l33 c33 k33
  have b33 := F33.binds (ps := ["_law_script"]) fun _ _ _ _ _ _ us hl => match us, hl with | [_], _ => rfl
  have g33 := PySem.W.mg_of X G a33
  have F34 := fun_mk (st := top 34) l34 c34 k34
  have b34 := F34.binds (ps := ["_law_pot_here", "_law_many"]) fun _ _ _ _ _ _ us hl => match us, hl with | [_, _], _ => rfl
  have g34 := PySem.W.mg_of X G a34
  have F35 := fun_mk (st := top 35) l35 c35 k35
  have b35 := F35.binds (ps := ["_law_pot_here"]) fun _ _ _ _ _ _ us hl => match us, hl with | [_], _ => rfl
  have g35 := PySem.W.mg_of X G a35
  have F36 := fun_mk (st := top 36) l36 c36 k36
  have b36 := F36.binds (ps := ([] : List Str)) fun _ _ _ _ _ _ us hl => match us, hl with | [], _ => rfl
  have g36 := PySem.W.mg_of X G a36
  have F37 := fun_mk (st := top 37) l37 c37 k37
  have b37 := F37.binds (ps := ["_law_one", "_law_other"]) fun _ _ _ _ _ _ us hl => match us, hl with | [_, _], _ => rfl
  have g37 := PySem.W.mg_of X G a37
  have F38 := fun_mk (st := top 38) l38 c38 k38
  have b38 := F38.binds (ps := ["_law_one"]) fun _ _ _ _ _ _ us hl => match us, hl with | [_], _ => rfl
  have g38 := PySem.W.mg_of X G a38
  have F39 := fun_mk (st := top 39) l39 c39 k39
  have b39 := F39.binds (ps := ["_law_number_here", "_law_by"]) fun _ _ _ _ _ _ us hl => match us, hl with | [_, _], _ => rfl
  have g39 := PySem.W.mg_of X G a39
  have F40 := fun_mk (st := top 40) l40 c40 k40
  have b40 := F40.binds (ps := ["_law_number_here", "_law_prime"]) fun _ _ _ _ _ _ us hl => match us, hl with | [_, _], _ => rfl
  have g40 := PySem.W.mg_of X G a40
  have F41 := fun_mk (st := top 41) l41 c41 k41
  have b41 := F41.binds (ps := ["_law_number_here", "_law_primes_here"]) fun _ _ _ _ _ _ us hl => match us, hl with | [_, _], _ => rfl
  have g41 := PySem.W.mg_of X G a41
  have F42 := fun_mk (st := top 42) l42 c42 k42
  have b42 := F42.binds (ps := ["_law_one", "_law_power"]) fun _ _ _ _ _ _ us hl => match us, hl with | [_, _], _ => rfl
  have g42 := PySem.W.mg_of X G a42
  have F43 := fun_mk (st := top 43) l43 c43 k43
  have b43 := F43.binds (ps := ["_law_number_here", "_law_by"]) fun _ _ _ _ _ _ us hl => match us, hl with | [_, _], _ => rfl
  have g43 := PySem.W.mg_of X G a43
  have F44 := fun_mk (st := top 44) l44 c44 k44
  have b44 := F44.binds (ps := ["_law_pot_here", "_law_primes_here"]) fun _ _ _ _ _ _ us hl => match us, hl with | [_, _], _ => rfl
  have g44 := PySem.W.mg_of X G a44
  have F45 := fun_mk (st := top 45) l45 c45 k45
  have b45 := F45.binds (ps := ["_law_pot_here", "_law_all_primes"]) fun _ _ _ _ _ _ us hl => match us, hl with | [_, _], _ => rfl
  have g45 := PySem.W.mg_of X G a45
  have F46 := fun_mk (st := top 46) l46 c46 k46
  have Fm0 := fun_mk (st := sPair 0) lm0 cm0 km0
  have bm0 := Fm0.binds (ps := ["self", "one", "other"]) fun _ _ _ _ _ _ us hl => match us, hl with | [_, _, _], _ => rfl
  have Fm3 := fun_mk (st := sPair 3) lm3 cm3 km3
  have bm3 := Fm3.binds (ps := ["self", "other"]) fun _ _ _ _ _ _ us hl => match us, hl with | [_, _], _ => rfl
  have Mm3 : Meth K C "__sub__" fm3 := ⟨am3, im3, km3⟩
  have Fm4 := fun_mk (st := sPair 4) lm4 cm4 km4
  have bm4 := Fm4.binds (ps := ["self", "other"]) fun _ _ _ _ _ _ us hl => match us, hl with | [_, _], _ => rfl
  have Mm4 : Meth K C "__mul__" fm4 := ⟨am4, im4, km4⟩
  have Fm8 := fun_mk (st := sPair 8) lm8 cm8 km8
  have bm8 := Fm8.binds (ps := ["self"]) fun _ _ _ _ _ _ us hl => match us, hl with | [_], _ => rfl
  have Mm8 : Meth K C "flipped" fm8 := ⟨am8, im8, km8⟩
  have Fm9 := fun_mk (st := sPair 9) lm9 cm9 km9
  have bm9 := Fm9.binds (ps := ["self", "power"]) fun _ _ _ _ _ _ us hl => match us, hl with | [_, _], _ => rfl
  have Mm9 : Meth K C "times_i" fm9 := ⟨am9, im9, km9⟩
  have Fm10 := fun_mk (st := sPair 10) lm10 cm10 km10
  have bm10 := Fm10.binds (ps := ["self"]) fun _ _ _ _ _ _ us hl => match us, hl with | [_], _ => rfl
  have Mm10 : Meth K C "is_primary" fm10 := ⟨am10, im10, km10⟩
  have Fm11 := fun_mk (st := sPair 11) lm11 cm11 km11
  have bm11 := Fm11.binds (ps := ["self", "by"]) fun _ _ _ _ _ _ us hl => match us, hl with | [_, _], _ => rfl
  have Mm11 : Meth K C "divided" fm11 := ⟨am11, im11, km11⟩
  have Fm13 := fun_mk (st := sPair 13) lm13 cm13 km13
  have bm13 := Fm13.binds (ps := ["self"]) fun _ _ _ _ _ _ us hl => match us, hl with | [_], _ => rfl
  have Mm13 : Meth K C "odd_part" fm13 := ⟨am13, im13, km13⟩
  have Fm14 := fun_mk (st := sPair 14) lm14 cm14 km14
  have bm14 := Fm14.binds (ps := ["self"]) fun _ _ _ _ _ _ us hl => match us, hl with | [_], _ => rfl
  have Mm14 : Meth K C "primary" fm14 := ⟨am14, im14, km14⟩
  have FP := fun_mk (st := sPaper) lP cP kP
  refine ⟨PySem.W.fnOf "law" "law" (defArgs (top 46)) (defBody (top 46)) (defScope (top 46)) .none kV46 dc46 pm46 an46 cd46 ct46, fun s v => .of_eq rfl, fun base _ _ => ?_⟩
  have d8 : Cal PySem.Challenge.pw_bendsigns_k47_whole_fourth_symbols_by_po w K mg base 1 "is_integer" spIsInt := ⟨f8, _, _, g8, k8, b8, ok_is_integer F8 B⟩
  have d9 : Cal PySem.Challenge.pw_bendsigns_k47_whole_fourth_symbols_by_po w K mg base 2 "is_within" spWithin := ⟨f9, _, _, g9, k9, b9, ok_within F9 d8⟩
  have d10 : Cal PySem.Challenge.pw_bendsigns_k47_whole_fourth_symbols_by_po w K mg base 3 "need_number" spNeed := ⟨f10, _, _, g10, k10, b10, ok_need F10 d9⟩
  have dC : CalC PySem.Challenge.pw_bendsigns_k47_whole_fourth_symbols_by_po w K mg base 4 "Pair" C (spInit C) := ⟨fm0, _, _, T.mg, ⟨mk, am0, im0, kc⟩, bm0, ok_init Fm0 T d10⟩
  have d16 : Cal PySem.Challenge.pw_bendsigns_k47_whole_fourth_symbols_by_po w K mg base 1 "need_pair" (spNeedPair C) := ⟨f16, _, _, g16, k16, b16, ok_need_pair F16 T B⟩
  have d17 : Cal PySem.Challenge.pw_bendsigns_k47_whole_fourth_symbols_by_po w K mg base 1 "nearest" spNear := ⟨f17, _, _, g17, k17, b17, ok_near F17⟩
  have dS : CalO PySem.Challenge.pw_bendsigns_k47_whole_fourth_symbols_by_po w K mg base 6 C .Sub (spBin C (· - ·)) := ⟨fm3, _, _, ⟨sf, am3, im3⟩, bm3, ok_sub Fm3 T dC⟩
  have dM : CalO PySem.Challenge.pw_bendsigns_k47_whole_fourth_symbols_by_po w K mg base 6 C .Mult (spBin C (· * ·)) := ⟨fm4, _, _, ⟨sf, am4, im4⟩, bm4, ok_mul Fm4 T dC⟩
  have dm8 : CalM PySem.Challenge.pw_bendsigns_k47_whole_fourth_symbols_by_po w K mg base 6 C "flipped" (spFlip C) := ⟨fm8, _, _, Mm8, bm8, ok_flip Fm8 T dC⟩
  have dm9 : CalM PySem.Challenge.pw_bendsigns_k47_whole_fourth_symbols_by_po w K mg base 6 C "times_i" (spTimes C) := ⟨fm9, _, _, Mm9, bm9, ok_times Fm9 T B d10 dC⟩
  have dm10 : CalM PySem.Challenge.pw_bendsigns_k47_whole_fourth_symbols_by_po w K mg base 1 C "is_primary" (spPrim C) := ⟨fm10, _, _, Mm10, bm10, ok_prim Fm10 T⟩
  have dm11 : CalM PySem.Challenge.pw_bendsigns_k47_whole_fourth_symbols_by_po w K mg base 7 C "divided" (spDiv C) := ⟨fm11, _, _, Mm11, bm11, ok_div Fm11 T d16 d17 dC dm8 dM dS⟩
  have dm13 : CalM PySem.Challenge.pw_bendsigns_k47_whole_fourth_symbols_by_po w K mg base 6 C "odd_part" (spOdd C) := ⟨fm13, _, _, Mm13, bm13, ok_odd Fm13 T dC⟩
  have dm14 : CalM PySem.Challenge.pw_bendsigns_k47_whole_fourth_symbols_by_po w K mg base 6 C "primary" (spPry C) := ⟨fm14, _, _, Mm14, bm14, ok_pry Fm14 T dC dm10⟩
  have d24 : Cal PySem.Challenge.pw_bendsigns_k47_whole_fourth_symbols_by_po w K mg base 2 "need_both" (spBoth C) := ⟨f24, _, _, g24, k24, b24, ok_both F24 T d16⟩
  have d25 : Cal PySem.Challenge.pw_bendsigns_k47_whole_fourth_symbols_by_po w K mg base 1 "numbers_of" (spNums C) := ⟨f25, _, _, g25, k25, b25, ok_nums F25 T⟩
  have d26 : Cal PySem.Challenge.pw_bendsigns_k47_whole_fourth_symbols_by_po w K mg base 1 "quarter" (spQuarter C) := ⟨f26, _, _, g26, k26, b26, ok_quarter F26 T⟩
  have d27 : Cal PySem.Challenge.pw_bendsigns_k47_whole_fourth_symbols_by_po w K mg base 2 "change_of" (spChange C) := ⟨f27, _, _, g27, k27, b27, ok_change F27 T d26⟩
  have d28 : Cal PySem.Challenge.pw_bendsigns_k47_whole_fourth_symbols_by_po w K mg base 7 "row_of" (spRow C) := ⟨f28, _, _, g28, k28, b28, ok_row F28 T dm13 dm14 d25 d27⟩
  have d29 : Cal PySem.Challenge.pw_bendsigns_k47_whole_fourth_symbols_by_po w K mg base 1 "value_of" (spValue C) := ⟨f29, _, _, g29, k29, b29, ok_value F29 T⟩
  have d20 : Cal PySem.Challenge.pw_bendsigns_k47_whole_fourth_symbols_by_po w K mg base 5 "fixed" (spFixed 4) := ⟨f20, _, _, g20, k20, b20, ok_fixed F20 B2 g20 b20 4⟩
  have S : SupF PySem.Challenge.pw_bendsigns_k47_whole_fourth_symbols_by_po K mg CF fF fP cc cda _ := ⟨⟨ocF, odF, .none, kVF, dcF, pmF, ctF, anF, slF, rfl, lF⟩, cF, ⟨r1, r2, r3, r4, r5, r6, rF, rV, rS⟩, ⟨e1, e2, e3, eF⟩, ⟨cdC, dF⟩, mF, Z _ z_super, oF, uF, tF, nF, by decide +kernel⟩
  have dF2 : CalC PySem.Challenge.pw_bendsigns_k47_whole_fourth_symbols_by_po w K mg base 7 "FourthSteps" CF (spFS CF) := ⟨fF, _, _, PySem.W.mg_of X G aF, ⟨mkF, aFi, iF, kcF⟩, .all (fun us hl => match us, hl with | [_, _, _], _ => rfl), ok_fs S TFS (ok_paper FP TFS d20)⟩
  have d30 : Cal PySem.Challenge.pw_bendsigns_k47_whole_fourth_symbols_by_po w K mg base 9 "fourth_steps" (spSteps C CF) := ⟨f30, _, _, g30, k30, b30, ok_steps F30 T d24 dm14 dm11 d28 d29 dF2⟩
  have d31 : Cal PySem.Challenge.pw_bendsigns_k47_whole_fourth_symbols_by_po w K mg base 10 "fourth_symbol" (spSym C) := ⟨f31, _, _, g31, k31, b31, ok_sym F31 TFS d30⟩
  have dK : CalK PySem.Challenge.pw_bendsigns_k47_whole_fourth_symbols_by_po w K mg base 10 "fourth_symbol" ["by", "number"] gNBV (spSym C) := ⟨f31, _, _, gNB, g31, k31, ⟨fun s us ws _ hl => match us, ws, hl with | [], [_, _], _ => .of_eq rfl, gNB_rel⟩, ok_sym F31 TFS d30⟩
  have d33 : Cal PySem.Challenge.pw_bendsigns_k47_whole_fourth_symbols_by_po w K mg base 1 "_law_pot" (spLPot K) := ⟨f33, _, _, g33, k33, b33, ok_lpot F33 B.int⟩
  have d34c : Cal PySem.Challenge.pw_bendsigns_k47_whole_fourth_symbols_by_po w K mg base 1 "_law_dip" spLDipC := ⟨f34, _, _, g34, k34, b34, ok_ldipc F34 B.int (Z _ z_len) (Z _ z_abs)⟩
  have d34 : Cal PySem.Challenge.pw_bendsigns_k47_whole_fourth_symbols_by_po w K mg base 1 "_law_dip" spLDip := ⟨f34, _, _, g34, k34, b34, ok_ldip (ok_ldipc F34 B.int (Z _ z_len) (Z _ z_abs))⟩
  have d35 : Cal PySem.Challenge.pw_bendsigns_k47_whole_fourth_symbols_by_po w K mg base 2 "_law_part" spLPart := ⟨f35, _, _, g35, k35, b35, ok_lpart F35 d34⟩
  have d36 : Cal PySem.Challenge.pw_bendsigns_k47_whole_fourth_symbols_by_po w K mg base 1 "_law_primes" spLPrimes := ⟨f36, _, _, g36, k36, b36, ok_lprimes F36 B.int B.range⟩
  have d37 : Cal PySem.Challenge.pw_bendsigns_k47_whole_fourth_symbols_by_po w K mg base 1 "_law_times" spLTimes := ⟨f37, _, _, g37, k37, b37, ok_ltimes F37⟩
  have d38 : Cal PySem.Challenge.pw_bendsigns_k47_whole_fourth_symbols_by_po w K mg base 1 "_law_norm" spLNorm := ⟨f38, _, _, g38, k38, b38, ok_lnorm F38⟩
  have d39 : Cal PySem.Challenge.pw_bendsigns_k47_whole_fourth_symbols_by_po w K mg base 2 "_law_rest" spLRest := ⟨f39, _, _, g39, k39, b39, ok_lrest F39 B.int d38 d37⟩
  have d40 : Cal PySem.Challenge.pw_bendsigns_k47_whole_fourth_symbols_by_po w K mg base 3 "_law_power_of_i" spLPow := ⟨f40, _, _, g40, k40, b40, ok_lpow F40 B.int B.range (Z _ z_enumerate) d39 d38 d37⟩
  have d41 : Cal PySem.Challenge.pw_bendsigns_k47_whole_fourth_symbols_by_po w K mg base 4 "_law_due" spLDue := ⟨f41, _, _, g41, k41, b41, ok_ldue F41 (Z _ z_sum) d40⟩
  have d42 : Cal PySem.Challenge.pw_bendsigns_k47_whole_fourth_symbols_by_po w K mg base 1 "_law_turned" spLTurned := ⟨f42, _, _, g42, k42, b42, ok_lturned F42 B.int⟩
  have d43 : Cal PySem.Challenge.pw_bendsigns_k47_whole_fourth_symbols_by_po w K mg base 11 "_law_told" spLTold := ⟨f43, _, _, g43, k43, b43, ok_ltold F43 d31 dC⟩
  have d44 : Cal PySem.Challenge.pw_bendsigns_k47_whole_fourth_symbols_by_po w K mg base 3 "_law_number" spLNumber := ⟨f44, _, _, g44, k44, b44, ok_lnumber F44 (Z _ z_len) d35 d34 d37⟩
  have R : SRF PySem.Challenge.pw_bendsigns_k47_whole_fourth_symbols_by_po w K mg base C := ⟨B.range, Z _ z_len, Z _ z_repr, Z _ z_sum, T.cl, d34, d34c, d37, d42, d44, d43, d41, dC, dm9, dK⟩
  have d45 : Cal PySem.Challenge.pw_bendsigns_k47_whole_fourth_symbols_by_po w K mg base 12 "_law_symbols_right" spSR := ⟨f45, _, _, g45, k45, b45, ok_sr F45 R⟩
  exact ok_law F46 B.range d33 d36 d45
theorem walk {l : PySem.W.OpenLaw} {q : Program} {loose : List Str} {XP : (Str → Option Value) → Heap → Prop} {YP : World → Heap → Prop} {d : DefRec} {K : Params → PySem.W.Frag} (hn : l.most = some 63) (hdf : d.params.defaults = [])
    (hY : ∀ (w : World) (h : Heap), YP w h → (K w.params).In h)
    (F : ∀ (w : World) (mg : Str → Option Value) (fa : Addr) (h : Heap), (K w.params).In h → h.Ns mainGlobals mg → mg d.name = some (.ref fa) →
      ∃ fd : FuncData, (∀ (s : Shared) (u : Value), BindsTo s fd ⟨[u], []⟩ [("_law_script", u)]) ∧ ∀ base : Heap, (K w.params).In base → base.Ns mainGlobals mg → FnOk l.prog w (K w.params) mg base CX0 13 fa fd ["_law_script"] (spLaw (K w.params))) :
    PySem.W.WalkO q loose XP YP l.row.toRowW d [] (fun f vs => PySem.call f vs) :=
  L2.walk_of (n := 63) (k := 13) (x := "_law_script") (CX := fun _ => CX0) (sp := fun w => spLaw (K w.params)) hn (by decide) hdf ⟨rfl, by decide, by decide⟩ hY F (fun _ _ a ns hl _ hS => ⟨a, ns, rfl, hS, hl, fun _ => rfl⟩) fun _ _ _ _ _ z => z
end Toy
/-! ## 3. The statement -/
open PySem PySem.W PyProof.Rows in
set_option maxRecDepth 100000 in
set_option maxHeartbeats 0 in
theorem PySem.Challenge.cw_bendsigns_k47_whole_fourth_symbols_by_po_holds : PySem.Challenge.rw_bendsigns_k47_whole_fourth_symbols_by_po.Holds := by
  w_on; o_law; k_head; (case hw => w_witness2)
  k_fill
  refine Toy.walk (l := PySem.Challenge.rw_bendsigns_k47_whole_fourth_symbols_by_po) rfl rfl (fun w h Y => PySem.W.kIn_of Y) ?F
  case F =>
    intro w mg fa h KX G hmg
    refine' Toy.all_mk KX G hmg ?a8 ?l8 ?c8 ?k8 ?a9 ?l9 ?c9 ?k9 ?a10 ?l10 ?c10 ?k10 ?a16 ?l16 ?c16 ?k16 ?a17 ?l17 ?c17 ?k17 ?a20 ?l20 ?c20 ?k20 ?a24 ?l24 ?c24 ?k24 ?a25 ?l25 ?c25 ?k25 ?a26 ?l26 ?c26 ?k26 ?a27 ?l27 ?c27 ?k27 ?a28 ?l28 ?c28 ?k28 ?a29 ?l29 ?c29 ?k29 ?a30 ?l30 ?c30 ?k30 ?a31 ?l31 ?c31 ?k31 ?a33 ?l33 ?c33 ?k33 ?a34 ?l34 ?c34 ?k34 ?a35 ?l35 ?c35 ?k35 ?a36 ?l36 ?c36 ?k36 ?a37 ?l37 ?c37 ?k37 ?a38 ?l38 ?c38 ?k38 ?a39 ?l39 ?c39 ?k39 ?a40 ?l40 ?c40 ?k40 ?a41 ?l41 ?c41 ?k41 ?a42 ?l42 ?c42 ?k42 ?a43 ?l43 ?c43 ?k43 ?a44 ?l44 ?c44 ?k44 ?a45 ?l45 ?c45 ?k45 ?a46 ?l46 ?c46 ?k46 ?aC ?am0 ?im0 ?lm0 ?cm0 ?km0 ?am3 ?im3 ?lm3 ?cm3 ?km3 ?am4 ?im4 ?lm4 ?cm4 ?km4 ?am8 ?im8 ?lm8 ?cm8 ?km8 ?am9 ?im9 ?lm9 ?cm9 ?km9 ?am10 ?im10 ?lm10 ?cm10 ?km10 ?am11 ?im11 ?lm11 ?cm11 ?km11 ?am13 ?im13 ?lm13 ?cm13 ?km13 ?am14 ?im14 ?lm14 ?cm14 ?km14 ?pg ?hd ?po ?sa ?mk ?kc ?n_one ?n_other ?n_norm ?sf ?ha ?hn ?htk ?hm ?own ?z_isinstance ?z_int ?z_bool ?z_range ?z_list ?z_tuple ?z_len ?z_abs ?z_repr ?z_sum ?z_enumerate ?z_super ?aF ?aP ?aPi ?lP ?cP ?kP ?aFi ?iF ?lF ?cF ?rF ?rV ?rS ?eF ?dF ?mF ?oF ?uF ?tF ?nF ?pgF ?hdF ?poF ?saF ?mkF ?kcF ?w_word ?w_parts ?w_rows ?w_value
    (case a8 => k_is)
    (case l8 => k_is)
    (case c8 => k_is)
    (case k8 => k_is)
    (case a9 => k_is)
    (case l9 => k_is)
    (case c9 => k_is)
    (case k9 => k_is)
    (case a10 => k_is)
    (case l10 => k_is)
    (case c10 => k_is)
    (case k10 => k_is)
    (case a16 => k_is)
    (case l16 => k_is)
    (case c16 => k_is)
    (case k16 => k_is)
    (case a17 => k_is)
    (case l17 => k_is)
    (case c17 => k_is)
    (case k17 => k_is)
    (case a20 => k_is)
    (case l20 => k_is)
    (case c20 => k_is)
    (case k20 => k_is)
    (case a24 => k_is)
    (case l24 => k_is)
    (case c24 => k_is)
    (case k24 => k_is)
    (case a25 => k_is)
    (case l25 => k_is)
    (case c25 => k_is)
    (case k25 => k_is)
    (case a26 => k_is)
    (case l26 => k_is)
    (case c26 => k_is)
    (case k26 => k_is)
    (case a27 => k_is)
    (case l27 => k_is)
    (case c27 => k_is)
    (case k27 => k_is)
    (case a28 => k_is)
    (case l28 => k_is)
    (case c28 => k_is)
    (case k28 => k_is)
    (case a29 => k_is)
    (case l29 => k_is)
    (case c29 => k_is)
    (case k29 => k_is)
    (case a30 => k_is)
    (case l30 => k_is)
    (case c30 => k_is)
    (case k30 => k_is)
    (case a31 => k_is)
    (case l31 => k_is)
    (case c31 => k_is)
    (case k31 => k_is)
    (case a33 => k_is)
    (case l33 => k_is)
    (case c33 => k_is)
    (case k33 => k_is)
    (case a34 => k_is)
    (case l34 => k_is)
    (case c34 => k_is)
    (case k34 => k_is)
    (case a35 => k_is)
    (case l35 => k_is)
    (case c35 => k_is)
    (case k35 => k_is)
    (case a36 => k_is)
    (case l36 => k_is)
    (case c36 => k_is)
    (case k36 => k_is)
    (case a37 => k_is)
    (case l37 => k_is)
    (case c37 => k_is)
    (case k37 => k_is)
    (case a38 => k_is)
    (case l38 => k_is)
    (case c38 => k_is)
    (case k38 => k_is)
    (case a39 => k_is)
    (case l39 => k_is)
    (case c39 => k_is)
    (case k39 => k_is)
    (case a40 => k_is)
    (case l40 => k_is)
    (case c40 => k_is)
    (case k40 => k_is)
    (case a41 => k_is)
    (case l41 => k_is)
    (case c41 => k_is)
    (case k41 => k_is)
    (case a42 => k_is)
    (case l42 => k_is)
    (case c42 => k_is)
    (case k42 => k_is)
    (case a43 => k_is)
    (case l43 => k_is)
    (case c43 => k_is)
    (case k43 => k_is)
    (case a44 => k_is)
    (case l44 => k_is)
    (case c44 => k_is)
    (case k44 => k_is)
    (case a45 => k_is)
    (case l45 => k_is)
    (case c45 => k_is)
    (case k45 => k_is)
    (case a46 => k_is)
    (case l46 => k_is)
    (case c46 => k_is)
    (case k46 => k_is)
    (case aC => k_is)
    (case am0 => k_is)
    (case im0 => k_is)
    (case lm0 => k_is)
    (case cm0 => k_is)
    (case km0 => k_is)
    (case am3 => k_is)
    (case im3 => k_is)
    (case lm3 => k_is)
    (case cm3 => k_is)
    (case km3 => k_is)
    (case am4 => k_is)
    (case im4 => k_is)
    (case lm4 => k_is)
    (case cm4 => k_is)
    (case km4 => k_is)
    (case am8 => k_is)
    (case im8 => k_is)
    (case lm8 => k_is)
    (case cm8 => k_is)
    (case km8 => k_is)
    (case am9 => k_is)
    (case im9 => k_is)
    (case lm9 => k_is)
    (case cm9 => k_is)
    (case km9 => k_is)
    (case am10 => k_is)
    (case im10 => k_is)
    (case lm10 => k_is)
    (case cm10 => k_is)
    (case km10 => k_is)
    (case am11 => k_is)
    (case im11 => k_is)
    (case lm11 => k_is)
    (case cm11 => k_is)
    (case km11 => k_is)
    (case am13 => k_is)
    (case im13 => k_is)
    (case lm13 => k_is)
    (case cm13 => k_is)
    (case km13 => k_is)
    (case am14 => k_is)
    (case im14 => k_is)
    (case lm14 => k_is)
    (case cm14 => k_is)
    (case km14 => k_is)
    (case pg => k_is)
    (case hd => k_is)
    (case po => k_is)
    (case sa => k_is)
    (case mk => k_is)
    (case kc => k_is)
    (case n_one => k_is)
    (case n_other => k_is)
    (case n_norm => k_is)
    (case sf => k_is)
    (case ha => k_is)
    (case hn => k_is)
    (case htk => k_is)
    (case hm => k_is)
    (case own => kernel_rfl)
    (case z_isinstance => k_is)
    (case z_int => k_is)
    (case z_bool => k_is)
    (case z_range => k_is)
    (case z_list => k_is)
    (case z_tuple => k_is)
    (case z_len => k_is)
    (case z_abs => k_is)
    (case z_repr => k_is)
    (case z_sum => k_is)
    (case z_enumerate => k_is)
    (case z_super => k_is)
    (case aF => k_is)
    (case aP => k_is)
    (case aPi => k_is)
    (case lP => k_is)
    (case cP => k_is)
    (case kP => k_is)
    (case aFi => k_is)
    (case iF => k_is)
    (case lF => k_is)
    (case cF => k_is)
    (case rF => k_is)
    (case rV => rfl)
    (case rS => decide +kernel)
    (case eF => k_is)
    (case dF => k_is)
    (case mF => k_is)
    (case oF => k_is)
    (case uF => kernel_rfl)
    (case tF => k_is)
    (case nF => k_is)
    (case pgF => k_is)
    (case hdF => k_is)
    (case poF => k_is)
    (case saF => k_is)
    (case mkF => k_is)
    (case kcF => k_is)
    (case w_word => k_is)
    (case w_parts => k_is)
    (case w_rows => k_is)
    (case w_value => k_is)
#print axioms PySem.Challenge.cw_bendsigns_k47_whole_fourth_symbols_by_po_holds

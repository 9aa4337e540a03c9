import PyProof.Rows.All
import Wide.All
import OpenK.AllK
import Wide.FinOn
import HandS.ForMost
import HandS.OwnEq
import KE.GoesMore
import HandS.Walk
import KE.KStateDown
import HandS.Codes
import HandS.Defaults
import HandS.WordsExc
import HandS.HeadHook1
import HandS.HeadHook2
import HandS.Wide
import HandS.Style
import HandS.Flow
import HandS.TupMul
import HandS.Star
import HandS.Conv
import HandS.IsInst
import HandS.TupAny
import HandS.Head0
import HandS.Head1
import HandS.Head2
import HandS.HeadEnd
import PySem.Challenge.RW_slopeworld_k12_whole_fractions_between
namespace Sw
def pk (s : Nat → Int) : Nat → Int
  | 0 => 1
  | 1 => 0
  | k + 2 => s k * pk s (k + 1) + pk s k
def qk (s : Nat → Int) : Nat → Int
  | 0 => 0
  | 1 => 1
  | k + 2 => s k * qk s (k + 1) + qk s k
theorem det_even (s : Nat → Int) (j : Nat) : pk s (2*j) * qk s (2*j+1) - pk s (2*j+1) * qk s (2*j) = 1 ∧ pk s (2*j+2) * qk s (2*j+1) - pk s (2*j+1) * qk s (2*j+2) = 1 := by
  induction j with
  | zero => simp [pk, qk]
  | succ j ih =>
    have e1 : pk s (2*(j+1)+1) = s (2*j+1) * pk s (2*j+2) + pk s (2*j+1) := rfl
    have e2 : qk s (2*(j+1)+1) = s (2*j+1) * qk s (2*j+2) + qk s (2*j+1) := rfl
    have e3 : pk s (2*(j+1)+2) = s (2*j+2) * pk s (2*(j+1)+1) + pk s (2*j+2) := rfl
    have e4 : qk s (2*(j+1)+2) = s (2*j+2) * qk s (2*(j+1)+1) + qk s (2*j+2) := rfl
    have e5 : pk s (2*(j+1)) = pk s (2*j+2) := rfl
    have e6 : qk s (2*(j+1)) = qk s (2*j+2) := rfl
    obtain ⟨_, h⟩ := ih
    constructor
    · rw [e5, e6, e1, e2]; grind
    · rw [e3, e4, e1, e2]; grind
/-- positive sequence -/
def PosQ (s : Nat → Int) : Prop := ∀ k, 1 ≤ s k
theorem qk_pos {s : Nat → Int} (h : PosQ s) (k : Nat) : 1 ≤ qk s (k+1) ∧ 0 ≤ qk s k := by
  induction k with
  | zero => simp [qk]
  | succ k ih =>
    obtain ⟨h1, h2⟩ := ih
    have := h k
    have e : qk s (k+1+1) = s k * qk s (k+1) + qk s k := rfl
    refine ⟨?_, by omega⟩
    rw [e]
    have : 1 * 1 ≤ s k * qk s (k+1) := Int.mul_le_mul this h1 (by decide) (by omega)
    omega
theorem cross {a b c d u v : Int} (h : c * b - a * d = 1) (hb : 0 ≤ b) (hd : 0 ≤ d) (h1 : a * v < u * b) (h2 : u * d < c * v) : b + d ≤ v := by
  have e : v = b * (c * v - u * d) + d * (u * b - a * v) := by grind
  have h3 : b * 1 ≤ b * (c * v - u * d) := Int.mul_le_mul_of_nonneg_left (by omega) hb
  have h4 : d * 1 ≤ d * (u * b - a * v) := Int.mul_le_mul_of_nonneg_left (by omega) hd
  omega

theorem frac_lt {a b c d e f : Int} (hb : 0 < b) (hd : 0 < d) (hf : 0 < f) (h1 : a * d ≤ c * b) (h2 : c * f < e * d) : a * f < e * b := by
  have k1 : a * d * f ≤ c * b * f := Int.mul_le_mul_of_nonneg_right h1 (by omega)
  have k2 : c * f * b < e * d * b := Int.mul_lt_mul_of_pos_right h2 hb
  have k3 : a * f * d < e * b * d := by grind
  exact Int.lt_of_mul_lt_mul_right k3 (by omega)
theorem frac_lt' {a b c d e f : Int} (hb : 0 < b) (hd : 0 < d) (hf : 0 < f) (h1 : a * d < c * b) (h2 : c * f ≤ e * d) : a * f < e * b := by
  have k1 : a * d * f < c * b * f := Int.mul_lt_mul_of_pos_right h1 hf
  have k2 : c * f * b ≤ e * d * b := Int.mul_le_mul_of_nonneg_right h2 (by omega)
  have k3 : a * f * d < e * b * d := by grind
  exact Int.lt_of_mul_lt_mul_right k3 (by omega)
theorem frac_le {a b c d e f : Int} (hb : 0 < b) (hd : 0 < d) (hf : 0 < f) (h1 : a * d ≤ c * b) (h2 : c * f ≤ e * d) : a * f ≤ e * b := by
  have k1 : a * d * f ≤ c * b * f := Int.mul_le_mul_of_nonneg_right h1 (by omega)
  have k2 : c * f * b ≤ e * d * b := Int.mul_le_mul_of_nonneg_right h2 (by omega)
  have k3 : a * f * d ≤ e * b * d := by grind
  exact Int.le_of_mul_le_mul_right k3 hd
/-- u / v is below the slope, above it -/
def Lo (s : Nat → Int) (u v : Int) : Prop := ∃ j : Nat, u * qk s (2 * j + 1) ≤ pk s (2 * j + 1) * v
def Hi (s : Nat → Int) (u v : Int) : Prop := ∃ j : Nat, pk s (2 * j + 2) * v ≤ u * qk s (2 * j + 2)
theorem q_pos {s : Nat → Int} (h : PosQ s) (k : Nat) : 0 < qk s (k + 1) := by have := (qk_pos h k).1; omega
theorem low_up {s : Nat → Int} (h : PosQ s) (j : Nat) : pk s (2 * j + 1) * qk s (2 * (j + 1) + 1) ≤ pk s (2 * (j + 1) + 1) * qk s (2 * j + 1) := by
  have e1 : pk s (2*(j+1)+1) = s (2*j+1) * pk s (2*j+2) + pk s (2*j+1) := rfl
  have e2 : qk s (2*(j+1)+1) = s (2*j+1) * qk s (2*j+2) + qk s (2*j+1) := rfl
  have d := (det_even s j).2
  have p := h (2*j+1)
  rw [e1, e2]
  have : (s (2*j+1) * pk s (2*j+2) + pk s (2*j+1)) * qk s (2*j+1) - pk s (2*j+1) * (s (2*j+1) * qk s (2*j+2) + qk s (2*j+1)) = s (2*j+1) := by grind
  omega
theorem high_down {s : Nat → Int} (h : PosQ s) (j : Nat) : pk s (2 * (j + 1) + 2) * qk s (2 * j + 2) ≤ pk s (2 * j + 2) * qk s (2 * (j + 1) + 2) := by
  have e1 : pk s (2*(j+1)+2) = s (2*j+2) * pk s (2*(j+1)+1) + pk s (2*j+2) := rfl
  have e2 : qk s (2*(j+1)+2) = s (2*j+2) * qk s (2*(j+1)+1) + qk s (2*j+2) := rfl
  have d := (det_even s (j+1)).1
  have e5 : pk s (2*(j+1)) = pk s (2*j+2) := rfl
  have e6 : qk s (2*(j+1)) = qk s (2*j+2) := rfl
  have p := h (2*j+2)
  rw [e1, e2]
  rw [e5, e6] at d
  have : pk s (2 * j + 2) * (s (2*j+2) * qk s (2*(j+1)+1) + qk s (2*j+2)) - (s (2*j+2) * pk s (2*(j+1)+1) + pk s (2*j+2)) * qk s (2*j+2) = s (2*j+2) := by grind
  omega
theorem low_mono {s : Nat → Int} (h : PosQ s) (i d : Nat) : pk s (2 * i + 1) * qk s (2 * (i + d) + 1) ≤ pk s (2 * (i + d) + 1) * qk s (2 * i + 1) := by
  induction d with
  | zero => exact Int.le_refl _
  | succ d ih => exact frac_le (q_pos h _) (q_pos h (2 * (i + d))) (q_pos h _) ih (low_up h (i + d))
theorem high_mono {s : Nat → Int} (h : PosQ s) (i d : Nat) : pk s (2 * (i + d) + 2) * qk s (2 * i + 2) ≤ pk s (2 * i + 2) * qk s (2 * (i + d) + 2) := by
  induction d with
  | zero => exact Int.le_refl _
  | succ d ih => exact frac_le (q_pos h _) (q_pos h (2 * (i + d) + 1)) (q_pos h _) (high_down h (i + d)) ih
theorem sep {s : Nat → Int} (h : PosQ s) (i j : Nat) : pk s (2 * i + 1) * qk s (2 * j + 2) < pk s (2 * j + 2) * qk s (2 * i + 1) := by
  rcases Nat.le_total i j with hij | hij
  · obtain ⟨d, rfl⟩ := Nat.exists_eq_add_of_le hij
    have e : pk s (2 * (i + d) + 1) * qk s (2 * (i + d) + 2) < pk s (2 * (i + d) + 2) * qk s (2 * (i + d) + 1) := by have := (det_even s (i + d)).2; omega
    exact frac_lt (q_pos h _) (q_pos h (2 * (i + d))) (q_pos h _) (low_mono h i d) e
  · obtain ⟨d, rfl⟩ := Nat.exists_eq_add_of_le hij
    have e : pk s (2 * (j + d) + 1) * qk s (2 * (j + d) + 2) < pk s (2 * (j + d) + 2) * qk s (2 * (j + d) + 1) := by have := (det_even s (j + d)).2; omega
    exact frac_lt' (q_pos h _) (q_pos h (2 * (j + d) + 1)) (q_pos h _) e (high_mono h j d)
theorem lo_hi {s : Nat → Int} (h : PosQ s) {u v u' v' : Int} (hv : 0 < v) (hv' : 0 < v') (a : Lo s u v) (b : Hi s u' v') : u * v' < u' * v := by
  obtain ⟨i, a⟩ := a
  obtain ⟨j, b⟩ := b
  exact frac_lt hv (q_pos h (2 * i)) hv' a (frac_lt' (q_pos h _) (q_pos h (2 * j + 1)) hv' (sep h i j) b)
theorem lo_mono {s : Nat → Int} (h : PosQ s) {u v u' v' : Int} (hv : 0 < v) (hv' : 0 < v') (a : Lo s u v) (k : u' * v ≤ u * v') : Lo s u' v' := by
  obtain ⟨i, a⟩ := a
  exact ⟨i, frac_le hv' hv (q_pos h _) k a⟩
theorem hi_mono {s : Nat → Int} (h : PosQ s) {u v u' v' : Int} (hv : 0 < v) (hv' : 0 < v') (a : Hi s u v) (k : u * v' ≤ u' * v) : Hi s u' v' := by
  obtain ⟨i, a⟩ := a
  exact ⟨i, frac_le (q_pos h _) hv hv' a k⟩
theorem qk_two {s : Nat → Int} (h : PosQ s) (k : Nat) : qk s (k + 1) + qk s k ≤ qk s (k + 2) := by
  have e : qk s (k+2) = s k * qk s (k+1) + qk s k := rfl
  have := (qk_pos h k).1
  have : 1 * qk s (k+1) ≤ s k * qk s (k+1) := Int.mul_le_mul_of_nonneg_right (h k) (by omega)
  rw [e]; omega
theorem qk_mono {s : Nat → Int} (h : PosQ s) (k : Nat) : qk s (k + 1) ≤ qk s (k + 2) := by
  have := qk_two h k
  have := (qk_pos h k).2
  omega
theorem qk_grow {s : Nat → Int} (h : PosQ s) (j : Nat) : (2:Int) ^ j ≤ qk s (2 * j + 1) := by
  induction j with
  | zero => simp [qk]
  | succ j ih =>
    have a := qk_two h (2*j+1)
    have b := qk_mono h (2*j)
    have e : 2 * (j+1) + 1 = 2*j+1+2 := by omega
    rw [e, Int.pow_succ]
    have e2 : 2 * j + 1 + 1 = 2 * j + 2 := by omega
    rw [e2] at a
    omega
theorem two_pow_gt (m : Nat) : (m : Int) < 2 ^ m := by
  have := @Nat.lt_two_pow_self m
  have h2 : ((2 ^ m : Nat) : Int) = (2:Int) ^ m := by simp
  omega
/-- the whole part of m times the slope -/
def IsFl (s : Nat → Int) (m W : Int) : Prop := Lo s W m ∧ Hi s (W + 1) m
theorem fl_below {s : Nat → Int} (h : PosQ s) (j : Nat) {v : Int} (_hv : 1 ≤ v) (hq : v < qk s (2 * j + 1)) : IsFl s v (v * pk s (2 * j + 1) / qk s (2 * j + 1)) := by
  have qp := q_pos h (2 * j)
  have e0 : v * pk s (2*j+1) = pk s (2*j+1) * v := Int.mul_comm _ _
  have e1 := Int.ediv_mul_le (v * pk s (2 * j + 1)) (Int.ne_of_gt qp)
  have e2 := Int.lt_ediv_add_one_mul_self (v * pk s (2 * j + 1)) qp
  refine ⟨⟨j, by omega⟩, j, ?_⟩
  refine Int.not_lt.mp fun k => ?_
  have q2 : 0 < qk s (2*j+2) := q_pos h (2*j+1)
  have := cross (det_even s j).2 (Int.le_of_lt qp) (Int.le_of_lt q2) (u := v * pk s (2 * j + 1) / qk s (2 * j + 1) + 1) (v := v) (by omega) k
  omega
theorem fl_uniq {s : Nat → Int} (h : PosQ s) {m W W' : Int} (hm : 1 ≤ m) (a : IsFl s m W) (b : IsFl s m W') : W = W' := by
  have k1 := lo_hi h (by omega) (by omega) a.1 b.2
  have k2 := lo_hi h (by omega) (by omega) b.1 a.2
  have k3 := Int.lt_of_mul_lt_mul_right k1 (by omega)
  have k4 := Int.lt_of_mul_lt_mul_right k2 (by omega)
  omega
theorem fl_ex {s : Nat → Int} (h : PosQ s) {m : Int} (hm : 1 ≤ m) : ∃ W, IsFl s m W := by
  have a := qk_grow h m.toNat
  have b := two_pow_gt m.toNat
  exact ⟨_, fl_below h m.toNat hm (by omega)⟩
theorem lo_or_hi {s : Nat → Int} (h : PosQ s) (u : Int) {v : Int} (hv : 1 ≤ v) : Lo s u v ∨ Hi s u v := by
  obtain ⟨W, a, b⟩ := fl_ex h hv
  rcases Int.lt_or_le W u with k | k
  · exact .inr (hi_mono h (by omega) (by omega) b (Int.mul_le_mul_of_nonneg_right (by omega) (by omega)))
  · exact .inl (lo_mono h (by omega) (by omega) a (Int.mul_le_mul_of_nonneg_right (by omega) (by omega)))
/-! ### fractions between -/
structure Btw (s t : Nat → Int) (p q : Int) : Prop where
  q1 : 1 ≤ q
  hi : Hi s p q
  lo : Lo t p q
  lo1 : Lo s (p - 1) q
  hi1 : Hi t (p + 1) q
  least : ∀ u v : Int, 1 ≤ v → Hi s u v → Lo t u v → q ≤ v
theorem btw_mk {s t : Nat → Int} (hs : PosQ s) (ht : PosQ t) {a b c d : Int} (hb : 1 ≤ b) (hd : 1 ≤ d) (k : c * b - a * d = 1) (l : Lo s a b) (u : Hi t c d) (h1 : Hi s (a + c) (b + d)) (h2 : Lo t (a + c) (b + d)) : Btw s t (a + c) (b + d) := by
  refine ⟨by omega, h1, h2, lo_mono hs (by omega) (by omega) l ?_, hi_mono ht (by omega) (by omega) u ?_, fun x y hy k1 k2 => ?_⟩
  · have : a * (b + d) - (a + c - 1) * b = b - 1 := by grind
    omega
  · have : (a + c + 1) * d - c * (b + d) = d - 1 := by grind
    omega
  · exact cross k (by omega) (by omega) (lo_hi hs (by omega) (by omega) l k1) (lo_hi ht (by omega) (by omega) k2 u)
theorem semi_even_hi (s : Nat → Int) (j : Nat) {c : Int} (hc : c ≤ s (2*j)) : Hi s (c * pk s (2*j+1) + pk s (2*j)) (c * qk s (2*j+1) + qk s (2*j)) := by
  refine ⟨j, ?_⟩
  have e1 : pk s (2*j+2) = s (2*j) * pk s (2*j+1) + pk s (2*j) := rfl
  have e2 : qk s (2*j+2) = s (2*j) * qk s (2*j+1) + qk s (2*j) := rfl
  have d := (det_even s j).1
  rw [e1, e2]
  have : (c * pk s (2*j+1) + pk s (2*j)) * (s (2*j) * qk s (2*j+1) + qk s (2*j)) - (s (2*j) * pk s (2*j+1) + pk s (2*j)) * (c * qk s (2*j+1) + qk s (2*j)) = s (2*j) - c := by grind
  omega
theorem semi_even_lo {s : Nat → Int} (h : PosQ s) (j : Nat) {c : Int} (hc : s (2*j) + 1 ≤ c) : Lo s (c * pk s (2*j+1) + pk s (2*j)) (c * qk s (2*j+1) + qk s (2*j)) := by
  refine ⟨j + 1, ?_⟩
  have e1 : pk s (2*(j+1)+1) = s (2*j+1) * (s (2*j) * pk s (2*j+1) + pk s (2*j)) + pk s (2*j+1) := rfl
  have e2 : qk s (2*(j+1)+1) = s (2*j+1) * (s (2*j) * qk s (2*j+1) + qk s (2*j)) + qk s (2*j+1) := rfl
  have d := (det_even s j).1
  have p := h (2*j+1)
  rw [e1, e2]
  have : (s (2*j+1) * (s (2*j) * pk s (2*j+1) + pk s (2*j)) + pk s (2*j+1)) * (c * qk s (2*j+1) + qk s (2*j)) - (c * pk s (2*j+1) + pk s (2*j)) * (s (2*j+1) * (s (2*j) * qk s (2*j+1) + qk s (2*j)) + qk s (2*j+1)) = s (2*j+1) * (c - s (2*j)) - 1 := by grind
  have : 1 * 1 ≤ s (2*j+1) * (c - s (2*j)) := Int.mul_le_mul p (by omega) (by decide) (by omega)
  omega
theorem semi_odd_lo (s : Nat → Int) (j : Nat) {c : Int} (hc : c ≤ s (2*j+1)) : Lo s (c * pk s (2*j+2) + pk s (2*j+1)) (c * qk s (2*j+2) + qk s (2*j+1)) := by
  refine ⟨j + 1, ?_⟩
  have e1 : pk s (2*(j+1)+1) = s (2*j+1) * pk s (2*j+2) + pk s (2*j+1) := rfl
  have e2 : qk s (2*(j+1)+1) = s (2*j+1) * qk s (2*j+2) + qk s (2*j+1) := rfl
  have d := (det_even s j).2
  rw [e1, e2]
  have : (s (2*j+1) * pk s (2*j+2) + pk s (2*j+1)) * (c * qk s (2*j+2) + qk s (2*j+1)) - (c * pk s (2*j+2) + pk s (2*j+1)) * (s (2*j+1) * qk s (2*j+2) + qk s (2*j+1)) = s (2*j+1) - c := by grind
  omega
theorem semi_odd_hi {s : Nat → Int} (h : PosQ s) (j : Nat) {c : Int} (hc : s (2*j+1) + 1 ≤ c) : Hi s (c * pk s (2*j+2) + pk s (2*j+1)) (c * qk s (2*j+2) + qk s (2*j+1)) := by
  refine ⟨j + 1, ?_⟩
  have e1 : pk s (2*(j+1)+2) = s (2*j+2) * (s (2*j+1) * pk s (2*j+2) + pk s (2*j+1)) + pk s (2*j+2) := rfl
  have e2 : qk s (2*(j+1)+2) = s (2*j+2) * (s (2*j+1) * qk s (2*j+2) + qk s (2*j+1)) + qk s (2*j+2) := rfl
  have d := (det_even s j).2
  have p := h (2*j+2)
  rw [e1, e2]
  have : (c * pk s (2*j+2) + pk s (2*j+1)) * (s (2*j+2) * (s (2*j+1) * qk s (2*j+2) + qk s (2*j+1)) + qk s (2*j+2)) - (s (2*j+2) * (s (2*j+1) * pk s (2*j+2) + pk s (2*j+1)) + pk s (2*j+2)) * (c * qk s (2*j+2) + qk s (2*j+1)) = s (2*j+2) * (c - s (2*j+1)) - 1 := by grind
  have : 1 * 1 ≤ s (2*j+2) * (c - s (2*j+1)) := Int.mul_le_mul p (by omega) (by decide) (by omega)
  omega
theorem pk_congr {s t : Nat → Int} (n : Nat) (h : ∀ k, k < n → s k = t k) : pk s (n + 1) = pk t (n + 1) ∧ pk s n = pk t n ∧ qk s (n + 1) = qk t (n + 1) ∧ qk s n = qk t n := by
  induction n with
  | zero => exact ⟨rfl, rfl, rfl, rfl⟩
  | succ n ih =>
    obtain ⟨a, b, c, d⟩ := ih fun k hk => h k (by omega)
    have e := h n (by omega)
    refine ⟨?_, a, ?_, c⟩
    · show s n * pk s (n+1) + pk s n = t n * pk t (n+1) + pk t n
      rw [a, b, e]
    · show s n * qk s (n+1) + qk s n = t n * qk t (n+1) + qk t n
      rw [c, d, e]
/-- the first unlike part: which is less -/
def Less (s t : Nat → Int) (n : Nat) : Prop := (∀ k, k < n → s k = t k) ∧ (if n % 2 = 0 then t n < s n else s n < t n)
theorem btw_of {s t : Nat → Int} (hs : PosQ s) (ht : PosQ t) {n : Nat} (h : Less s t n) : Btw s t ((min (s n) (t n) + 1) * pk s (n + 1) + pk s n) ((min (s n) (t n) + 1) * qk s (n + 1) + qk s n) := by
  obtain ⟨h1, h2⟩ := h
  obtain ⟨ea, eb, ec, ed⟩ := pk_congr n h1
  have q1 := qk_pos hs n
  by_cases hn : n % 2 = 0
  · rw [if_pos hn] at h2
    obtain ⟨j, rfl⟩ : ∃ j, n = 2 * j := ⟨n / 2, by omega⟩
    have em : min (s (2*j)) (t (2*j)) = t (2*j) := by omega
    rw [em]
    have t1 := ht (2*j)
    have d := (det_even s j).1
    have hF : 1 * 1 ≤ t (2*j) * qk s (2*j+1) := Int.mul_le_mul t1 q1.1 (by decide) (by omega)
    have r := btw_mk hs ht (a := pk s (2*j+1)) (b := qk s (2*j+1)) (c := t (2*j) * pk s (2*j+1) + pk s (2*j)) (d := t (2*j) * qk s (2*j+1) + qk s (2*j)) q1.1 (by omega) (by grind) ⟨j, Int.le_refl _⟩
      (by rw [ea, eb, ec, ed]; exact semi_even_hi t j (Int.le_refl _))
    have e1 : (t (2*j) + 1) * pk s (2*j+1) + pk s (2*j) = pk s (2*j+1) + (t (2*j) * pk s (2*j+1) + pk s (2*j)) := by grind
    have e2 : (t (2*j) + 1) * qk s (2*j+1) + qk s (2*j) = qk s (2*j+1) + (t (2*j) * qk s (2*j+1) + qk s (2*j)) := by grind
    rw [← e1, ← e2] at r
    exact r (semi_even_hi s j (by omega)) (by rw [ea, eb, ec, ed]; exact semi_even_lo ht j (Int.le_refl _))
  · rw [if_neg hn] at h2
    obtain ⟨j, rfl⟩ : ∃ j, n = 2 * j + 1 := ⟨n / 2, by omega⟩
    have em : min (s (2*j+1)) (t (2*j+1)) = s (2*j+1) := by omega
    rw [em]
    have t1 := hs (2*j+1)
    have d := (det_even s j).2
    have e12 : 2 * j + 1 + 1 = 2 * j + 2 := rfl
    rw [e12] at *
    have hF : 1 * 1 ≤ s (2*j+1) * qk s (2*j+2) := Int.mul_le_mul t1 q1.1 (by decide) (by omega)
    have r := btw_mk hs ht (c := pk s (2*j+2)) (d := qk s (2*j+2)) (a := s (2*j+1) * pk s (2*j+2) + pk s (2*j+1)) (b := s (2*j+1) * qk s (2*j+2) + qk s (2*j+1)) (by omega) q1.1 (by grind)
      (semi_odd_lo s j (Int.le_refl _)) (by rw [ea, ec]; exact ⟨j, Int.le_refl _⟩)
    have e1 : (s (2*j+1) + 1) * pk s (2*j+2) + pk s (2*j+1) = (s (2*j+1) * pk s (2*j+2) + pk s (2*j+1)) + pk s (2*j+2) := by grind
    have e2 : (s (2*j+1) + 1) * qk s (2*j+2) + qk s (2*j+1) = (s (2*j+1) * qk s (2*j+2) + qk s (2*j+1)) + qk s (2*j+2) := by grind
    rw [← e1, ← e2] at r
    exact r (semi_odd_hi hs j (Int.le_refl _)) (by rw [ea, eb, ec, ed]; exact semi_odd_lo t j (by omega))
theorem Btw.fl {s t : Nat → Int} {p q : Int} (b : Btw s t p q) : IsFl s q (p - 1) ∧ IsFl t q p :=
  ⟨⟨b.lo1, by rw [show p - 1 + 1 = p by omega]; exact b.hi⟩, b.lo, b.hi1⟩
/-- one slope is less than another -/
def SLt (s t : Nat → Int) : Prop := ∃ p q : Int, 1 ≤ q ∧ Hi s p q ∧ Lo t p q
theorem Btw.lt {s t : Nat → Int} {p q : Int} (b : Btw s t p q) : SLt s t := ⟨p, q, b.q1, b.hi, b.lo⟩
theorem SLt.lo {s t : Nat → Int} (hs : PosQ s) (ht : PosQ t) (h : SLt s t) {u v : Int} (hv : 1 ≤ v) (k : Lo s u v) : Lo t u v := by
  obtain ⟨p, q, hq, a, b⟩ := h
  have := lo_hi hs (by omega) (by omega) k a
  exact lo_mono ht (by omega) (by omega) b (by omega)
theorem SLt.hi {s t : Nat → Int} (hs : PosQ s) (ht : PosQ t) (h : SLt s t) {u v : Int} (hv : 1 ≤ v) (k : Hi t u v) : Hi s u v := by
  obtain ⟨p, q, hq, a, b⟩ := h
  have := lo_hi ht (by omega) (by omega) b k
  exact hi_mono hs (by omega) (by omega) a (by omega)
theorem SLt.trans {s t r : Nat → Int} (_hs : PosQ s) (ht : PosQ t) (hr : PosQ r) (h : SLt s t) (k : SLt t r) : SLt s r := by
  obtain ⟨p, q, hq, a, b⟩ := h
  exact ⟨p, q, hq, a, k.lo ht hr hq b⟩
theorem SLt.asymm {s t : Nat → Int} (hs : PosQ s) (ht : PosQ t) (h : SLt s t) (k : SLt t s) : False := by
  obtain ⟨p, q, hq, a, b⟩ := h
  have := lo_hi hs (by omega) (by omega) (k.lo ht hs hq b) a
  omega
theorem Btw.same {s t : Nat → Int} (hs : PosQ s) (ht : PosQ t) {p q k W W' : Int} (b : Btw s t p q) (hk : 1 ≤ k) (hkq : k < q) (a : IsFl s k W) (a' : IsFl t k W') : W = W' := by
  refine fl_uniq ht hk ⟨b.lt.lo hs ht hk a.1, ?_⟩ a'
  rcases lo_or_hi ht (W + 1) hk with x | x
  · have := b.least _ _ hk a.2 x
    omega
  · exact x
theorem Btw.uniq {s t : Nat → Int} (ht : PosQ t) {p q p' q' : Int} (b : Btw s t p q) (b' : Btw s t p' q') : p = p' ∧ q = q' := by
  have h1 := b.least _ _ b'.q1 b'.hi b'.lo
  have h2 := b'.least _ _ b.q1 b.hi b.lo
  have e : q = q' := by omega
  subst e
  exact ⟨fl_uniq ht b.q1 b.fl.2 b'.fl.2, rfl⟩
theorem Btw.three {r s t : Nat → Int} (hr : PosQ r) (hs : PosQ s) (ht : PosQ t) {p q p' q' p2 q2 : Int} (a : Btw r s p q) (b : Btw s t p' q') (c : Btw r t p2 q2) : min q q' = q2 := by
  have h1 := c.least _ _ a.q1 a.hi (b.lt.lo hs ht a.q1 a.lo)
  have h2 := c.least _ _ b.q1 (a.lt.hi hr hs b.q1 b.hi) b.lo
  rcases lo_or_hi hs p2 c.q1 with x | x
  · have := a.least _ _ c.q1 c.hi x
    omega
  · have := b.least _ _ c.q1 x c.lo
    omega
theorem side_above {s : Nat → Int} (h : PosQ s) (i : Nat) {m bound u v : Int} (hm : 0 ≤ m) (hb : bound < qk s (2*i) + m * qk s (2*i+1) + qk s (2*i+1)) (hv : 1 ≤ v) (hvb : v ≤ bound) (k : Hi s u v) :
    (pk s (2*i) + m * pk s (2*i+1)) * v ≤ u * (qk s (2*i) + m * qk s (2*i+1)) := by
  refine Int.not_lt.mp fun n => ?_
  have q1 := qk_pos h (2*i)
  have d := (det_even s i).1
  have hm2 : 0 ≤ m * qk s (2*i+1) := Int.mul_nonneg hm (by omega)
  have e := lo_hi h (q_pos h (2*i)) (show 0 < v by omega) ⟨i, Int.le_refl _⟩ k
  have := cross (a := pk s (2*i+1)) (b := qk s (2*i+1)) (c := pk s (2*i) + m * pk s (2*i+1)) (d := qk s (2*i) + m * qk s (2*i+1)) (by grind) (by omega) (by omega) e n
  omega
theorem side_below {s : Nat → Int} (h : PosQ s) (i : Nat) {m bound u v : Int} (hm : 0 ≤ m) (hb : bound < qk s (2*i+1) + m * qk s (2*i+2) + qk s (2*i+2)) (hv : 1 ≤ v) (hvb : v ≤ bound) (k : Lo s u v) :
    u * (qk s (2*i+1) + m * qk s (2*i+2)) ≤ (pk s (2*i+1) + m * pk s (2*i+2)) * v := by
  refine Int.not_lt.mp fun n => ?_
  have q1 := qk_pos h (2*i+1)
  have e12 : 2 * i + 1 + 1 = 2 * i + 2 := rfl
  rw [e12] at q1
  have d := (det_even s i).2
  have hm2 : 0 ≤ m * qk s (2*i+2) := Int.mul_nonneg hm (by omega)
  have e := lo_hi h (show 0 < v by omega) (q_pos h (2*i+1)) k ⟨i, Int.le_refl _⟩
  have := cross (c := pk s (2*i+2)) (d := qk s (2*i+2)) (a := pk s (2*i+1) + m * pk s (2*i+2)) (b := qk s (2*i+1) + m * qk s (2*i+2)) (by grind) (by omega) (by omega) n e
  omega
end Sw
namespace Sw
/-- the parts of a slope, from number 0 on -/
def sq (lead loop : List Int) (k : Nat) : Int :=
  if k < lead.length then lead.getD k 1 else loop.getD ((k - lead.length) % loop.length) 1
/-- parts are from 1 to 20 -/
def Parts (xs : List Int) : Prop := ∀ x, x ∈ xs → 1 ≤ x ∧ x ≤ 20
theorem getD_parts {xs : List Int} (h : Parts xs) (k : Nat) : 1 ≤ xs.getD k 1 ∧ xs.getD k 1 ≤ 20 := by
  rw [List.getD_eq_getElem?_getD]
  cases e : xs[k]? with
  | none => simp
  | some x => exact h x (List.mem_of_getElem? e)
theorem sq_parts {a b : List Int} (ha : Parts a) (hb : Parts b) (k : Nat) : 1 ≤ sq a b k ∧ sq a b k ≤ 20 := by
  unfold sq
  split
  · exact getD_parts ha k
  · exact getD_parts hb _
theorem sq_pos {a b : List Int} (ha : Parts a) (hb : Parts b) : PosQ (sq a b) := fun k => (sq_parts ha hb k).1
theorem sq_per {a b : List Int} {n : Nat} (hn : a.length ≤ n) : sq a b (n + b.length) = sq a b n := by
  unfold sq
  rw [if_neg (by omega), if_neg (by omega)]
  congr 1
  rw [show n + b.length - a.length = n - a.length + b.length by omega, Nat.add_mod_right]
/-- from l on the sequence has the period d -/
def Per (s : Nat → Int) (l d : Nat) : Prop := ∀ n, l ≤ n → s (n + d) = s n
theorem Per.mul {s : Nat → Int} {l d : Nat} (h : Per s l d) (k : Nat) : Per s l (k * d) := by
  induction k with
  | zero => intro n _; simp
  | succ k ih =>
    intro n hn
    rw [Nat.succ_mul, ← Nat.add_assoc, h (n + k * d) (by omega), ih n hn]
theorem Per.sub {s : Nat → Int} {l a b : Nat} (h : Per s l a) (k : Per s l b) (hab : a ≤ b) : Per s l (b - a) := by
  intro n hn
  rw [← h (n + (b - a)) (by omega), show n + (b - a) + a = n + b by omega, k n hn]
theorem Per.mod {s : Nat → Int} {l a b : Nat} (h : Per s l a) (k : Per s l b) : Per s l (b % a) := by
  have e : b % a = b - (b / a) * a := by
    have := Nat.div_add_mod b a
    rw [Nat.mul_comm] at this
    omega
  rw [e]
  exact (h.mul (b / a)).sub k (by have := Nat.div_mul_le_self b a; omega)
theorem Per.gcd {s : Nat → Int} {l a b : Nat} (h : Per s l a) (k : Per s l b) : Per s l (Nat.gcd a b) := by
  induction a, b using Nat.gcd.induction with
  | H0 b => rw [Nat.gcd_zero_left]; exact k
  | H1 a b ha ih =>
    rw [Nat.gcd_rec]
    exact ih (h.mod k) h
/-- a period further on is one from where the loop begins -/
theorem Per.back {s : Nat → Int} {l l' p d : Nat} (hp : 0 < p) (h : Per s l p) (k : Per s l' d) : Per s l d := by
  intro n hn
  have e1 := h.mul l' n hn
  have e2 := h.mul l' (n + d) (by omega)
  have : l' ≤ n + l' * p := by
    have : l' * 1 ≤ l' * p := Nat.mul_le_mul_left _ hp
    omega
  have e3 := k (n + l' * p) this
  rw [show n + l' * p + d = n + d + l' * p by omega, e2, e1] at e3
  exact e3
/-- the shortest form -/
structure Canon (a b : List Int) : Prop where
  ne : b ≠ []
  least : ∀ d, 0 < d → d < b.length → d ∣ b.length → ¬ Per (sq a b) a.length d
  last : a = [] ∨ sq a b (a.length - 1) ≠ sq a b (a.length - 1 + b.length)
theorem sq_Per (a b : List Int) : Per (sq a b) a.length b.length := fun _ hn => sq_per hn
theorem canon_loop {a b a' b' : List Int} (h : Canon a b) (h' : Canon a' b') (e : ∀ k, sq a b k = sq a' b' k) : b.length ≤ b'.length := by
  have p1 := List.length_pos_iff.mpr h.ne
  have p2 := List.length_pos_iff.mpr h'.ne
  have s := sq_Per a b
  have s' : Per (sq a b) a'.length b'.length := fun n hn => by rw [e, e]; exact sq_per hn
  have s1 : Per (sq a b) (max a.length a'.length) b.length := fun n hn => s n (by omega)
  have s2 : Per (sq a b) (max a.length a'.length) b'.length := fun n hn => s' n (by omega)
  have g := Per.back p1 s (s1.gcd s2)
  have g1 := Nat.gcd_dvd_left b.length b'.length
  have g2 := Nat.gcd_dvd_right b.length b'.length
  have g3 := Nat.gcd_pos_of_pos_left b'.length p1
  have l1 := Nat.le_of_dvd p1 g1
  have l2 := Nat.le_of_dvd p2 g2
  rcases Nat.lt_or_ge (Nat.gcd b.length b'.length) b.length with k | k
  · exact absurd g (h.least _ g3 k g1)
  · omega
theorem canon_lead {a b a' b' : List Int} (h : Canon a b) (h' : Canon a' b') (e : ∀ k, sq a b k = sq a' b' k) : a'.length ≤ a.length := by
  have q := Nat.le_antisymm (canon_loop h h' e) (canon_loop h' h fun k => (e k).symm)
  refine Nat.not_lt.mp fun lt => ?_
  rcases h'.last with z | z
  · rw [z] at lt; simp at lt
  · refine z ?_
    rw [← e, ← e, ← q]
    exact (sq_per (by omega)).symm
theorem sq_lead {a b : List Int} {k : Nat} (hk : k < a.length) : sq a b k = a.getD k 1 := by
  unfold sq; rw [if_pos hk]
theorem sq_loop {a b : List Int} {k : Nat} (hk : k < b.length) : sq a b (a.length + k) = b.getD k 1 := by
  unfold sq; rw [if_neg (by omega), show a.length + k - a.length = k by omega, Nat.mod_eq_of_lt hk]
theorem ext_getD {a b : List Int} (h : a.length = b.length) (k : ∀ i, i < a.length → a.getD i 1 = b.getD i 1) : a = b := by
  refine List.ext_getElem h fun i h1 h2 => ?_
  have := k i h1
  simpa [List.getD_eq_getElem?_getD, h1, h2] using this
theorem canon_uniq {a b a' b' : List Int} (h : Canon a b) (h' : Canon a' b') (e : ∀ k, sq a b k = sq a' b' k) : a = a' ∧ b = b' := by
  have q := Nat.le_antisymm (canon_loop h h' e) (canon_loop h' h fun k => (e k).symm)
  have r := Nat.le_antisymm (canon_lead h' h fun k => (e k).symm) (canon_lead h h' e)
  constructor
  · refine ext_getD r fun i hi => ?_
    have := e i
    rw [sq_lead hi, sq_lead (by omega)] at this
    exact this
  · refine ext_getD q fun i hi => ?_
    have := e (a.length + i)
    rw [sq_loop hi, r, sq_loop (by omega)] at this
    exact this
theorem per12 {a b : List Int} (hb : b ≠ []) (h4 : b.length ≤ 4) : Per (sq a b) a.length 12 := by
  have p := List.length_pos_iff.mpr hb
  have s := sq_Per a b
  have : b.length = 1 ∨ b.length = 2 ∨ b.length = 3 ∨ b.length = 4 := by omega
  rcases this with e | e | e | e
  · rw [e] at s; exact s.mul 12
  · rw [e] at s; exact s.mul 6
  · rw [e] at s; exact s.mul 4
  · rw [e] at s; exact s.mul 3
theorem agree18 {a b a' b' : List Int} (ha : a.length ≤ 6) (hb : b ≠ []) (h4 : b.length ≤ 4) (ha' : a'.length ≤ 6) (hb' : b' ≠ []) (h4' : b'.length ≤ 4) (e : ∀ k, k < 18 → sq a b k = sq a' b' k) (k : Nat) : sq a b k = sq a' b' k := by
  induction k using Nat.strongRecOn with
  | ind k ih =>
    rcases Nat.lt_or_ge k 18 with h | h
    · exact e k h
    · have e1 := per12 (a := a) hb h4 (k - 12) (by omega)
      have e2 := per12 (a := a') hb' h4' (k - 12) (by omega)
      rw [show k - 12 + 12 = k by omega] at e1 e2
      rw [e1, e2]
      exact ih _ (by omega)
/-- two unlike shortest forms: the first unlike part -/
theorem first_unlike {a b a' b' : List Int} (h : Canon a b) (h' : Canon a' b') (ha : a.length ≤ 6) (h4 : b.length ≤ 4) (ha' : a'.length ≤ 6) (h4' : b'.length ≤ 4) (ne : ¬ (a = a' ∧ b = b')) :
    ∃ n, n < 18 ∧ (∀ k, k < n → sq a b k = sq a' b' k) ∧ sq a b n ≠ sq a' b' n := by
  have ex : ∃ n, n < 18 ∧ sq a b n ≠ sq a' b' n := by
    refine Classical.byContradiction fun no => ne (canon_uniq h h' (agree18 ha h.ne h4 ha' h'.ne h4' fun k hk => ?_))
    exact Classical.byContradiction fun z => no ⟨k, hk, z⟩
  obtain ⟨n, hn, z⟩ := ex
  induction n using Nat.strongRecOn with
  | ind n ih =>
    rcases Classical.em (∃ k, k < n ∧ sq a b k ≠ sq a' b' k) with ⟨k, hk, y⟩ | no
    · exact ih k hk (by omega) y
    · exact ⟨n, hn, fun k hk => Classical.byContradiction fun z => no ⟨k, hk, z⟩, z⟩
/-! ### the loop that shortens the loop -/
theorem rep_get (k : Nat) (ys : List Int) (i : Nat) (h : i < k * ys.length) : (List.replicate k ys).flatten.getD i 1 = ys.getD (i % ys.length) 1 := by
  induction k generalizing i with
  | zero => simp at h
  | succ k ih =>
    rw [List.replicate_succ, List.flatten_cons]
    rcases Nat.lt_or_ge i ys.length with c | c
    · rw [Nat.mod_eq_of_lt c]
      simp [List.getD_eq_getElem?_getD, List.getElem?_append, c]
    · have e := ih (i - ys.length) (by rw [Nat.succ_mul] at h; omega)
      rw [Nat.mod_eq_sub_mod c, ← e]
      simp only [List.getD_eq_getElem?_getD]
      rw [List.getElem?_append_right c]
theorem rep_len (k : Nat) (ys : List Int) : (List.replicate k ys).flatten.length = k * ys.length := by
  induction k with
  | zero => simp
  | succ k ih => rw [List.replicate_succ, List.flatten_cons, List.length_append, ih, Nat.succ_mul]; omega
theorem getD_take (b : List Int) (d i : Nat) (h : i < d) : (b.take d).getD i 1 = b.getD i 1 := by
  simp [List.getD_eq_getElem?_getD, h]
/-- a loop that repeats its first d parts -/
def Rep (b : List Int) (d : Nat) : Prop := (List.replicate (b.length / d) (b.take d)).flatten = b
theorem rep_sq {a b : List Int} {d : Nat} (hd : 0 < d) (hdb : d < b.length) (dv : d ∣ b.length) (h : Rep b d) (k : Nat) : sq a (b.take d) k = sq a b k := by
  have el : (b.take d).length = d := by rw [List.length_take]; omega
  unfold sq
  by_cases c : k < a.length
  · rw [if_pos c, if_pos c]
  · rw [if_neg c, if_neg c, el, getD_take _ _ _ (Nat.mod_lt _ hd)]
    have hi : (k - a.length) % b.length < b.length := Nat.mod_lt _ (by omega)
    have e := rep_get (b.length / d) (b.take d) ((k - a.length) % b.length) (by rw [el, Nat.div_mul_cancel dv]; exact hi)
    rw [h, el, getD_take _ _ _ (Nat.mod_lt _ hd), Nat.mod_mod_of_dvd _ dv] at e
    exact e.symm
theorem rep_of_per {a b : List Int} {d : Nat} (hd : 0 < d) (hdb : d < b.length) (dv : d ∣ b.length) (h : Per (sq a b) a.length d) : Rep b d := by
  have el : (b.take d).length = d := by rw [List.length_take]; omega
  unfold Rep
  refine ext_getD (by rw [rep_len, el, Nat.div_mul_cancel dv]) fun i hi => ?_
  rw [rep_len, el] at hi
  have hib : i < b.length := by rw [Nat.div_mul_cancel dv] at hi; exact hi
  rw [rep_get _ _ _ (by rw [el]; exact hi), el, getD_take _ _ _ (Nat.mod_lt _ hd)]
  have e := h.mul (i / d) (a.length + i % d) (by omega)
  have e2 : a.length + i % d + i / d * d = a.length + i := by
    have := Nat.div_add_mod i d
    rw [Nat.mul_comm] at this
    omega
  have : i % d < d := Nat.mod_lt _ hd
  rw [e2, sq_loop hib, sq_loop (by omega)] at e
  exact e.symm
/-- what shortest_loop hands back -/
structure SLoop (b c : List Int) : Prop where
  ne : c ≠ []
  le : c.length ≤ b.length
  mem : ∀ x, x ∈ c → x ∈ b
  sqe : ∀ a k, sq a c k = sq a b k
  least : ∀ a d, 0 < d → d < c.length → d ∣ c.length → ¬ Per (sq a c) a.length d
theorem sloop_take {b : List Int} {d : Nat} (hd : 0 < d) (hdb : d < b.length) (dv : d ∣ b.length) (h : Rep b d) (no : ∀ e, 0 < e → e < d → ¬ (e ∣ b.length ∧ Rep b e)) : SLoop b (b.take d) := by
  have el : (b.take d).length = d := by rw [List.length_take]; omega
  refine ⟨fun z => by rw [z] at el; simp at el; omega, by omega, fun x hx => List.mem_of_mem_take hx, fun a k => rep_sq hd hdb dv h k, fun a e he h1 h2 p => ?_⟩
  rw [el] at h1 h2
  have p' : Per (sq a b) a.length e := fun n hn => by rw [← rep_sq hd hdb dv h, ← rep_sq hd hdb dv h]; exact p n hn
  have dv' := Nat.dvd_trans h2 dv
  exact no e he h1 ⟨dv', rep_of_per he (by omega) dv' p'⟩
theorem sloop_self {b : List Int} (hb : b ≠ []) (no : ∀ e, 0 < e → e < b.length → ¬ (e ∣ b.length ∧ Rep b e)) : SLoop b b :=
  ⟨hb, Nat.le_refl _, fun _ h => h, fun _ _ => rfl, fun _ e he h1 h2 p => no e he h1 ⟨h2, rep_of_per he h1 h2 p⟩⟩
/-! ### the loop that shortens the lead -/
def rot (c : List Int) : List Int := c.getLastD 1 :: c.dropLast
theorem rot_len {c : List Int} (h : c ≠ []) : (rot c).length = c.length := by
  have := List.length_pos_iff.mpr h
  simp [rot]; omega
theorem last_getD {c : List Int} (h : c ≠ []) : c.getLastD 1 = c.getD (c.length - 1) 1 := by
  have := List.length_pos_iff.mpr h
  rw [List.getLastD_eq_getLast?, List.getLast?_eq_getElem?, List.getD_eq_getElem?_getD]
theorem drop_getD (c : List Int) (i : Nat) (h : i < c.length - 1) : c.dropLast.getD i 1 = c.getD i 1 := by
  have h2 : i < c.length := by omega
  simp [List.getD_eq_getElem?_getD, h, h2]
theorem rot_sq {a c : List Int} (ha : a ≠ []) (hc : c ≠ []) (e : a.getLastD 1 = c.getLastD 1) (k : Nat) : sq a.dropLast (rot c) k = sq a c k := by
  have pa := List.length_pos_iff.mpr ha
  have pc := List.length_pos_iff.mpr hc
  unfold sq
  rw [rot_len hc, List.length_dropLast]
  by_cases h1 : k < a.length - 1
  · rw [if_pos h1, if_pos (by omega), drop_getD _ _ h1]
  · rw [if_neg h1]
    by_cases h2 : k < a.length
    · have hk : k = a.length - 1 := by omega
      rw [if_pos h2, hk, Nat.sub_self, Nat.zero_mod]
      rw [← last_getD ha, e]
      rfl
    · rw [if_neg h2, show k - (a.length - 1) = (k - a.length) + 1 by omega]
      have hm : (k - a.length) % c.length < c.length := Nat.mod_lt _ pc
      by_cases h3 : (k - a.length) % c.length = c.length - 1
      · have : ((k - a.length) + 1) % c.length = 0 := by
          rw [Nat.add_mod, h3]
          rcases Nat.lt_or_ge 1 c.length with g | g
          · rw [Nat.mod_eq_of_lt g, show c.length - 1 + 1 = c.length by omega, Nat.mod_self]
          · have : c.length = 1 := by omega
            rw [this]
        rw [this, h3, ← last_getD hc]
        rfl
      · have : ((k - a.length) + 1) % c.length = (k - a.length) % c.length + 1 := by
          rw [Nat.add_mod, Nat.mod_eq_of_lt (show 1 < c.length by omega)]
          exact Nat.mod_eq_of_lt (by omega)
        rw [this, rot, List.getD_cons_succ, drop_getD _ _ (by omega)]
/-- what stands between two turns of that loop -/
structure Mid (a b a1 b1 : List Int) : Prop where
  ne : b1 ≠ []
  la : a1.length ≤ a.length
  lb : b1.length ≤ b.length
  ma : ∀ x, x ∈ a1 → x ∈ a
  mb : ∀ x, x ∈ b1 → x ∈ a ∨ x ∈ b
  sqe : ∀ k, sq a1 b1 k = sq a b k
  least : ∀ d, 0 < d → d < b1.length → d ∣ b1.length → ¬ Per (sq a1 b1) a1.length d
theorem mid_start {a b c : List Int} (h : SLoop b c) : Mid a b a c :=
  ⟨h.ne, Nat.le_refl _, h.le, fun _ x => x, fun x hx => .inr (h.mem x hx), h.sqe a, h.least a⟩
theorem mem_getLastD {c : List Int} (h : c ≠ []) : c.getLastD 1 ∈ c := by
  rw [List.getLastD_eq_getLast?, List.getLast?_eq_some_getLast h]
  exact List.getLast_mem h
theorem mid_turn {a b a1 b1 : List Int} (h : Mid a b a1 b1) (ha : a1 ≠ []) (e : a1.getLastD 1 = b1.getLastD 1) : Mid a b a1.dropLast (rot b1) := by
  have pa := List.length_pos_iff.mpr ha
  refine ⟨by simp [rot], by rw [List.length_dropLast]; have := h.la; omega, by rw [rot_len h.ne]; exact h.lb, fun x hx => h.ma x (List.dropLast_subset _ hx), fun x hx => ?_, fun k => by rw [rot_sq ha h.ne e, h.sqe], fun d h1 h2 h3 p => ?_⟩
  · rcases List.mem_cons.mp hx with rfl | hx
    · exact h.mb _ (mem_getLastD h.ne)
    · exact h.mb _ (List.dropLast_subset _ hx)
  · rw [rot_len h.ne] at h2 h3
    rw [List.length_dropLast] at p
    refine h.least d h1 h2 h3 fun n hn => ?_
    rw [← rot_sq ha h.ne e, ← rot_sq ha h.ne e]
    exact p n (by omega)
theorem mid_end {a b a1 b1 : List Int} (h : Mid a b a1 b1) (e : a1 = [] ∨ a1.getLastD 1 ≠ b1.getLastD 1) : Canon a1 b1 := by
  refine ⟨h.ne, h.least, ?_⟩
  rcases e with e | e
  · exact .inl e
  · by_cases z : a1 = []
    · exact .inl z
    · refine .inr ?_
      have pa := List.length_pos_iff.mpr z
      have pb := List.length_pos_iff.mpr h.ne
      rw [sq_lead (by omega), show a1.length - 1 + b1.length = a1.length + (b1.length - 1) by omega, sq_loop (by omega), ← last_getD z, ← last_getD h.ne]
      exact e
theorem rot_canon_parts {a b a1 b1 : List Int} (h : Mid a b a1 b1) (ha : Parts a) (hb : Parts b) : Parts a1 ∧ Parts b1 :=
  ⟨fun x hx => ha x (h.ma x hx), fun x hx => (h.mb x hx).elim (ha x) (hb x)⟩
end Sw
namespace Sw
abbrev MX : Int := 1000000000000000000000000000000
theorem wlt {x : Int} (h0 : 0 ≤ x) (h : x ≤ MX * MX) : x.natAbs < 2 ^ 250 := by
  have h2 : x.natAbs ≤ (MX * MX).natAbs := by omega
  exact Nat.lt_of_le_of_lt h2 (by decide +kernel)
theorem qk_mono' {s : Nat → Int} (h : PosQ s) {i j : Nat} (hi : 1 ≤ i) (hij : i ≤ j) : qk s i ≤ qk s j := by
  obtain ⟨d, rfl⟩ := Nat.exists_eq_add_of_le hij
  induction d with
  | zero => exact Int.le_refl _
  | succ d ih =>
    obtain ⟨e, he⟩ : ∃ e, i + d = e + 1 := ⟨i + d - 1, by omega⟩
    have k := qk_mono h e
    have ih := ih (by omega)
    rw [he] at ih
    have e2 : i + (d + 1) = e + 2 := by omega
    rw [e2]
    omega
theorem qk_small {s : Nat → Int} (h : PosQ s) {n : Nat} (hq : qk s n ≤ MX) : n ≤ 200 := by
  refine Nat.not_lt.mp fun hn => ?_
  have a := qk_grow h 100
  have b := qk_mono' h (i := 2 * 100 + 1) (by decide) (show 2 * 100 + 1 ≤ n by omega)
  have c : (MX : Int) < 2 ^ 100 := by decide +kernel
  omega
theorem pq_bound {s : Nat → Int} (h : PosQ s) (h20 : ∀ k, s k ≤ 20) (k : Nat) : (0 ≤ pk s k ∧ pk s k ≤ 21 ^ k) ∧ (0 ≤ qk s k ∧ qk s k ≤ 21 ^ k) ∧ (0 ≤ pk s (k + 1) ∧ pk s (k + 1) ≤ 21 ^ k) ∧ (0 ≤ qk s (k + 1) ∧ qk s (k + 1) ≤ 21 ^ k) := by
  induction k with
  | zero => simp [pk, qk]
  | succ k ih =>
    obtain ⟨⟨a1, a2⟩, ⟨b1, b2⟩, ⟨c1, c2⟩, d1, d2⟩ := ih
    have p1 := h k
    have p2 := h20 k
    have e1 : pk s (k + 1 + 1) = s k * pk s (k + 1) + pk s k := rfl
    have e2 : qk s (k + 1 + 1) = s k * qk s (k + 1) + qk s k := rfl
    have f1 : s k * pk s (k + 1) ≤ 20 * 21 ^ k := Int.mul_le_mul p2 c2 c1 (by decide)
    have f2 : s k * qk s (k + 1) ≤ 20 * 21 ^ k := Int.mul_le_mul p2 d2 d1 (by decide)
    have g1 : 0 ≤ s k * pk s (k + 1) := Int.mul_nonneg (by omega) c1
    have g2 : 0 ≤ s k * qk s (k + 1) := Int.mul_nonneg (by omega) d1
    have e3 : (21 : Int) ^ (k + 1) = 21 ^ k * 21 := Int.pow_succ ..
    rw [e1, e2, e3]
    omega
/-- a top is at most its bottom, from the second one on -/
theorem pk_le_qk {s : Nat → Int} (h : PosQ s) (k : Nat) : pk s (k + 1) ≤ qk s (k + 1) ∧ pk s (k + 2) ≤ qk s (k + 2) := by
  induction k with
  | zero =>
    have := h 0
    simp [pk, qk]
    omega
  | succ k ih =>
    refine ⟨ih.2, ?_⟩
    have e1 : pk s (k + 1 + 2) = s (k + 1) * pk s (k + 2) + pk s (k + 1) := rfl
    have e2 : qk s (k + 1 + 2) = s (k + 1) * qk s (k + 2) + qk s (k + 1) := rfl
    have := h (k + 1)
    have f : s (k + 1) * pk s (k + 2) ≤ s (k + 1) * qk s (k + 2) := Int.mul_le_mul_of_nonneg_left ih.2 (by omega)
    rw [e1, e2]
    omega
theorem pk_nonneg {s : Nat → Int} (h : PosQ s) (k : Nat) : 0 ≤ pk s k ∧ 0 ≤ pk s (k + 1) := by
  induction k with
  | zero => simp [pk]
  | succ k ih =>
    refine ⟨ih.2, ?_⟩
    have e1 : pk s (k + 1 + 1) = s k * pk s (k + 1) + pk s k := rfl
    have := h k
    have f : 0 ≤ s k * pk s (k + 1) := Int.mul_nonneg (by omega) ih.2
    rw [e1]
    omega
/-- three steps further on a bottom grows by less than 9261 -/
theorem qk_three {s : Nat → Int} (h : PosQ s) (h20 : ∀ k, s k ≤ 20) {k : Nat} {B : Int} (hq : qk s (k + 1) ≤ B) (hB : 1 ≤ B) : qk s (k + 4) ≤ 9261 * B := by
  have step : ∀ j, qk s (j + 2) ≤ 21 * qk s (j + 1) ∨ j = 0 := fun j => by
    cases j with
    | zero => exact .inr rfl
    | succ j =>
      refine .inl ?_
      have e : qk s (j + 1 + 2) = s (j + 1) * qk s (j + 2) + qk s (j + 1) := rfl
      have f : s (j + 1) * qk s (j + 2) ≤ 20 * qk s (j + 2) := Int.mul_le_mul_of_nonneg_right (h20 _) (qk_pos h _).2
      have g := qk_mono h j
      rw [e]
      show s (j + 1) * qk s (j + 2) + qk s (j + 1) ≤ 21 * qk s (j + 2)
      omega
  have z : qk s (0 + 2) ≤ 21 * qk s (0 + 1) := by
    have := h20 0
    simp [qk]
    omega
  have st : ∀ j, qk s (j + 2) ≤ 21 * qk s (j + 1) := fun j => (step j).elim id fun e => by rw [e]; exact z
  have a := st k
  have b := st (k + 1)
  have c := st (k + 2)
  have e1 : k + 1 + 2 = k + 3 := rfl
  have e2 : k + 2 + 2 = k + 4 := rfl
  have e3 : k + 1 + 1 = k + 2 := rfl
  have e4 : k + 2 + 1 = k + 3 := rfl
  rw [e1, e3] at b
  rw [e2, e4] at c
  omega
/-! the fraction of a path -/
def cf : List Int → Int × Int
  | [] => (0, 1)
  | a :: r => ((cf r).2, a * (cf r).2 + (cf r).1)
theorem cf_conv (s : Nat → Int) : ∀ (r : List Int) (k : Nat), (∀ i, i < r.length → r.getD i 1 = s (k + i)) →
    pk s (k + 1) * (cf r).2 + pk s k * (cf r).1 = pk s (k + r.length + 1) ∧ qk s (k + 1) * (cf r).2 + qk s k * (cf r).1 = qk s (k + r.length + 1)
  | [], k, _ => by simp [cf]
  | a :: r, k, h => by
    have ha : a = s k := h 0 (by simp)
    have ih := cf_conv s r (k + 1) fun i hi => by
      have := h (i + 1) (by simp; omega)
      simpa [Nat.add_assoc, Nat.add_comm 1 i] using this
    have e1 : pk s (k + 1 + 1) = s k * pk s (k + 1) + pk s k := rfl
    have e2 : qk s (k + 1 + 1) = s k * qk s (k + 1) + qk s k := rfl
    rw [e1, e2] at ih
    have e3 : k + (a :: r).length + 1 = k + 1 + r.length + 1 := by simp; omega
    rw [e3, ← ih.1, ← ih.2]
    simp only [cf]
    rw [ha]
    constructor <;> grind
/-- the path of the first n parts and one more -/
theorem cf_path (s : Nat → Int) (n : Nat) (c : Int) : cf ((List.range n).map s ++ [c]) = (c * pk s (n + 1) + pk s n, c * qk s (n + 1) + qk s n) := by
  have := cf_conv (fun k => if k < n then s k else c) ((List.range n).map s ++ [c]) 0 fun i hi => by
    simp at hi
    rw [List.getD_eq_getElem?_getD]
    rcases Nat.lt_or_ge i n with g | g
    · rw [List.getElem?_append_left (by simpa using g)]
      simp [g]
    · have : i = n := by omega
      subst this
      rw [List.getElem?_append_right (by simp)]
      simp
  have g := pk_congr (s := fun k => if k < n then s k else c) (t := s) n fun k hk => by simp [hk]
  have el : 0 + ((List.range n).map s ++ [c]).length + 1 = n + 2 := by simp
  rw [el] at this
  have e1 : pk (fun k => if k < n then s k else c) (n + 2) = c * pk (fun k => if k < n then s k else c) (n + 1) + pk (fun k => if k < n then s k else c) n := by simp [pk]
  have e2 : qk (fun k => if k < n then s k else c) (n + 2) = c * qk (fun k => if k < n then s k else c) (n + 1) + qk (fun k => if k < n then s k else c) n := by simp [qk]
  rw [e1, e2, g.1, g.2.1, g.2.2.1, g.2.2.2] at this
  simp only [pk, qk] at this
  ext
  · show (cf _).1 = c * pk s (n + 1) + pk s n
    omega
  · show (cf _).2 = c * qk s (n + 1) + qk s n
    omega
end Sw
set_option Elab.async false
set_option maxRecDepth 100000
set_option maxHeartbeats 1000000
/-! Two tools that the law wants: enumerate of a tuple; == by an own __eq__ that may say True or False. -/
namespace Sw
open PySem PySem.Spec PyProof.Rows L2
/-- a tuple's iterator at its start; an enumerate over the object j -/
abbrev tupIt (t : Addr) : Obj := { cls := .type "tuple_iterator", data := .fields #[.ref t, .int 0 0] }
abbrev enumOver (j : Addr) : Obj := { cls := .type "enumerate", data := .fields #[.none, .bool false, .ref j, rawInt 0, .none, .none] }
/-- enumerate(t) as the model makes it: first the iterator, then the pair-giver over it -/
theorem enum_new (t : Addr) (items : Array Value) : Meets (Builtin.«enumerate.__new__» ⟨[.type "enumerate", .ref t], []⟩)
    (fun _ R s => s.heap.IsTuple t items ∧ R (.ok (.ret (.ref (s.heap.push (tupIt t)).objs.size))) { s with heap := (s.heap.push (tupIt t)).push (enumOver s.heap.objs.size) }) :=
  Meets.of_wp fun pr wo Ar Rs st hy => by
    rcases st with ⟨hp, gs, dr, tk, os⟩
    rcases hy with ⟨isT, fin⟩
    have sub := sub_enumerate
    have begun : ∀ {B : Around} {Er : Value → Shared → Prop} {Qu : Value → Shared → Prop}, Qu (.ref hp.objs.size) ⟨hp.push (tupIt t), gs, dr, tk, os⟩ → wpAny (model pr wo) B (pyIter (.ref t)) Qu Er ⟨hp, gs, dr, tk, os⟩ :=
      wpAny_pyIter_tuple isT
    wp_walk using begun
    apply wpAny_stack_any
    intro sk
    apply wpAny_pure
    split
    next c _ _ _ _ _ =>
      by_cases e : (c == Value.type "enumerate") = true
      · simp only [e]
        wp_walk using begun
        exact ⟨_, rfl, fin⟩
      · simp only [e]
        wp_walk using begun
        exact ⟨_, rfl, fin⟩
    next =>
      wp_walk using begun
      exact ⟨_, rfl, fin⟩
theorem enum_call {prog : Program} {w : World} {A : Around} {Er : Value → Shared → Prop} {s : Shared} {t : Addr} {items : Array Value} {Qu : Value → Shared → Prop} (isT : s.heap.IsTuple t items)
    (q : Qu (.ref (s.heap.push (tupIt t)).objs.size) { s with heap := (s.heap.push (tupIt t)).push (enumOver s.heap.objs.size) }) : wpAny (model prog w) A (call (.type "enumerate") [.ref t]) Qu Er s :=
  callType_new F.called_enumerate (by decide) (F.typeCall_enumerate_1 _) (F.newCall_enumerate_1 _) (fun ob => F.args_object_init_2 ob _) F.entry_enumerate_new (enum_new t items)
    ⟨isT, ⟨_, Heap.get?_push_size _ rfl, rfl⟩, q⟩
/-- what enumerate of the tuple at a gives: at turn i a new pair of i and the i-th item -/
def IteT (K : PySem.W.Frag) (a : Addr) : It where
  go i H := ∃ (xs : List V) (x : V), SqT K H a xs ∧ xs[i]? = some x
  yld i H v H' := ∃ (T : Addr) (x : V), v = .ref T ∧ H T = none ∧ H' = upd H T (.tup [.int (i : Nat), x]) ∧ ∀ xs, SqT K H a xs → xs[i]? = some x
  stop i H := ∃ xs : List V, SqT K H a xs ∧ xs.length = i
/-- the enumerate at e over the tuple's iterator at j, ahead of turn i -/
def EnT (a e j : Addr) (i : Nat) (h : Heap) : Prop := (∃ old, IsEnum h e j ((i : Nat) : Int) old) ∧ h.IsTupleIter j a i
theorem other_cls {h : Heap} {p q : Addr} {o u : Obj} {c d : String} (h1 : h.get? p = some o) (h2 : h.get? q = some u) (e1 : o.cls = .type c) (e2 : u.cls = .type d) (n : c ≠ d) : p ≠ q := fun z => by
  subst z
  have : o = u := Option.some.inj (h1.symm.trans h2)
  subst this
  rw [e1] at e2
  injection e2 with e2
  exact n e2
/-- the library's walk of an enumerate, for the tuple as it stands -/
theorem enT_walk {prog : Program} {w : World} {A : Around} (hh : A.in1.handled = none) {h : Heap} {a e j : Addr} {i : Nat} {items : Array Value} (st : EnT a e j i h) (isT : h.IsTuple a items) :
    e ≠ j ∧ WalksT prog w A e (e :: [j, a]) [e, j] items.size (fun i vals => ∃ t x, items[i]? = some x ∧ vals = #[.int i t, x]) (fun i h => (∃ old, IsEnum h e j i old) ∧ h.IsTupleIter j a i ∧ h.IsTuple a items)
      (fun i T h => (∃ x, IsEnumOut h e j ((i : Int) + 1) x T) ∧ (h.IsTupleIter j a (i + 1) ∧ h.IsTuple a items) ∧ T ≠ e ∧ T ≠ j) := by
  obtain ⟨⟨old, he⟩, o1, g1, c1, _⟩ := st
  obtain ⟨o2, g2, c2, _⟩ := isT
  have n1 : e ≠ j := other_cls he g1 rfl c1 (by decide)
  have n2 : e ≠ a := other_cls he g2 rfl c2 (by decide)
  have n3 : a ≠ j := other_cls g2 g1 c2 c1 (by decide)
  exact ⟨n1, WalksT.enumerateD (Draws.tuple hh j a n3 items) e n1 (by simp [n1, n2]) (by simp)⟩
theorem turn_enumT {P : Program} {w : World} {K : PySem.W.Frag} {elts : List Expr} {kk : Nat} {tpos : Pos} (a e j : Addr) : Turn P w K (.Tuple elts kk tpos) (IteT K a) [e, j] e (EnT a e j) where
  mem := List.mem_cons_self ..
  obj i h st b hb := by
    obtain ⟨⟨old, he⟩, o, g, _, d⟩ := st
    rcases List.mem_cons.mp hb with rfl | hb
    · exact ⟨_, he, fun _ z => nomatch z⟩
    · obtain rfl := List.mem_singleton.mp hb
      exact ⟨o, g, fun v z => by rw [d] at z; cases z⟩
  keep i h h' st k := ⟨let ⟨old, he⟩ := st.1; ⟨old, k e (by simp) _ he⟩, st.2.at fun o => k j (by simp) o⟩
  item X hP hw hK hc i pins s σ H E I free st hg := by
    subst hP hw hK
    obtain ⟨xs, x, sq, hx⟩ := hg
    obtain ⟨its, vals, isT, _⟩ := I.tuple sq
    obtain ⟨u, hu, ru⟩ := vals.get hx
    obtain ⟨_, W⟩ := enT_walk (prog := X.prog) (w := X.w) (A := X.A) (I.ok.hd hc) st (show s.heap.IsTuple a its.toArray from isT)
    have inB : i < its.toArray.size := by
      rw [List.size_toArray]
      exact (List.getElem?_eq_some_iff.mp hu).1
    refine W.item i s _ _ inB ⟨st.1, st.2, isT⟩ fun T vs h1 tk hv young isTT mid k1 => ⟨.ref T, rfl, W.go elts kk tpos i T { s with heap := h1, toks := tk } _ _ mid fun h2 st2 k2 => ?_⟩
    obtain ⟨tt, y, hy, rfl⟩ := hv
    have ey : u = y := Option.some.inj (hu.symm.trans (by simpa using hy))
    subst ey
    have apart := W.apart i T h1 mid
    have isT2 : h2.IsTuple T #[.int i tt, u] := isTT.at fun o g => k2 T o apart g
    have ob : ObjOk X.prog X.w (upd H T (.tup [.int (i : Nat), x])) h2 T (.tup [.int (i : Nat), x]) := ⟨by show 2 ≤ sizeLine; decide, [.int i tt, u], .cons ⟨_, rfl⟩ (.cons ru .nil), isT2⟩
    have nT : H T = none := I.hok.fresh young
    refine ⟨.ref T, _, I.turnedNew (ch := [e, j]) (fun b o nb g => k2 b o nb (k1 b o nb g)) free young ob, rfl, ⟨T, x, rfl, nT, rfl, fun ys sy => by rw [I.tuple_inj sy sq]; exact hx⟩, ⟨st2.1, st2.2.1⟩, fun b hb => ?_⟩
    have nb : b ≠ T := fun z => apart (z ▸ hb)
    rw [upd_ne nb]
    exact (free b hb).1
  done X hP hw hK hc i pins s σ H E I free st hg := by
    subst hP hw hK
    obtain ⟨xs, sq, hx⟩ := hg
    obtain ⟨its, vals, isT, _⟩ := I.tuple sq
    have ei : i = its.toArray.size := by rw [List.size_toArray, ← hx, vals.length]
    subst ei
    obtain ⟨_, W⟩ := enT_walk (prog := X.prog) (w := X.w) (A := X.A) (I.ok.hd hc) st (show s.heap.IsTuple a its.toArray from isT)
    exact W.done s _ _ ⟨st.1, st.2, isT⟩ fun h1 tk k1 => ⟨rfl, I.turnedL k1 free⟩
  self A i s Q E st q := let ⟨_, he⟩ := st.1; wpAny_pyIter_enum he q
/-- for i, x in enumerate(e), e a tuple -/
def iEnumT (K : PySem.W.Frag) (ta : TA) : TI := fun σ H R => ta σ H fun vs H1 => ∃ (a : Addr) (xs : List V), vs = [.ref a] ∧ SqT K H1 a xs ∧ R (IteT K a) H1
theorem pi_enumT {X : Cx} {e : Expr} {ta : TA} {p pos tpos : Pos} {elts : List Expr} {kk : Nat} (hg : Gl X "enumerate") (hm : X.mg "enumerate" = none) (ha : PA X [e] ta) (one : starEach [e] X.env = [(false, eval e X.env)] := by rfl) :
    PI X (.Tuple elts kk tpos) (.Call (.Name "enumerate" p) [e] [] pos) (iEnumT X.K ta) where
  run pins s σ H R I q := Call_ (ld_blt I hg hm boot_enumerate (PyProof.Rows.callWith_type1 (thn (ha.run pos pins s σ H _ I q) fun us s1 ⟨vs, H1, I1, rv, a, xs, ev, sq, q1⟩ => by
    subst ev
    cases rv with
    | cons r0 r1 =>
      cases r1
      cases r0
      obtain ⟨its, vals, isT, _⟩ := I1.tuple sq
      have both : ∀ b u, s1.heap.get? b = some u → ((s1.heap.push (tupIt a)).push (enumOver s1.heap.objs.size)).get? b = some u := fun b u g => Heap.get?_push_of_some _ (Heap.get?_push_of_some _ g)
      have atE : ((s1.heap.push (tupIt a)).push (enumOver s1.heap.objs.size)).get? (s1.heap.push (tupIt a)).objs.size = some (enumOver s1.heap.objs.size) := Heap.get?_push_size _ rfl
      have atJ : ((s1.heap.push (tupIt a)).push (enumOver s1.heap.objs.size)).get? s1.heap.objs.size = some (tupIt a) := Heap.get?_push_of_some _ (Heap.get?_push_size _ rfl)
      refine enum_call (show s1.heap.IsTuple a its.toArray from isT) (wpAny_pyIter_enum (old := .none) atE ?_)
      refine ⟨_, [_, s1.heap.objs.size], _, _, H1, rfl, I1.kept (t' := s1.toks) both, turn_enumT a _ s1.heap.objs.size, ⟨⟨.none, atE⟩, _, atJ, rfl, rfl⟩, fun b hb => ?_, q1⟩
      have young : s1.heap.objs.size ≤ b := by
        rcases List.mem_cons.mp hb with rfl | hb
        · rw [Heap.size_push]
          exact Nat.le_succ _
        · rw [List.mem_singleton.mp hb]
          exact Nat.le_refl _
      exact I1.fpOk young (I1.hok.fresh young)) one rfl))
theorem walk_enumT {K : PySem.W.Frag} {a : Addr} {xs : List V} : Walk (IteT K a) xs.length (fun H => SqT K H a xs) (YPair (fun i => some (.int (i : Nat))) (fun i => xs[i]?)) where
  goes i H hi sq := ⟨xs, xs[i], sq, List.getElem?_eq_getElem hi⟩
  stops H sq := ⟨xs, sq, rfl⟩
  yields i H v H' hi sq y := let ⟨T, x, e1, e2, e3, e4⟩ := y; ⟨T, .int (i : Nat), x, e1, e2, e3, rfl, e4 xs sq⟩
/-! ### == by an own __eq__ that may say either -/
def rOwnEq (C : Addr) (sp : Sp) (E : XK) : R2 := fun x y H Q => ∃ a b dx dy fs gs, x = .ref a ∧ y = .ref b ∧ H a = some (.ins C dx fs) ∧ H b = some (.ins C dy gs) ∧ sp [.ref a, .ref b] H (fun v H' => (∃ k, v = .bl k) ∧ Q v H') E
theorem op_ownEq {X : Cx} {n : Nat} {CX : CXT} {C f : Addr} {fd : FuncData} {ps : List Str} {sp : Sp} {E : XK} (F : FnOk X.prog X.w X.K X.mg X.base CX n f fd ps sp) (hr : Room n X.A)
    (look : PySem.W.findIn X.K (.ref C) "__eq__" = some (some (.ref f))) (isF : PySem.W.isFn X.K (.ref f) = true) (bd : Binds X.K fd ps []) (ps0 : Passes CX X E) : OpR X (compareOp .Eq) (rOwnEq C sp E) := fun pins s σ H x y v u Q I rx ry hq => by
  obtain ⟨a, b, dx, dy, fs, gs, rfl, rfl, atA, atB, told⟩ := hq
  cases rx
  cases ry
  obtain ⟨_, JA, _⟩ := ins_get I.hok atA
  obtain ⟨_, JB, _⟩ := ins_get I.hok atB
  obtain ⟨_, JA, _⟩ := JA.look
  obtain ⟨_, JB, _⟩ := JB.look
  obtain ⟨_, frames⟩ := I.fr
  show wpAny (model X.prog X.w) X.A (richCompare .Eq (.ref a) (.ref b)) (EP X pins σ Q) X.xe s
  refine PySem.W.cmp_K (op := .Eq) (tb := .ref C) hr.units0 frames I.ok.mod.kin JA JB.type (by simp [PySem.W.notFirst]) look isF ?_
  have two : Vals [V.ref a, V.ref b] [Value.ref a, Value.ref b] := .cons rfl (.cons rfl .nil)
  refine wpAny_mono (run_fn F hr bd .nil ps0 I two told) (fun r s2 z => ?_) fun _ _ z => z
  obtain ⟨_, H2, I2, rel, ⟨k, rfl⟩, q⟩ := z
  cases rel
  exact ⟨.bl k, H2, I2, rfl, q⟩
end Sw
set_option Elab.async false
set_option maxRecDepth 100000
namespace Sw
open PySem L2
def top (i : Nat) : Stmt := PySem.Challenge.pw_slopeworld_k12_whole_fractions_between.main.body.getD i (.Pass ⟨0, 0, 0, 0⟩)
abbrev sIsInteger : Stmt := top 11
abbrev sIsBetween : Stmt := top 12
abbrev sCheckLead : Stmt := top 21
abbrev sCheckLoop : Stmt := top 22
abbrev sShortestLoop : Stmt := top 23
abbrev sShortest : Stmt := top 24
abbrev sListed : Stmt := top 25
abbrev sCheckSlope : Stmt := top 28
abbrev sPartAt : Stmt := top 30
abbrev sNeighboursPast : Stmt := top 31
abbrev sIsPoint : Stmt := top 33
abbrev sCheckPoint : Stmt := top 34
abbrev sMultipleAt : Stmt := top 35
abbrev sWholeAt : Stmt := top 36
abbrev sSignAt : Stmt := top 37
abbrev sLessSlope : Stmt := top 38
abbrev sWholePart : Stmt := top 39
abbrev sSignOf : Stmt := top 40
abbrev sCheckPair : Stmt := top 41
abbrev sIsBelow : Stmt := top 42
abbrev sCheckBound : Stmt := top 44
abbrev sSideOf : Stmt := top 45
abbrev sBelowTo : Stmt := top 46
abbrev sAboveTo : Stmt := top 47
abbrev sBetweenTwo : Stmt := top 48
abbrev sNeighboursOfPath : Stmt := top 49
abbrev sGreatestBelow : Stmt := top 50
abbrev sLeastAbove : Stmt := top 51
abbrev sLeastBetween : Stmt := top 52
abbrev sLawPail : Stmt := top 54
abbrev sLawPull : Stmt := top 55
abbrev sLawOneOf : Stmt := top 56
abbrev sLawPair : Stmt := top 57
abbrev sLawAt : Stmt := top 58
abbrev sLawNear : Stmt := top 59
abbrev sLawWhole : Stmt := top 60
abbrev sLawBeside : Stmt := top 61
abbrev sLawBetweenRight : Stmt := top 62
abbrev sLawLeast : Stmt := top 63
abbrev sLawRight : Stmt := top 64
abbrev sLaw : Stmt := top 65
abbrev sSlopeInit : Stmt := inClass (top 27) 0
abbrev sSlopeEq : Stmt := inClass (top 27) 11
end Sw
set_option Elab.async false
set_option linter.all false
set_option maxRecDepth 100000
set_option maxHeartbeats 0
namespace Sw
open PySem PySem.Spec PyProof.Rows L2
def fn0 : List He.DefD := [⟨("is_integer", none), "is_integer", "is_integer", defArgs sIsInteger, defBody sIsInteger, defScope sIsInteger, [], []⟩,
  ⟨("is_between", none), "is_between", "is_between", defArgs sIsBetween, defBody sIsBetween, defScope sIsBetween, [], []⟩,
  ⟨("check_lead", none), "check_lead", "check_lead", defArgs sCheckLead, defBody sCheckLead, defScope sCheckLead, [], []⟩,
  ⟨("check_loop", none), "check_loop", "check_loop", defArgs sCheckLoop, defBody sCheckLoop, defScope sCheckLoop, [], []⟩,
  ⟨("shortest_loop", none), "shortest_loop", "shortest_loop", defArgs sShortestLoop, defBody sShortestLoop, defScope sShortestLoop, [], []⟩,
  ⟨("shortest", none), "shortest", "shortest", defArgs sShortest, defBody sShortest, defScope sShortest, [], []⟩,
  ⟨("listed", none), "listed", "listed", defArgs sListed, defBody sListed, defScope sListed, [], []⟩,
  ⟨("check_slope", none), "check_slope", "check_slope", defArgs sCheckSlope, defBody sCheckSlope, defScope sCheckSlope, [], []⟩]
def fn1 : List He.DefD := [⟨("part_at", none), "part_at", "part_at", defArgs sPartAt, defBody sPartAt, defScope sPartAt, [], []⟩,
  ⟨("neighbours_past", none), "neighbours_past", "neighbours_past", defArgs sNeighboursPast, defBody sNeighboursPast, defScope sNeighboursPast, [], []⟩,
  ⟨("is_point", none), "is_point", "is_point", defArgs sIsPoint, defBody sIsPoint, defScope sIsPoint, [], []⟩,
  ⟨("check_point", none), "check_point", "check_point", defArgs sCheckPoint, defBody sCheckPoint, defScope sCheckPoint, [], []⟩,
  ⟨("multiple_at", none), "multiple_at", "multiple_at", defArgs sMultipleAt, defBody sMultipleAt, defScope sMultipleAt, [], []⟩,
  ⟨("whole_at", none), "whole_at", "whole_at", defArgs sWholeAt, defBody sWholeAt, defScope sWholeAt, [], []⟩,
  ⟨("sign_at", none), "sign_at", "sign_at", defArgs sSignAt, defBody sSignAt, defScope sSignAt, [], []⟩,
  ⟨("less_slope", none), "less_slope", "less_slope", defArgs sLessSlope, defBody sLessSlope, defScope sLessSlope, [], []⟩]
def fn2 : List He.DefD := [⟨("whole_part", none), "whole_part", "whole_part", defArgs sWholePart, defBody sWholePart, defScope sWholePart, [], []⟩,
  ⟨("sign_of", none), "sign_of", "sign_of", defArgs sSignOf, defBody sSignOf, defScope sSignOf, [], []⟩,
  ⟨("check_pair", none), "check_pair", "check_pair", defArgs sCheckPair, defBody sCheckPair, defScope sCheckPair, [], []⟩,
  ⟨("is_below", none), "is_below", "is_below", defArgs sIsBelow, defBody sIsBelow, defScope sIsBelow, [], []⟩,
  ⟨("check_bound", none), "check_bound", "check_bound", defArgs sCheckBound, defBody sCheckBound, defScope sCheckBound, [], []⟩,
  ⟨("side_of", none), "side_of", "side_of", defArgs sSideOf, defBody sSideOf, defScope sSideOf, [], []⟩,
  ⟨("below_to", none), "below_to", "below_to", defArgs sBelowTo, defBody sBelowTo, defScope sBelowTo, [], []⟩,
  ⟨("above_to", none), "above_to", "above_to", defArgs sAboveTo, defBody sAboveTo, defScope sAboveTo, [], []⟩]
def fn3 : List He.DefD := [⟨("between_two", none), "between_two", "between_two", defArgs sBetweenTwo, defBody sBetweenTwo, defScope sBetweenTwo, [], []⟩,
  ⟨("neighbours_of_path", none), "neighbours_of_path", "neighbours_of_path", defArgs sNeighboursOfPath, defBody sNeighboursOfPath, defScope sNeighboursOfPath, [], []⟩,
  ⟨("greatest_below", none), "greatest_below", "greatest_below", defArgs sGreatestBelow, defBody sGreatestBelow, defScope sGreatestBelow, [], []⟩,
  ⟨("least_above", none), "least_above", "least_above", defArgs sLeastAbove, defBody sLeastAbove, defScope sLeastAbove, [], []⟩,
  ⟨("least_between", none), "least_between", "least_between", defArgs sLeastBetween, defBody sLeastBetween, defScope sLeastBetween, [], []⟩,
  ⟨("_law_pail", none), "_law_pail", "_law_pail", defArgs sLawPail, defBody sLawPail, defScope sLawPail, [], []⟩,
  ⟨("_law_pull", none), "_law_pull", "_law_pull", defArgs sLawPull, defBody sLawPull, defScope sLawPull, [], []⟩,
  ⟨("_law_one_of", none), "_law_one_of", "_law_one_of", defArgs sLawOneOf, defBody sLawOneOf, defScope sLawOneOf, [], []⟩]
def fn4 : List He.DefD := [⟨("_law_pair", none), "_law_pair", "_law_pair", defArgs sLawPair, defBody sLawPair, defScope sLawPair, [], []⟩,
  ⟨("_law_at", none), "_law_at", "_law_at", defArgs sLawAt, defBody sLawAt, defScope sLawAt, [], []⟩,
  ⟨("_law_near", none), "_law_near", "_law_near", defArgs sLawNear, defBody sLawNear, defScope sLawNear, [], []⟩,
  ⟨("_law_whole", none), "_law_whole", "_law_whole", defArgs sLawWhole, defBody sLawWhole, defScope sLawWhole, [], []⟩,
  ⟨("_law_beside", none), "_law_beside", "_law_beside", defArgs sLawBeside, defBody sLawBeside, defScope sLawBeside, [], []⟩,
  ⟨("_law_between_right", none), "_law_between_right", "_law_between_right", defArgs sLawBetweenRight, defBody sLawBetweenRight, defScope sLawBetweenRight, [], []⟩,
  ⟨("_law_least", none), "_law_least", "_law_least", defArgs sLawLeast, defBody sLawLeast, defScope sLawLeast, [], []⟩,
  ⟨("_law_right", none), "_law_right", "_law_right", defArgs sLawRight, defBody sLawRight, defScope sLawRight, [], []⟩]
def fn5 : List He.DefD := [⟨("law", none), "law", "law", defArgs sLaw, defBody sLaw, defScope sLaw, [], []⟩,
  ⟨("Slope", some "__init__"), "__init__", "Slope.__init__", defArgs sSlopeInit, defBody sSlopeInit, defScope sSlopeInit, [], []⟩,
  ⟨("Slope", some "__eq__"), "__eq__", "Slope.__eq__", defArgs sSlopeEq, defBody sSlopeEq, defScope sSlopeEq, [], []⟩]
def fns : List He.DefD := fn0 ++ fn1 ++ fn2 ++ fn3 ++ fn4 ++ fn5
def fa0 : List He.Fa := [.glo "is_integer", .glo "is_between", .glo "check_lead", .glo "check_loop", .glo "shortest_loop", .glo "shortest", .glo "listed", .glo "check_slope", .glo "part_at", .glo "neighbours_past", .glo "is_point", .glo "check_point"]
def fa1 : List He.Fa := [.glo "multiple_at", .glo "whole_at", .glo "sign_at", .glo "less_slope", .glo "whole_part", .glo "sign_of", .glo "check_pair", .glo "is_below", .glo "check_bound", .glo "side_of", .glo "below_to", .glo "above_to"]
def fa2 : List He.Fa := [.glo "between_two", .glo "neighbours_of_path", .glo "greatest_below", .glo "least_above", .glo "least_between", .glo "_law_pail", .glo "_law_pull", .glo "_law_one_of", .glo "_law_pair", .glo "_law_at", .glo "_law_near", .glo "_law_whole"]
def fa3 : List He.Fa := [.glo "_law_beside", .glo "_law_between_right", .glo "_law_least", .glo "_law_right", .glo "law", .glo "Slope", .free "isinstance", .free "int", .free "bool", .free "tuple", .free "len", .free "enumerate"]
def fa4 : List He.Fa := [.free "range", .free "str", .free "min", .free "max", .free "abs", .free "all", .free "sorted", .int "MOST_PART" 20, .int "MOST_LEAD" 8, .int "MOST_LOOP" 12, .int "MOST_NUMBER" 1000000000000000000000000000000, .cls "Slope"]
def fa5 : List He.Fa := [.noat "Slope" "held", .noat "Slope" "words", .mkr "Slope", .meth "Slope" "__eq__"]
def fas : List He.Fa := fa0 ++ fa1 ++ fa2 ++ fa3 ++ fa4 ++ fa5
end Sw
set_option Elab.async false
set_option linter.all false
set_option maxRecDepth 100000
set_option maxHeartbeats 4000000
namespace Sw
open PySem PySem.Spec PyProof.Rows L2
/-- what the walk asks of the top: read off the head's facts -/
structure Tx (K : PySem.W.Frag) (mg : Str → Option Value) : Prop where
  gl : ∀ (i : Nat) (x : Str), fas[i]? = some (.glo x) → mg x = some (.ref (He.ga K x))
  fr : ∀ (i : Nat) (x : Str), fas[i]? = some (.free x) → mg x = none
  it : ∀ (i : Nat) (x : Str) (n : Int), fas[i]? = some (.int x n) → ∃ t, mg x = some (.int n t)
  fn : ∀ (i : Nat) (d : He.DefD), fns[i]? = some d → ∃ fd, FunD K d.name d.qual d.params d.body d.scope (d.dvs K) (d.kws K) (He.fAd K d.at_) fd
  cl : Cls K (He.ga K "Slope")
  nH : NoAttr K (He.ga K "Slope") "held"
  nW : NoAttr K (He.ga K "Slope") "words"
  mkr : Mk K (He.ga K "Slope") (He.ma K (He.ga K "Slope") "__init__")
  me : Meth K (He.ga K "Slope") "__eq__" (He.ma K (He.ga K "Slope") "__eq__")
  isC : C8.InsC K (He.ga K "Slope")
section
variable {K : PySem.W.Frag} {mg : Str → Option Value}
theorem Tx.g_is_integer (T : Tx K mg) : mg "is_integer" = some (.ref (He.ga K "is_integer")) := T.gl 0 _ rfl
theorem Tx.g_is_between (T : Tx K mg) : mg "is_between" = some (.ref (He.ga K "is_between")) := T.gl 1 _ rfl
theorem Tx.g_check_lead (T : Tx K mg) : mg "check_lead" = some (.ref (He.ga K "check_lead")) := T.gl 2 _ rfl
theorem Tx.g_check_loop (T : Tx K mg) : mg "check_loop" = some (.ref (He.ga K "check_loop")) := T.gl 3 _ rfl
theorem Tx.g_shortest_loop (T : Tx K mg) : mg "shortest_loop" = some (.ref (He.ga K "shortest_loop")) := T.gl 4 _ rfl
theorem Tx.g_shortest (T : Tx K mg) : mg "shortest" = some (.ref (He.ga K "shortest")) := T.gl 5 _ rfl
theorem Tx.g_listed (T : Tx K mg) : mg "listed" = some (.ref (He.ga K "listed")) := T.gl 6 _ rfl
theorem Tx.g_check_slope (T : Tx K mg) : mg "check_slope" = some (.ref (He.ga K "check_slope")) := T.gl 7 _ rfl
theorem Tx.g_part_at (T : Tx K mg) : mg "part_at" = some (.ref (He.ga K "part_at")) := T.gl 8 _ rfl
theorem Tx.g_neighbours_past (T : Tx K mg) : mg "neighbours_past" = some (.ref (He.ga K "neighbours_past")) := T.gl 9 _ rfl
theorem Tx.g_is_point (T : Tx K mg) : mg "is_point" = some (.ref (He.ga K "is_point")) := T.gl 10 _ rfl
theorem Tx.g_check_point (T : Tx K mg) : mg "check_point" = some (.ref (He.ga K "check_point")) := T.gl 11 _ rfl
theorem Tx.g_multiple_at (T : Tx K mg) : mg "multiple_at" = some (.ref (He.ga K "multiple_at")) := T.gl 12 _ rfl
theorem Tx.g_whole_at (T : Tx K mg) : mg "whole_at" = some (.ref (He.ga K "whole_at")) := T.gl 13 _ rfl
theorem Tx.g_sign_at (T : Tx K mg) : mg "sign_at" = some (.ref (He.ga K "sign_at")) := T.gl 14 _ rfl
theorem Tx.g_less_slope (T : Tx K mg) : mg "less_slope" = some (.ref (He.ga K "less_slope")) := T.gl 15 _ rfl
theorem Tx.g_whole_part (T : Tx K mg) : mg "whole_part" = some (.ref (He.ga K "whole_part")) := T.gl 16 _ rfl
theorem Tx.g_sign_of (T : Tx K mg) : mg "sign_of" = some (.ref (He.ga K "sign_of")) := T.gl 17 _ rfl
theorem Tx.g_check_pair (T : Tx K mg) : mg "check_pair" = some (.ref (He.ga K "check_pair")) := T.gl 18 _ rfl
theorem Tx.g_is_below (T : Tx K mg) : mg "is_below" = some (.ref (He.ga K "is_below")) := T.gl 19 _ rfl
theorem Tx.g_check_bound (T : Tx K mg) : mg "check_bound" = some (.ref (He.ga K "check_bound")) := T.gl 20 _ rfl
theorem Tx.g_side_of (T : Tx K mg) : mg "side_of" = some (.ref (He.ga K "side_of")) := T.gl 21 _ rfl
theorem Tx.g_below_to (T : Tx K mg) : mg "below_to" = some (.ref (He.ga K "below_to")) := T.gl 22 _ rfl
theorem Tx.g_above_to (T : Tx K mg) : mg "above_to" = some (.ref (He.ga K "above_to")) := T.gl 23 _ rfl
theorem Tx.g_between_two (T : Tx K mg) : mg "between_two" = some (.ref (He.ga K "between_two")) := T.gl 24 _ rfl
theorem Tx.g_neighbours_of_path (T : Tx K mg) : mg "neighbours_of_path" = some (.ref (He.ga K "neighbours_of_path")) := T.gl 25 _ rfl
theorem Tx.g_greatest_below (T : Tx K mg) : mg "greatest_below" = some (.ref (He.ga K "greatest_below")) := T.gl 26 _ rfl
theorem Tx.g_least_above (T : Tx K mg) : mg "least_above" = some (.ref (He.ga K "least_above")) := T.gl 27 _ rfl
theorem Tx.g_least_between (T : Tx K mg) : mg "least_between" = some (.ref (He.ga K "least_between")) := T.gl 28 _ rfl
theorem Tx.g_law_pail (T : Tx K mg) : mg "_law_pail" = some (.ref (He.ga K "_law_pail")) := T.gl 29 _ rfl
theorem Tx.g_law_pull (T : Tx K mg) : mg "_law_pull" = some (.ref (He.ga K "_law_pull")) := T.gl 30 _ rfl
theorem Tx.g_law_one_of (T : Tx K mg) : mg "_law_one_of" = some (.ref (He.ga K "_law_one_of")) := T.gl 31 _ rfl
theorem Tx.g_law_pair (T : Tx K mg) : mg "_law_pair" = some (.ref (He.ga K "_law_pair")) := T.gl 32 _ rfl
theorem Tx.g_law_at (T : Tx K mg) : mg "_law_at" = some (.ref (He.ga K "_law_at")) := T.gl 33 _ rfl
theorem Tx.g_law_near (T : Tx K mg) : mg "_law_near" = some (.ref (He.ga K "_law_near")) := T.gl 34 _ rfl
theorem Tx.g_law_whole (T : Tx K mg) : mg "_law_whole" = some (.ref (He.ga K "_law_whole")) := T.gl 35 _ rfl
theorem Tx.g_law_beside (T : Tx K mg) : mg "_law_beside" = some (.ref (He.ga K "_law_beside")) := T.gl 36 _ rfl
theorem Tx.g_law_between_right (T : Tx K mg) : mg "_law_between_right" = some (.ref (He.ga K "_law_between_right")) := T.gl 37 _ rfl
theorem Tx.g_law_least (T : Tx K mg) : mg "_law_least" = some (.ref (He.ga K "_law_least")) := T.gl 38 _ rfl
theorem Tx.g_law_right (T : Tx K mg) : mg "_law_right" = some (.ref (He.ga K "_law_right")) := T.gl 39 _ rfl
theorem Tx.g_law (T : Tx K mg) : mg "law" = some (.ref (He.ga K "law")) := T.gl 40 _ rfl
theorem Tx.g_Slope (T : Tx K mg) : mg "Slope" = some (.ref (He.ga K "Slope")) := T.gl 41 _ rfl
theorem Tx.f_isinstance (T : Tx K mg) : mg "isinstance" = none := T.fr 42 _ rfl
theorem Tx.f_int (T : Tx K mg) : mg "int" = none := T.fr 43 _ rfl
theorem Tx.f_bool (T : Tx K mg) : mg "bool" = none := T.fr 44 _ rfl
theorem Tx.f_tuple (T : Tx K mg) : mg "tuple" = none := T.fr 45 _ rfl
theorem Tx.f_len (T : Tx K mg) : mg "len" = none := T.fr 46 _ rfl
theorem Tx.f_enumerate (T : Tx K mg) : mg "enumerate" = none := T.fr 47 _ rfl
theorem Tx.f_range (T : Tx K mg) : mg "range" = none := T.fr 48 _ rfl
theorem Tx.f_str (T : Tx K mg) : mg "str" = none := T.fr 49 _ rfl
theorem Tx.f_min (T : Tx K mg) : mg "min" = none := T.fr 50 _ rfl
theorem Tx.f_max (T : Tx K mg) : mg "max" = none := T.fr 51 _ rfl
theorem Tx.f_abs (T : Tx K mg) : mg "abs" = none := T.fr 52 _ rfl
theorem Tx.f_all (T : Tx K mg) : mg "all" = none := T.fr 53 _ rfl
theorem Tx.f_sorted (T : Tx K mg) : mg "sorted" = none := T.fr 54 _ rfl
theorem Tx.i_MOST_PART (T : Tx K mg) : ∃ t, mg "MOST_PART" = some (.int 20 t) := T.it 55 _ _ rfl
theorem Tx.i_MOST_LEAD (T : Tx K mg) : ∃ t, mg "MOST_LEAD" = some (.int 8 t) := T.it 56 _ _ rfl
theorem Tx.i_MOST_LOOP (T : Tx K mg) : ∃ t, mg "MOST_LOOP" = some (.int 12 t) := T.it 57 _ _ rfl
theorem Tx.i_MOST_NUMBER (T : Tx K mg) : ∃ t, mg "MOST_NUMBER" = some (.int 1000000000000000000000000000000 t) := T.it 58 _ _ rfl
end
/-- a def of the module that keeps a promise, at a level -/
structure Def (P : Program) (w : World) (K : PySem.W.Frag) (mg : Str → Option Value) (base : Heap) (k : Nat) (x : Str) (ps : List Str) (sp : Sp) : Prop where
  ex : ∃ fd, FnOk P w K mg base CX0 k (He.ga K x) fd ps sp ∧ Binds K fd ps []
  g : mg x = some (.ref (He.ga K x))
  kp : PySem.W.keepIn K (.ref (He.ga K x)) = true
section
variable {P : Program} {w : World} {K : PySem.W.Frag} {mg : Str → Option Value} {base : Heap}
/-- what is to be shown of a def's body, in which no exception leaves it -/
abbrev BodyOk (P : Program) (w : World) (K : PySem.W.Frag) (mg : Str → Option Value) (base : Heap) (k : Nat) (qual : Str) (st : Stmt) (N : List Str) (f : Addr) (sp : Sp) : Prop :=
  ∀ (code : Value) (A : Around) (outer : List Env) (now : Shared) (H : Hp) (args : List V) (Q : VK) (E : XK),
    Room k (A.deeper (envOfC qual (defScope st) now.heap.objs.size f code)) → sp args H Q E →
    ∃ t, PSs (cxOf CX0 P w K mg base N qual (defScope st) f code A outer now H E).nox (defBody st) t ∧ t { nx := fun _ H' => Q .non H', rt := Q } (start N args) H
theorem funD_okN {x qual : Str} {st : Stmt} {f : Addr} {fd : FuncData} {N ps : List Str} {k : Nat} {sp : Sp} (F : FunD K x qual (defArgs st) (defBody st) (defScope st) [] [] f fd) (S : FnScope N ps (defScope st)) (len : ∀ args H Q E, sp args H Q E → args.length = ps.length)
    (body : BodyOk P w K mg base k qual st N f sp) : FnOk P w K mg base CX0 (k + 1) f fd ps sp :=
  F.ok S len fun code A outer now H args Q E room told => let ⟨t, reads, q⟩ := body code A outer now H args Q E room told; ⟨t, reads.nox, q⟩
theorem mkDef {x : Str} {st : Stmt} {N ps : List Str} {sp : Sp} (T : Tx K mg) (k i : Nat) (hf : fns[i]? = some ⟨(x, none), x, x, defArgs st, defBody st, defScope st, [], []⟩) (g : mg x = some (.ref (He.ga K x))) (S : FnScope N ps (defScope st))
    (bind : ∀ (kV doc pm : Value) (an : Option Addr) (cdv ct : Value) (us : List Value), us.length = ps.length → bindArgs (PySem.W.fnOf x x (defArgs st) (defBody st) (defScope st) .none kV doc pm an cdv ct) ⟨us, []⟩ = pure (ps.zip us))
    (len : ∀ args H Q E, sp args H Q E → args.length = ps.length) (body : BodyOk P w K mg base k x st N (He.ga K x) sp) : Def P w K mg base (k + 1) x ps sp := by
  obtain ⟨fd, F⟩ := T.fn i _ hf
  have F' : FunD K x x (defArgs st) (defBody st) (defScope st) [] [] (He.ga K x) fd := F
  exact ⟨⟨fd, funD_okN F' S len body, F'.bindsN bind⟩, g, F'.kp⟩
theorem Def.mono {x : Str} {ps : List Str} {sp : Sp} {j k : Nat} (D : Def P w K mg base j x ps sp) (h : j ≤ k) : Def P w K mg base k x ps sp :=
  ⟨let ⟨fd, F, b⟩ := D.ex; ⟨fd, F.mono h, b⟩, D.g, D.kp⟩
end
section
variable {X : Cx} {k : Nat} {x : Str} {ps : List Str} {sp : Sp} {e : Expr} {es : List Expr} {t : TA} {p pos : Pos}
/-- a call of such a def -/
theorem pe_cal (D : Def X.prog X.w X.K X.mg X.base k x ps sp) (hr : Room k X.A) (hg : Gl X x) (ha : PA X (e :: es) t) (hdb : (x == ("__debug__" : Str)) = false := by decide) (he : starEach (e :: es) X.env = (false, eval e X.env) :: starEach es X.env := by rfl) (hpl : (backTo pos (starEach es X.env)).any (·.1) = false := by rfl) :
    PE X (.Call (.Name x p) (e :: es) [] pos) (tCall sp [] E0 t) := by
  obtain ⟨fd, F, b⟩ := D.ex
  exact pe_call F hr hg D.g D.kp b .nil pass0 ha hdb he hpl
end
/-- a constant of the module -/
theorem pe_gi {X : Cx} {x : Str} {pos : Pos} {n : Int} (h : ∃ t, X.mg x = some (.int n t)) (hg : Gl X x) (hd : (x == ("__debug__" : Str)) = false := by decide) : PE X (.Name x pos) (tC (.int n)) := by
  obtain ⟨t, h⟩ := h
  exact pe_glob (v := .int n) hg h ⟨t, rfl⟩ hd
/-! ### heaps -/
theorem same_new {H : Hp} {p : Addr} {o : HO} (h : H p = none) : Same H (upd H p o) := fun b x e => by
  rw [upd_ne (ne_of_none e h)]
  exact e
theorem same_seqT {K : PySem.W.Frag} {H H' : Hp} {a : Addr} {xs : List V} (e : Same H H') (h : SqT K H a xs) : SqT K H' a xs := SqT.ext h e
theorem tyT {K : PySem.W.Frag} {H : Hp} {a : Addr} {xs : List V} (h : SqT K H a xs) : TyX K H (.ref a) (.type "tuple") := by
  rcases h with (h | ⟨o, h⟩) | ⟨o, its, n, h, c, _⟩
  · exact .base (.tup h)
  · exact .fTuple h
  · exact .kTuple h c
/-- a tuple of ints -/
abbrev IT (K : PySem.W.Frag) (H : Hp) (a : Addr) (xs : List Int) : Prop := SqT K H a (xs.map V.int)
/-- a pair of such tuples -/
def PairAt (K : PySem.W.Frag) (H : Hp) (p : Addr) (a b : List Int) : Prop := ∃ l r, SqT K H p [.ref l, .ref r] ∧ IT K H l a ∧ IT K H r b
theorem PairAt.ext {K : PySem.W.Frag} {H H' : Hp} {p : Addr} {a b : List Int} (h : PairAt K H p a b) (s : Same H H') : PairAt K H' p a b := by
  obtain ⟨l, r, h1, h2, h3⟩ := h
  exact ⟨l, r, SqT.ext h1 s, SqT.ext h2 s, SqT.ext h3 s⟩
theorem hw : ¬ (("held" : Str) = "words") := by decide +kernel
def sf (h : Addr) (w : Str) : List (Str × V) := putF "words" (.str w) (putF "held" (.ref h) [])
theorem sf_held (h : Addr) (w : Str) : (sf h w).lookup ("held" : Str) = some (.ref h) := by
  unfold sf
  rw [lookup_putF, if_neg hw, lookup_putF, if_pos rfl]
/-- a Slope whose shortest form is this -/
def SlopeAt (K : PySem.W.Frag) (H : Hp) (p : Addr) (a b : List Int) : Prop := ∃ dx h w, H p = some (.ins (He.ga K "Slope") dx (sf h w)) ∧ PairAt K H h a b
theorem SlopeAt.ext {K : PySem.W.Frag} {H H' : Hp} {p : Addr} {a b : List Int} (h : SlopeAt K H p a b) (s : Same H H') : SlopeAt K H' p a b := by
  obtain ⟨dx, q, w, h1, h2⟩ := h
  exact ⟨dx, q, w, s _ _ h1, h2.ext s⟩
theorem map_get {a : List Int} {k : Nat} (h : k < a.length) : (a.map V.int)[k]? = some (.int (a.getD k 1)) := by
  rw [List.getElem?_map, List.getD_eq_getElem?_getD, List.getElem?_eq_getElem h]
  rfl
end Sw
set_option Elab.async false
set_option linter.all false
set_option maxRecDepth 100000
set_option maxHeartbeats 1000000
namespace Sw
open PySem PySem.Spec PyProof.Rows L2
variable {P : Program} {w : World} {K : PySem.W.Frag} {mg : Str → Option Value} {base : Heap}
/-! data: tuples of ints, pairs of them -/
abbrev DT (a : List Int) : PyData := .tuple (a.map PyData.int)
theorem eqvAll_ints : ∀ a b : List Int, PyData.eqvAll (a.map PyData.int) (b.map PyData.int) = decide (a = b)
  | [], [] => by simp [PyData.eqvAll]
  | [], _ :: _ => by simp [PyData.eqvAll]
  | _ :: _, [] => by simp [PyData.eqvAll]
  | x :: a, y :: b => by
    rw [List.map_cons, List.map_cons, PyData.eqvAll, eqvAll_ints a b]
    simp only [PyData.eqv, List.cons.injEq]
    by_cases h1 : x = y <;> by_cases h2 : a = b <;> simp [h1, h2]
theorem eqv_DT (a b : List Int) : PyData.eqv (DT a) (DT b) = decide (a = b) := by
  rw [PyData.eqv, eqvAll_ints]
theorem eqv_LT (a b : List Int) : PyData.eqv (.list (a.map PyData.int)) (.list (b.map PyData.int)) = decide (a = b) := by
  rw [PyData.eqv, eqvAll_ints]
theorem eqv_PT (a b c d : List Int) : PyData.eqv (.tuple [DT a, DT b]) (.tuple [DT c, DT d]) = decide (a = c ∧ b = d) := by
  rw [PyData.eqv, PyData.eqvAll, PyData.eqvAll, PyData.eqvAll, eqv_DT, eqv_DT]
  by_cases h1 : a = c <;> by_cases h2 : b = d <;> simp [h1, h2]
theorem canAll_ints : ∀ a : List Int, PyData.canLayAll0 (a.map PyData.int) = true
  | [] => rfl
  | x :: a => by
    rw [List.map_cons, PyData.canLayAll0, canAll_ints a]
    rfl
theorem depth_ints : ∀ a : List Int, PyData.depthAll (a.map PyData.int) = 0
  | [] => rfl
  | x :: a => by
    rw [List.map_cons, PyData.depthAll, depth_ints a]
    rfl
theorem sh_DT (a : List Int) : SeqAt.shaped (DT a) = true := by
  unfold SeqAt.shaped
  rw [PyData.canLay0, canAll_ints, PyData.depth, depth_ints]
  rfl
theorem sh_LT (a : List Int) : SeqAt.shaped (.list (a.map PyData.int)) = true := by
  unfold SeqAt.shaped
  rw [PyData.canLay0, canAll_ints, PyData.depth, depth_ints]
  rfl
theorem sh_PT (a b : List Int) : SeqAt.shaped (.tuple [DT a, DT b]) = true := by
  unfold SeqAt.shaped
  rw [PyData.canLay0, PyData.canLayAll0, PyData.canLayAll0, PyData.canLayAll0, PyData.canLay0, PyData.canLay0, canAll_ints, canAll_ints, PyData.depth, PyData.depthAll, PyData.depthAll, PyData.depthAll, PyData.depth, PyData.depth, depth_ints, depth_ints]
  rfl
theorem dpAll_ints {H : Hp} : ∀ a : List Int, DpAll K H (a.map V.int) (a.map PyData.int)
  | [] => .nil
  | x :: a => .cons (.int x) (dpAll_ints a)
theorem dp_IT {H : Hp} {l : Addr} {a : List Int} (h : IT K H l a) : Dp K H (.ref l) (DT a) := .tup h (dpAll_ints a)
theorem dp_PT {H : Hp} {p : Addr} {a b : List Int} (h : PairAt K H p a b) : Dp K H (.ref p) (.tuple [DT a, DT b]) := by
  obtain ⟨l, r, h1, h2, h3⟩ := h
  exact .tup h1 (.cons (dp_IT h2) (.cons (dp_IT h3) .nil))
theorem map_at {xs : List Int} {i : Nat} {y : V} (h : (xs.map V.int)[i]? = some y) : ∃ n, xs[i]? = some n ∧ y = V.int n := by
  rw [List.getElem?_map] at h
  cases e : xs[i]? with
  | none => rw [e] at h; cases h
  | some n => rw [e] at h; exact ⟨n, rfl, (Option.some.inj h).symm⟩
theorem map_ofs {xs : List Int} {i : Nat} {n : Int} (h : xs[i]? = some n) : (xs.map V.int)[i]? = some (.int n) := by
  rw [List.getElem?_map, h]
  rfl
/-! slices -/
theorem cut_take (xs : List V) (k : Nat) (h : k ≤ xs.length) : cutV xs none (some (k : Int)) = xs.take k := by
  unfold cutV
  rw [HT.sIx_none, HT.sIx_nat, Nat.sub_zero, List.drop_zero, Nat.min_eq_left h]
theorem sIx_neg (n d : Nat) : HT.sIx n d (some (-1)) = n - 1 := by
  show (if (-1 : Int) < 0 then ((-1 : Int) + (n : Int)).toNat else min (-1 : Int).toNat n) = n - 1
  rw [if_pos (by decide)]
  omega
theorem cut_init (xs : List V) : cutV xs none (some (-1)) = xs.dropLast := by
  unfold cutV
  rw [HT.sIx_none, sIx_neg, Nat.sub_zero, List.drop_zero, List.dropLast_eq_take]
theorem map_dropLast (a : List Int) : (a.map V.int).dropLast = a.dropLast.map V.int := by simp [List.map_dropLast]
theorem last_get {a : List Int} (h : a ≠ []) : (a.map V.int)[a.length - 1]? = some (.int (a.getLastD 1)) := by
  have := List.length_pos_iff.mpr h
  rw [last_getD h]
  exact map_get (by omega)
theorem flat_map (k : Nat) (xs : List Int) : (List.replicate k (xs.map V.int)).flatten = ((List.replicate k xs).flatten).map V.int := by
  simp
theorem atI_neg {xs : List V} {k : Nat} {v : V} (hk : 1 ≤ k) (h : xs[xs.length - k]? = some v) (hl : k ≤ xs.length) : atI xs (-(k : Int)) = some v := by
  have e : ixN xs.length (-(k : Int)) = some (xs.length - k) := by
    unfold ixN
    rw [if_neg (by omega), if_pos (by omega)]
    congr 1
    omega
  unfold atI
  rw [e]
  exact h
theorem iteTk {c : Bool} {A B : Prop} (hc : c = true) (h : A) : if c = true then A else B := by
  rw [if_pos hc]
  exact h
theorem iteFk {c : Bool} {A B : Prop} (hc : c = false) (h : B) : if c = true then A else B := by
  rw [hc]
  exact iteF h
theorem upd_IT {H : Hp} {p : Addr} {xs : List V} {a : List Int} (h : xs = a.map V.int) : IT K (upd H p (.tup xs)) p a := by
  rw [h]
  exact SqT.of upd_same
theorem vne {i j : Int} (h : i ≠ j) : decide (V.int i = V.int j) = false := decide_eq_false fun z => by
  injection z with z
  exact h z
theorem veq {i j : Int} (h : i = j) : decide (V.int i = V.int j) = true := decide_eq_true (congrArg V.int h)
end Sw
set_option Elab.async false
set_option linter.all false
set_option maxRecDepth 100000
set_option maxHeartbeats 400000
namespace Sw
open PySem PySem.Spec PyProof.Rows L2
variable {P : Program} {w : World} {K : PySem.W.Frag} {mg : Str → Option Value} {base : Heap}
/-! is_integer -/
def spIsInteger : Sp := fun vs H Q _ => ∃ i : Int, vs = [.int i] ∧ Q (.bl true) H
theorem sc_is_integer : FnScope ["value"] ["value"] (defScope sIsInteger) := ⟨rfl, rfl, rfl, by decide +kernel, rfl, by decide +kernel, by decide +kernel⟩
theorem d_is_integer (T : Tx K mg) : Def P w K mg base 1 "is_integer" ["value"] spIsInteger := by
  refine mkDef T 0 0 rfl T.g_is_integer sc_is_integer (fun _ _ _ _ _ _ us hl => match us, hl with | [_], _ => rfl) (fun vs H Q E h => ?_) (fun cdv A outer s H vs Q E hr h => ?_)
  · obtain ⟨i, rfl, _⟩ := h
    rfl
  · obtain ⟨i, rfl, q⟩ := h
    refine ⟨_, pss_one (ps_ret (pe_and (pe_callB call_isi (by rfl) T.f_isinstance boot_isinstance (pa_cons (pv 0) (pa_cons (pe_bltn (v := .ty "int") (by rfl) T.f_int boot_int rfl) pa_nil)))
      (pe_one (pe_not (pe_callB call_isi (by rfl) T.f_isinstance boot_isinstance (pa_cons (pv 0) (pa_cons (pe_bltn (v := .ty "bool") (by rfl) T.f_bool boot_bool rfl) pa_nil))))))), ?_⟩
    refine ⟨_, rfl, _, _, _, _, true, rfl, .ty "int", .base (.int i), kit_ty (by decide +kernel), true, rfl, iteT ?_⟩
    refine ⟨_, rfl, _, _, _, _, false, rfl, .ty "bool", .base (.int i), kit_ty (by decide +kernel), false, rfl, ?_⟩
    exact q
/-! is_between -/
def spIsBetween : Sp := fun vs H Q _ => ∃ i lo hi : Int, vs = [.int i, .int lo, .int hi] ∧ Q (.bl (decide (lo ≤ i ∧ i ≤ hi))) H
theorem sc_is_between : FnScope ["value", "low", "high"] ["value", "low", "high"] (defScope sIsBetween) := ⟨rfl, rfl, rfl, by decide +kernel, rfl, by decide +kernel, by decide +kernel⟩
theorem d_is_between (T : Tx K mg) : Def P w K mg base 2 "is_between" ["value", "low", "high"] spIsBetween := by
  refine mkDef T 1 1 rfl T.g_is_between sc_is_between (fun _ _ _ _ _ _ us hl => match us, hl with | [_, _, _], _ => rfl) (fun vs H Q E h => ?_) (fun cdv A outer s H vs Q E hr h => ?_)
  · obtain ⟨i, lo, hi, rfl, _⟩ := h
    rfl
  · obtain ⟨i, lo, hi, rfl, q⟩ := h
    refine ⟨_, pss_one (ps_ret (pe_and (pe_cal (d_is_integer T) hr (by rfl) (pa_cons (pv 0) pa_nil)) (pe_one (pe_chain op_le op_le (pv 1) (pv 0) (pv 2))))), ?_⟩
    refine ⟨_, rfl, i, rfl, true, rfl, iteT ?_⟩
    refine ⟨_, rfl, _, rfl, _, _, rfl, rfl, _, rfl, ?_⟩
    refine ite2 (fun h1 => ?_) (fun h1 => ?_)
    · refine ⟨_, rfl, _, _, rfl, rfl, ?_⟩
      have h1 := of_decide_eq_true h1
      have e : decide (i ≤ hi) = decide (lo ≤ i ∧ i ≤ hi) := by
        rw [decide_eq_decide]
        omega
      show Q (.bl (decide (i ≤ hi))) H
      rw [e]
      exact q
    · have h1 : ¬ lo ≤ i := fun z => h1 (decide_eq_true z)
      have e : decide (lo ≤ i ∧ i ≤ hi) = false := decide_eq_false (by omega)
      rw [e] at q
      exact q
/-! part_at -/
def spPartAt (K : PySem.W.Frag) : Sp := fun vs H Q _ => ∃ (p : Addr) (a b : List Int) (n : Nat), vs = [.ref p, .int ((n : Int) + 1)] ∧ SlopeAt K H p a b ∧ b ≠ [] ∧ Q (.int (sq a b n)) H
theorem sc_part_at : FnScope ["slope", "many", "lead", "turn"] ["slope", "many"] (defScope sPartAt) := ⟨rfl, rfl, rfl, by decide +kernel, rfl, by decide +kernel, by decide +kernel⟩
theorem d_part_at (T : Tx K mg) : Def P w K mg base 1 "part_at" ["slope", "many"] (spPartAt K) := by
  refine mkDef T 0 8 rfl T.g_part_at sc_part_at (fun _ _ _ _ _ _ us hl => match us, hl with | [_, _], _ => rfl) (fun vs H Q E h => ?_) (fun cdv A outer s H vs Q E hr h => ?_)
  · obtain ⟨p, a, b, n, rfl, _⟩ := h
    rfl
  · obtain ⟨p, a, b, n, rfl, ⟨dx, hd, wd, h1, l, r, h2, h3, h4⟩, hb, q⟩ := h
    refine ⟨_, pss_cons (ps_asg (pe_fld (pv 0) rfl) (pg_tup rfl (pgs_cons (pg_name (i := 2) sc_part_at.nd rfl (.inl rfl)) (pgs_cons (pg_name (i := 3) sc_part_at.nd rfl (.inl rfl)) pgs_nil))))
      (pss_one (ps_ret (pe_ifExp (pt_cmpR op_le (pv 1) (pe_callB call_len_seq (by rfl) T.f_len PySem.boot_len (pa_cons (pv 2) pa_nil)) (nomark _))
        (pe_ix ix_tup (pv 2) (pe_op op_sub (pv 1) pe_int) (fun _ _ => rfl))
        (pe_ix ix_tup (pv 3) (pe_op op_modN (pe_op op_sub (pe_op op_sub (pv 1) pe_int) (pe_callB call_len_seq (by rfl) T.f_len PySem.boot_len (pa_cons (pv 2) pa_nil))) (pe_callB call_len_seq (by rfl) T.f_len PySem.boot_len (pa_cons (pv 3) pa_nil))) (fun _ _ => rfl))))), ?_⟩
    refine ⟨_, rfl, p, He.ga K "Slope", dx, _, _, rfl, h1, T.cl, T.nH, sf_held _ _, hd, _, rfl, h2, rfl, _, _, rfl, _, _, rfl, rfl, ?_⟩
    refine ⟨_, rfl, _, rfl, l, _, rfl, .inr h3, _, _, rfl, rfl, _, rfl, ?_⟩
    refine ite2 (fun c => ?_) (fun c => ?_)
    · have c := of_decide_eq_true c
      rw [List.length_map] at c
      have hn : n < a.length := by omega
      refine ⟨_, rfl, _, rfl, _, _, rfl, rfl, l, _, _, _, rfl, rfl, h3, at_of (j := n) (by omega) (map_get hn), ?_⟩
      show Q (.int (a.getD n 1)) H
      rw [← sq_lead (b := b) hn]
      exact q
    · have c : ¬ ((n : Int) + 1 ≤ ((a.map V.int).length : Nat)) := fun z => c (decide_eq_true z)
      rw [List.length_map] at c
      have pb := List.length_pos_iff.mpr hb
      refine ⟨_, rfl, _, rfl, _, _, rfl, rfl, _, rfl, l, _, rfl, .inr h3, _, _, rfl, rfl, _, rfl, r, _, rfl, .inr h4, _, _, rfl, rfl, ?_⟩
      rw [List.length_map, List.length_map]
      have em : ((n : Int) + 1 - 1 - (a.length : Nat)).fmod (b.length : Nat) = (((n - a.length) % b.length : Nat) : Int) := by
        rw [Int.fmod_eq_emod_of_nonneg _ (by omega), show (n : Int) + 1 - 1 - (a.length : Nat) = ((n - a.length : Nat) : Int) by omega]
        rfl
      refine ⟨by omega, r, _, _, _, rfl, rfl, h4, at_of (j := (n - a.length) % b.length) em (map_get (Nat.mod_lt _ pb)), ?_⟩
      have e : sq a b n = b.getD ((n - a.length) % b.length) 1 := by
        unfold sq
        rw [if_neg (by omega)]
      show Q (.int (b.getD ((n - a.length) % b.length) 1)) H
      rw [← e]
      exact q
end Sw
set_option Elab.async false
set_option linter.all false
set_option maxRecDepth 100000
set_option maxHeartbeats 1000000
namespace Sw
open PySem PySem.Spec PyProof.Rows L2
variable {P : Program} {w : World} {K : PySem.W.Frag} {mg : Str → Option Value} {base : Heap}
/-! check_lead -/
def spCheckPart (K : PySem.W.Frag) (m : Nat) : Sp := fun vs H Q _ => ∃ (l : Addr) (a : List Int), vs = [.ref l] ∧ IT K H l a ∧ a.length ≤ m ∧ Parts a ∧ ∀ H', Same H H' → Q .non H'
theorem sc_check_lead : FnScope ["lead", "index", "part"] ["lead"] (defScope sCheckLead) := ⟨rfl, rfl, rfl, by decide +kernel, rfl, by decide +kernel, by decide +kernel⟩
theorem d_check_lead (T : Tx K mg) : Def P w K mg base 3 "check_lead" ["lead"] (spCheckPart K 8) := by
  refine mkDef T 2 2 rfl T.g_check_lead sc_check_lead (fun _ _ _ _ _ _ us hl => match us, hl with | [_], _ => rfl) (fun vs H Q E h => ?_) (fun cdv A outer s H vs Q E hr h => ?_)
  · obtain ⟨l, a, rfl, _⟩ := h
    rfl
  · obtain ⟨l, a, rfl, h1, hl, hp, q⟩ := h
    refine ⟨_, pss_cons (ps_if (pt_not (pt_val (pe_callB call_isi (by rfl) T.f_isinstance boot_isinstance (pa_cons (pv 0) (pa_cons (pe_bltn (v := .ty "tuple") (by rfl) T.f_tuple boot_tuple rfl) pa_nil))))) (pss_one ps_never) pss_nil)
      (pss_one (ps_for PassesOwn.never rfl (pi_enumT (by rfl) T.f_enumerate (pa_cons (pv 0) pa_nil)) (pg_tup rfl (pgs_cons (pg_name (i := 1) sc_check_lead.nd rfl (.inl rfl)) (pgs_cons (pg_name (i := 2) sc_check_lead.nd rfl (.inl rfl)) pgs_nil)))
        (pss_one (ps_if (PW.pt (pw_or (pt_cmpR op_eq (pv 1) (pe_gi T.i_MOST_LEAD rfl) (nomark _)) (pw_or1 (pt_not (pt_val (pe_cal (d_is_between T) hr (by rfl) (pa_cons (pv 2) (pa_cons pe_int (pa_cons (pe_gi T.i_MOST_PART rfl) pa_nil))))))))) (pss_one ps_never) pss_nil)))), ?_⟩
    refine ⟨_, rfl, _, _, _, _, true, rfl, .ty "tuple", tyT h1, kit_ty (by decide +kernel), true, rfl, iteF ?_⟩
    refine ⟨_, rfl, l, _, rfl, h1, for_it walk_enumT (fun i σ H' => ∃ x1 x2, σ = [some (.ref l), x1, x2] ∧ Same H H') ⟨none, none, rfl, Same.refl H⟩ (fun i σ H' _ ⟨_, _, _, s1⟩ => SqT.ext h1 s1) ?_ ?_⟩
    · rintro i y σ H1 H2 hi ⟨x1, x2, rfl, s1⟩ ⟨p, u, v, rfl, np, rfl, eu, ev⟩
      obtain ⟨n, hn, rfl⟩ := map_at ev
      cases (Option.some.inj eu)
      rw [List.length_map] at hi
      have hb := hp n (List.mem_of_getElem? hn)
      refine ⟨p, [.int i, .int n], rfl, SqT.of upd_same, rfl, _, _, rfl, _, _, rfl, rfl, ?_⟩
      refine ⟨_, rfl, rfl, _, rfl, ?_⟩
      have e1 : decide (V.int (i : Int) = V.int 8) = false := decide_eq_false fun z => by
        injection z with z
        omega
      rw [e1]
      refine iteF ⟨_, rfl, n, 1, 20, rfl, _, rfl, ?_⟩
      rw [decide_eq_true hb]
      exact iteF ⟨_, _, rfl, s1.trans (same_new np)⟩
    · rintro σ H1 ⟨x1, x2, rfl, s1⟩
      exact q _ s1
/-! check_loop -/
def spCheckLoop (K : PySem.W.Frag) : Sp := fun vs H Q _ => ∃ (l : Addr) (a : List Int), vs = [.ref l] ∧ IT K H l a ∧ a ≠ [] ∧ a.length ≤ 12 ∧ Parts a ∧ ∀ H', Same H H' → Q .non H'
theorem sc_check_loop : FnScope ["turn", "index", "part"] ["turn"] (defScope sCheckLoop) := ⟨rfl, rfl, rfl, by decide +kernel, rfl, by decide +kernel, by decide +kernel⟩
theorem d_check_loop (T : Tx K mg) : Def P w K mg base 3 "check_loop" ["turn"] (spCheckLoop K) := by
  refine mkDef T 2 3 rfl T.g_check_loop sc_check_loop (fun _ _ _ _ _ _ us hl => match us, hl with | [_], _ => rfl) (fun vs H Q E h => ?_) (fun cdv A outer s H vs Q E hr h => ?_)
  · obtain ⟨l, a, rfl, _⟩ := h
    rfl
  · obtain ⟨l, a, rfl, h1, hne, hl, hp, q⟩ := h
    refine ⟨_, pss_cons (ps_if (PW.pt (pw_or (pt_not (pt_val (pe_callB call_isi (by rfl) T.f_isinstance boot_isinstance (pa_cons (pv 0) (pa_cons (pe_bltn (v := .ty "tuple") (by rfl) T.f_tuple boot_tuple rfl) pa_nil))))) (pw_or1 (pt_cmpR (op_eqD hr.units) (pv 0) (pe_tup pa_nil) (nomark _))))) (pss_one ps_never) pss_nil)
      (pss_one (ps_for PassesOwn.never rfl (pi_enumT (by rfl) T.f_enumerate (pa_cons (pv 0) pa_nil)) (pg_tup rfl (pgs_cons (pg_name (i := 1) sc_check_loop.nd rfl (.inl rfl)) (pgs_cons (pg_name (i := 2) sc_check_loop.nd rfl (.inl rfl)) pgs_nil)))
        (pss_one (ps_if (PW.pt (pw_or (pt_cmpR op_eq (pv 1) (pe_gi T.i_MOST_LOOP rfl) (nomark _)) (pw_or1 (pt_not (pt_val (pe_cal (d_is_between T) hr (by rfl) (pa_cons (pv 2) (pa_cons pe_int (pa_cons (pe_gi T.i_MOST_PART rfl) pa_nil))))))))) (pss_one ps_never) pss_nil)))), ?_⟩
    refine ⟨_, rfl, _, _, _, _, true, rfl, .ty "tuple", tyT h1, kit_ty (by decide +kernel), true, rfl, iteF ?_⟩
    refine ⟨_, rfl, by decide, fun e he => ?_⟩
    refine ⟨_, _, .tup (SqT.ext h1 (same_new he)) (dpAll_ints a), .tup (SqT.of upd_same) (dpAll_ints []), sh_DT a, sh_DT [], _, rfl, ?_⟩
    rw [eqv_DT, decide_eq_false hne]
    refine iteF ?_
    have s0 : Same H (upd H e (.tup [])) := same_new he
    refine ⟨_, rfl, l, _, rfl, SqT.ext h1 s0, for_it walk_enumT (fun i σ H' => ∃ x1 x2, σ = [some (.ref l), x1, x2] ∧ Same H H') ⟨none, none, rfl, s0⟩ (fun i σ H' _ ⟨_, _, _, s1⟩ => SqT.ext h1 s1) ?_ ?_⟩
    · rintro i y σ H1 H2 hi ⟨x1, x2, rfl, s1⟩ ⟨p, u, v, rfl, np, rfl, eu, ev⟩
      obtain ⟨n, hn, rfl⟩ := map_at ev
      cases (Option.some.inj eu)
      rw [List.length_map] at hi
      have hb := hp n (List.mem_of_getElem? hn)
      refine ⟨p, [.int i, .int n], rfl, SqT.of upd_same, rfl, _, _, rfl, _, _, rfl, rfl, ?_⟩
      refine ⟨_, rfl, rfl, _, rfl, ?_⟩
      have e1 : decide (V.int (i : Int) = V.int 12) = false := decide_eq_false fun z => by
        injection z with z
        omega
      rw [e1]
      refine iteF ⟨_, rfl, n, 1, 20, rfl, _, rfl, ?_⟩
      rw [decide_eq_true hb]
      exact iteF ⟨_, _, rfl, s1.trans (same_new np)⟩
    · rintro σ H1 ⟨x1, x2, rfl, s1⟩
      exact q _ s1
/-! check_slope -/
def spCheckSlope (K : PySem.W.Frag) : Sp := fun vs H Q _ => ∃ (p : Addr) (a b : List Int), vs = [.ref p] ∧ SlopeAt K H p a b ∧ Q .non H
theorem sc_check_slope : FnScope ["value"] ["value"] (defScope sCheckSlope) := ⟨rfl, rfl, rfl, by decide +kernel, rfl, by decide +kernel, by decide +kernel⟩
theorem pe_slope {X : Cx} {pos : Pos} (g : X.mg "Slope" = some (.ref (He.ga X.K "Slope"))) (hg : Gl X "Slope") : PE X (.Name "Slope" pos) (tC (.ref (He.ga X.K "Slope"))) := pe_glob (v := .ref (He.ga X.K "Slope")) hg g rfl
theorem d_check_slope (T : Tx K mg) : Def P w K mg base 1 "check_slope" ["value"] (spCheckSlope K) := by
  refine mkDef T 0 7 rfl T.g_check_slope sc_check_slope (fun _ _ _ _ _ _ us hl => match us, hl with | [_], _ => rfl) (fun vs H Q E h => ?_) (fun cdv A outer s H vs Q E hr h => ?_)
  · obtain ⟨p, a, b, rfl, _⟩ := h
    rfl
  · obtain ⟨p, a, b, rfl, ⟨dx, hd, wd, h1, _⟩, q⟩ := h
    refine ⟨_, pss_one (ps_if (pt_not (pt_val (pe_callB (C8.call_isC T.isC) (by rfl) T.f_isinstance boot_isinstance (pa_cons (pv 0) (pa_cons (pe_slope T.g_Slope (by rfl)) pa_nil))))) (pss_one ps_never) pss_nil), ?_⟩
    refine ⟨_, rfl, p, dx, _, rfl, h1, true, rfl, iteF ?_⟩
    exact q
/-! shortest_loop -/
def spSLoop (K : PySem.W.Frag) : Sp := fun vs H Q _ => ∃ (t : Addr) (b : List Int), vs = [.ref t] ∧ IT K H t b ∧ b ≠ [] ∧ b.length ≤ 12 ∧ ∀ H' t' c, Same H H' → IT K H' t' c → SLoop b c → Q (.ref t') H'
theorem sc_shortest_loop : FnScope ["turn", "size"] ["turn"] (defScope sShortestLoop) := ⟨rfl, rfl, rfl, by decide +kernel, rfl, by decide +kernel, by decide +kernel⟩
theorem d_shortest_loop (T : Tx K mg) : Def P w K mg base 1 "shortest_loop" ["turn"] (spSLoop K) := by
  refine mkDef T 0 4 rfl T.g_shortest_loop sc_shortest_loop (fun _ _ _ _ _ _ us hl => match us, hl with | [_], _ => rfl) (fun vs H Q E h => ?_) (fun cdv A outer s H vs Q E hr h => ?_)
  · obtain ⟨t, b, rfl, _⟩ := h
    rfl
  · obtain ⟨t, b, rfl, h1, hne, hl, q⟩ := h
    have pb := List.length_pos_iff.mpr hne
    refine ⟨_, pss_cons (ps_for PassesOwn.never rfl (pi_range2 (by rfl) T.f_range (pa_cons pe_int (pa_cons (pe_callB call_len_seq (by rfl) T.f_len PySem.boot_len (pa_cons (pv 0) pa_nil)) pa_nil))) (pg_name (i := 1) sc_shortest_loop.nd rfl (.inl rfl))
        (pss_one (ps_if (PW.pt (pw_and (pt_cmpR op_eq (pe_op op_modN (pe_callB call_len_seq (by rfl) T.f_len PySem.boot_len (pa_cons (pv 0) pa_nil)) (pv 1)) pe_int (nomark _))
            (pw_and1 (pt_cmpR (op_eqD hr.units) (pe_op op_repT (pe_slice sl_tup (pv 0) po_none (po_some (pv 1))) (pe_op op_fdivN (pe_callB call_len_seq (by rfl) T.f_len PySem.boot_len (pa_cons (pv 0) pa_nil)) (pv 1))) (pv 0) (nomark _)))))
          (pss_one (ps_ret (pe_slice sl_tup (pv 0) po_none (po_some (pv 1))))) pss_nil)))
      (pss_one (ps_ret (pv 0))), ?_⟩
    refine ⟨_, rfl, t, _, rfl, .inr h1, 1, _, rfl, ⟨by decide, by decide, by omega, by rw [List.length_map]; omega⟩, for_range (lo := 1) (n := ((((b.map V.int).length : Nat) : Int) - 1).toNat) (fun i σ H' => ∃ x1, σ = [some (.ref t), x1] ∧ Same H H' ∧ ∀ e, 0 < e → e ≤ i → ¬ (e ∣ b.length ∧ Rep b e)) ⟨none, rfl, Same.refl H, fun e h1 h2 => by omega⟩ ?_ ?_⟩
    · rintro i σ H1 hi ⟨x1, rfl, s1, no⟩
      rw [List.length_map] at hi
      have ei : (1 : Int) + (i : Int) = ((i + 1 : Nat) : Int) := by omega
      have hT := SqT.ext h1 s1
      rw [ei]
      refine ⟨_, rfl, t, _, rfl, .inr hT, _, rfl, _, _, rfl, rfl, by omega, rfl, _, rfl, ?_⟩
      have em : (((b.map V.int).length : Nat) : Int).fmod ((i + 1 : Nat) : Int) = ((b.length % (i + 1) : Nat) : Int) := by
        rw [List.length_map, Int.fmod_eq_emod_of_nonneg _ (by omega)]
        rfl
      by_cases dv : b.length % (i + 1) = 0
      · refine iteTk (veq (em.trans (by rw [dv]; rfl))) ?_
        have dvd : (i + 1) ∣ b.length := Nat.dvd_of_mod_eq_zero dv
        have dm := Nat.div_mul_cancel dvd
        have d2 : 2 ≤ b.length / (i + 1) := by
          rcases Nat.lt_or_ge (b.length / (i + 1)) 2 with z | z
          · have : b.length / (i + 1) * (i + 1) ≤ 1 * (i + 1) := Nat.mul_le_mul_right _ (by omega)
            omega
          · exact z
        have d3 := Nat.div_le_self b.length (i + 1)
        have fd : (((b.map V.int).length : Nat) : Int).fdiv ((i + 1 : Nat) : Int) = ((b.length / (i + 1) : Nat) : Int) := by
          rw [List.length_map, Int.fdiv_eq_ediv_of_nonneg _ (by omega)]
          rfl
        have ct : cutV (b.map V.int) none (some ((i + 1 : Nat) : Int)) = (b.take (i + 1)).map V.int := by
          rw [cut_take _ _ (by rw [List.length_map]; omega), List.map_take]
        have nw : ¬ (HT.sIx (b.map V.int).length 0 none = 0 ∧ HT.sIx (b.map V.int).length (b.map V.int).length (some ((i + 1 : Nat) : Int)) = (b.map V.int).length) := by
          rw [HT.sIx_nat, List.length_map]
          omega
        have tl : (b.take (i + 1)).length = i + 1 := by rw [List.length_take]; omega
        refine ⟨_, rfl, _, rfl, _, rfl, t, _, rfl, hT, nw, fun p np => ?_⟩
        have s2 : Same H1 (upd H1 p (.tup (cutV (b.map V.int) none (some ((i + 1 : Nat) : Int))))) := same_new np
        refine ⟨_, rfl, t, _, rfl, .inr (SqT.ext hT s2), _, rfl, _, _, rfl, rfl, ⟨by omega, by omega⟩, ?_⟩
        refine ⟨p, _, _, rfl, congrArg V.int fd, upd_IT ct, ?_, by omega, by omega, ?_, fun p2 np2 => ?_⟩
        · intro z
          have := congrArg List.length z
          rw [List.length_map, tl] at this
          simp at this
        · rw [List.length_map, tl]
          omega
        have fm : (List.replicate (((b.length / (i + 1) : Nat) : Int)).toNat ((b.take (i + 1)).map V.int)).flatten = ((List.replicate (b.length / (i + 1)) (b.take (i + 1))).flatten).map V.int := by
          rw [show (((b.length / (i + 1) : Nat) : Int)).toNat = b.length / (i + 1) from Int.toNat_natCast _, flat_map]
        have s3 := s2.trans (same_new (o := .tup (List.replicate (((b.length / (i + 1) : Nat) : Int)).toNat ((b.take (i + 1)).map V.int)).flatten) np2)
        refine ⟨_, rfl, _, _, dp_IT (upd_IT fm), dp_IT (SqT.ext hT s3), sh_DT _, sh_DT _, _, rfl, ?_⟩
        by_cases rp : Rep b (i + 1)
        · refine iteTk ((eqv_DT _ _).trans (decide_eq_true rp)) ⟨_, rfl, _, rfl, _, rfl, t, _, rfl, SqT.ext hT s3, nw, fun p4 np4 => ?_⟩
          exact q _ _ _ ((s1.trans s3).trans (same_new np4)) (upd_IT ct) (sloop_take (by omega) (by omega) dvd rp fun e he hlt => no e he (by omega))
        · refine iteFk ((eqv_DT _ _).trans (decide_eq_false rp)) ⟨_, rfl, s1.trans s3, fun e h1 h2 => ?_⟩
          rcases Nat.lt_or_ge e (i + 1) with z | z
          · exact no e h1 (by omega)
          · have : e = i + 1 := by omega
            rw [this]
            exact fun y => rp y.2
      · refine iteFk (vne (by rw [em]; omega)) ?_
        refine iteF ⟨_, rfl, s1, fun e h1 h2 => ?_⟩
        rcases Nat.lt_or_ge e (i + 1) with z | z
        · exact no e h1 (by omega)
        · have : e = i + 1 := by omega
          rw [this]
          exact fun y => dv (Nat.mod_eq_zero_of_dvd y.1)
    · rintro σ H1 ⟨x1, rfl, s1, no⟩
      rw [List.length_map] at no
      exact ⟨_, rfl, q _ _ _ s1 (SqT.ext h1 s1) (sloop_self hne fun e h1 h2 => no e h1 (by omega))⟩
end Sw
set_option Elab.async false
set_option linter.all false
set_option maxRecDepth 100000
set_option maxHeartbeats 1000000
namespace Sw
open PySem PySem.Spec PyProof.Rows L2
variable {P : Program} {w : World} {K : PySem.W.Frag} {mg : Str → Option Value} {base : Heap}
/-! shortest -/
def spShortest (K : PySem.W.Frag) : Sp := fun vs H Q _ => ∃ (l t : Addr) (a b : List Int), vs = [.ref l, .ref t] ∧ IT K H l a ∧ IT K H t b ∧ b ≠ [] ∧ a.length ≤ 8 ∧ b.length ≤ 12 ∧
  ∀ H' p a' b', Same H H' → PairAt K H' p a' b' → Mid a b a' b' → Canon a' b' → Q (.ref p) H'
theorem sc_shortest : FnScope ["lead", "turn"] ["lead", "turn"] (defScope sShortest) := ⟨rfl, rfl, rfl, by decide +kernel, rfl, by decide +kernel, by decide +kernel⟩
theorem cutInit (a : List Int) : cutV (a.map V.int) none (some (-1)) = a.dropLast.map V.int := by rw [cut_init, map_dropLast]
theorem notWhole {a : List Int} (h : a ≠ []) : ¬ (HT.sIx (a.map V.int).length 0 none = 0 ∧ HT.sIx (a.map V.int).length (a.map V.int).length (some (-1)) = (a.map V.int).length) := by
  have := List.length_pos_iff.mpr h
  rw [sIx_neg, List.length_map]
  omega
theorem atLast {a : List Int} (h : a ≠ []) : atI (a.map V.int) (-1) = some (.int (a.getLastD 1)) := by
  have := List.length_pos_iff.mpr h
  exact atI_neg (k := 1) (by decide) (by rw [List.length_map]; exact last_get h) (by rw [List.length_map]; omega)
theorem d_shortest (T : Tx K mg) : Def P w K mg base 2 "shortest" ["lead", "turn"] (spShortest K) := by
  refine mkDef T 1 5 rfl T.g_shortest sc_shortest (fun _ _ _ _ _ _ us hl => match us, hl with | [_, _], _ => rfl) (fun vs H Q E h => ?_) (fun cdv A outer s H vs Q E hr h => ?_)
  · obtain ⟨l, t, a, b, rfl, _⟩ := h
    rfl
  · obtain ⟨l, t, a, b, rfl, h1, h2, hne, hla, hlb, q⟩ := h
    refine ⟨_, pss_cons (ps_set (i := 1) sc_shortest.nd rfl (.inl rfl) (pe_cal (d_shortest_loop T) hr (by rfl) (pa_cons (pv 1) pa_nil)))
      (pss_cons (ps_while PassesOwn.never (PW.pt (pw_and (pt_cmpR (op_neD hr.units) (pv 0) (pe_tup pa_nil) (nomark _)) (pw_and1 (pt_cmpR op_eq (pe_ix ix_tup (pv 0) (pe_un un_neg pe_int) (fun _ _ => rfl)) (pe_ix ix_tup (pv 1) (pe_un un_neg pe_int) (fun _ _ => rfl)) (nomark _)))))
        (pss_one (ps_par (i := 0) (j := 1) (by rfl) sc_shortest.nd rfl rfl (by decide) rfl rfl (pa_cons (pe_slice sl_tup (pv 0) po_none (po_some (pe_un un_neg pe_int)))
          (pa_cons (pe_tup (pa_cons (pe_ix ix_tup (pv 1) (pe_un un_neg pe_int) (fun _ _ => rfl)) (StX.pa_star (pe_slice sl_tup (pv 1) po_none (po_some (pe_un un_neg pe_int))) pa_nil))) pa_nil)) (by rfl))))
      (pss_one (ps_ret (pe_tup (pa_cons (pv 0) (pa_cons (pv 1) pa_nil)))))), ?_⟩
    refine ⟨_, rfl, t, b, rfl, h2, hne, hlb, fun H1 t1 c s1 hc sl => ?_⟩
    refine ⟨fun m σ H2 => ∃ l2 t2 a2 b2, σ = [some (.ref l2), some (.ref t2)] ∧ Same H H2 ∧ IT K H2 l2 a2 ∧ IT K H2 t2 b2 ∧ Mid a b a2 b2 ∧ m = a2.length, ⟨_, l, t1, a, c, rfl, s1, SqT.ext h1 s1, hc, mid_start sl, rfl⟩, ?_⟩
    rintro m σ H2 ⟨l2, t2, a2, b2, rfl, s2, i1, i2, md, rfl⟩
    refine ⟨_, rfl, by decide, fun e ne => ?_⟩
    have s3 : Same H2 (upd H2 e (.tup [])) := same_new ne
    refine ⟨_, _, dp_IT (SqT.ext i1 s3), .tup (SqT.of upd_same) (dpAll_ints []), sh_DT _, sh_DT [], _, rfl, ?_⟩
    have fin : ∀ H3, Same H2 H3 → (a2 = [] ∨ a2.getLastD 1 ≠ b2.getLastD 1) → ∀ p, H3 p = none → Q (.ref p) (upd H3 p (.tup [.ref l2, .ref t2])) := fun H3 s4 hend p np => by
      have s5 : Same H2 (upd H3 p (.tup [.ref l2, .ref t2])) := s4.trans (same_new np)
      exact q _ p a2 b2 (s2.trans s5) ⟨l2, t2, SqT.of upd_same, SqT.ext i1 s5, SqT.ext i2 s5⟩ md (mid_end md hend)
    by_cases z : a2 = []
    · refine iteFk (by rw [eqv_DT, decide_eq_true z]; rfl) ?_
      refine iteF ?_
      exact ⟨_, rfl, _, rfl, by show 2 ≤ sizeLine; decide, fin _ s3 (.inl z)⟩
    · refine iteTk (by rw [eqv_DT, decide_eq_false z]; rfl) ?_
      refine ⟨_, rfl, 1, rfl, l2, _, _, _, rfl, rfl, SqT.ext i1 s3, atLast z, _, rfl, 1, rfl, t2, _, _, _, rfl, rfl, SqT.ext i2 s3, atLast md.ne, rfl, _, rfl, ?_⟩
      by_cases y : a2.getLastD 1 = b2.getLastD 1
      · refine iteTk (veq y) ?_
        have ml := List.length_pos_iff.mpr z
        refine ⟨fun σ' H' => ∃ l2 t2 a3 b3, σ' = [some (.ref l2), some (.ref t2)] ∧ Same H H' ∧ IT K H' l2 a3 ∧ IT K H' t2 b3 ∧ Mid a b a3 b3 ∧ a3.length < a2.length, fun σ' H' ⟨l3, t3, a3, b3, e, k1, k2, k3, k4, k5⟩ => ⟨a3.length, k5, l3, t3, a3, b3, e, k1, k2, k3, k4, rfl⟩, ?_⟩
        refine ⟨_, rfl, 1, rfl, -1, rfl, l2, _, rfl, SqT.ext i1 s3, notWhole z, fun p np => ?_⟩
        have s4 := s3.trans (same_new (o := .tup (cutV (a2.map V.int) none (some (-1)))) np)
        refine ⟨_, rfl, 1, rfl, t2, _, _, _, rfl, rfl, SqT.ext i2 s4, atLast md.ne, _, rfl, 1, rfl, -1, rfl, t2, _, rfl, SqT.ext i2 s4, notWhole md.ne, fun p2 np2 => ?_⟩
        have s5 := s4.trans (same_new (o := .tup (cutV (b2.map V.int) none (some (-1)))) np2)
        refine ⟨p2, _, rfl, .inl (upd_IT (cutInit b2)), ?_⟩
        refine ⟨?_, fun p3 np3 => ?_⟩
        · have k2 := md.lb
          show (b2.dropLast.map V.int ++ []).length + 1 ≤ sizeLine
          rw [List.append_nil, sizeLine_eq, List.length_map, List.length_dropLast]
          omega
        · have er : V.int (b2.getLastD 1) :: (b2.dropLast.map V.int ++ []) = (rot b2).map V.int := by
            rw [List.append_nil]
            rfl
          have s6 := s5.trans (same_new (o := .tup (V.int (b2.getLastD 1) :: (b2.dropLast.map V.int ++ []))) np3)
          have ip := SqT.ext (SqT.ext (upd_IT (K := K) (H := upd H2 e (.tup [])) (p := p) (cutInit a2)) (same_new np2)) (same_new (o := .tup (V.int (b2.getLastD 1) :: (b2.dropLast.map V.int ++ []))) np3)
          refine ⟨_, _, rfl, ?_⟩
          refine ⟨p, p3, a2.dropLast, rot b2, rfl, s2.trans s6, ip, upd_IT er, mid_turn md z y, ?_⟩
          rw [List.length_dropLast]
          omega
      · refine iteFk (vne y) ?_
        exact ⟨_, rfl, _, rfl, by show 2 ≤ sizeLine; decide, fin _ s3 (.inr y)⟩
/-! listed -/
theorem str20 : ∀ n : Nat, n < 21 → ((toString (n : Int) : String) : Str).length ≤ 2 := by decide +kernel
theorem str_len {i : Int} (h : 1 ≤ i ∧ i ≤ 20) : ((toString i : String) : Str).length ≤ 2 := by
  have e : i = ((i.toNat : Nat) : Int) := by omega
  rw [e]
  exact str20 _ (by omega)
def spListed (K : PySem.W.Frag) : Sp := fun vs H Q _ => ∃ (p : Addr) (a : List Int), vs = [.ref p] ∧ IT K H p a ∧ Parts a ∧ a.length ≤ 20 ∧ ∀ H' z, Same H H' → z.length ≤ 1000 → Q (.str z) H'
theorem sc_listed : FnScope ["numbers", "number"] ["numbers"] (defScope sListed) := ⟨rfl, rfl, rfl, by decide +kernel, rfl, by decide +kernel, by decide +kernel⟩
def txtsOf (a : List Int) : List Str := a.map fun i => ((toString i : String) : Str)
theorem txts_sum {a : List Int} (h : Parts a) : ((txtsOf a).map (·.length)).sum ≤ 2 * a.length := by
  induction a with
  | nil => exact Nat.zero_le _
  | cons x a ih =>
    have h1 := str_len (h x (List.mem_cons_self ..))
    have h2 := ih fun y hy => h y (List.mem_cons_of_mem _ hy)
    show ((toString x : String) : Str).length + ((txtsOf a).map (·.length)).sum ≤ 2 * (a.length + 1)
    omega
theorem d_listed (T : Tx K mg) : Def P w K mg base 1 "listed" ["numbers"] (spListed K) := by
  refine mkDef T 0 6 rfl T.g_listed sc_listed (fun _ _ _ _ _ _ us hl => match us, hl with | [_], _ => rfl) (fun vs H Q E h => ?_) (fun cdv A outer s H vs Q E hr h => ?_)
  · obtain ⟨p, a, rfl, _⟩ := h
    rfl
  · obtain ⟨p, a, rfl, h1, hp, hl, q⟩ := h
    refine ⟨_, pss_one (ps_ret (pe_join pe_str (pe_lc (own := [("number", 1)]) (g := gName 1) rfl sc_listed.nd (pi_tup (pv 0)) (blkOk_by (own := [("number", 1)]) (N := ["numbers", "number"]) (sc := defScope sListed) (by decide +kernel)) (fun _ _ _ _ _ => pg_name (i := 1) sc_listed.nd rfl (Or.inl rfl)) (fun _ _ _ _ _ => pts_nil)
      (fun _ _ _ _ _ => pe_callTy call_str_int (by rfl) T.f_str boot_str (pa_cons (pv 1) pa_nil))))), ?_⟩
    refine ⟨⟨_, rfl⟩, _, rfl, p, rfl, ⟨_, h1⟩, fun D nD => lc_tup (K := K) (a := p) (xs := a.map V.int) (fun i H' => Same H H' ∧ H' D = some (.lst ((txtsOf (a.take i)).map V.str))) ⟨same_new nD, upd_same⟩ (fun i H' _ ⟨s1, _⟩ => SqT.ext h1 s1) ?_ ?_⟩
    · rintro i y H1 hi ⟨s1, hD⟩
      obtain ⟨n, hn, rfl⟩ := map_at hi
      have il := (List.getElem?_eq_some_iff.mp hn).1
      have hb := hp n (List.mem_of_getElem? hn)
      refine ⟨rfl, _, rfl, n, rfl, ?_, _, hD, ?_, ?_, ?_⟩
      · exact Nat.lt_of_le_of_lt (show n.natAbs.log2 ≤ n.natAbs from Nat.log2_le_self _) (by omega)
      · rw [txtsOf, List.length_map, List.length_map, List.length_take]
        exact Nat.lt_of_le_of_lt (Nat.min_le_left _ _) (small1000 (by omega))
      · intro b o e
        have nb : b ≠ D := ne_of_none e nD
        rw [upd_ne nb]
        exact s1 _ _ e
      · rw [upd_same, List.take_add_one, hn]
        simp [txtsOf]
    · rintro H1 ⟨s1, hD⟩
      rw [List.length_map, List.take_length] at hD
      refine ⟨_, D, txtsOf a, rfl, rfl, .inl (SqL.of hD), ?_, ?_⟩
      · have := txts_sum hp
        have e : (txtsOf a).length = a.length := by rw [txtsOf, List.length_map]
        rw [e]
        have e2 : ((",":String) : Str).length = 1 := by decide +kernel
        rw [e2]
        omega
      · refine q _ _ s1 ?_
        rw [TL.join_eq]
        have j := StrLaws.join_length_le ((",":String) : Str) (txtsOf a)
        have := txts_sum hp
        have e : (txtsOf a).length = a.length := by rw [txtsOf, List.length_map]
        have e2 : ((",":String) : Str).length = 1 := by decide +kernel
        rw [e, e2] at j
        omega
end Sw
set_option Elab.async false
set_option linter.all false
set_option maxRecDepth 100000
set_option maxHeartbeats 1000000
namespace Sw
open PySem PySem.Spec PyProof.Rows L2
variable {P : Program} {w : World} {K : PySem.W.Frag} {mg : Str → Option Value} {base : Heap}
/-! Slope.__init__ -/
def spInit (K : PySem.W.Frag) : Sp := fun vs H Q _ => ∃ (p l t dx : Addr) (a b : List Int), vs = [.ref p, .ref l, .ref t] ∧ H p = some (.ins (He.ga K "Slope") dx []) ∧ IT K H l a ∧ IT K H t b ∧ Parts a ∧ Parts b ∧ b ≠ [] ∧ a.length ≤ 8 ∧ b.length ≤ 12 ∧
  ∀ H' a' b', SlopeAt K H' p a' b' → Mid a b a' b' → Canon a' b' → (∀ c o, H c = some o → c ≠ p → H' c = some o) → Q .non H'
theorem sc_init : FnScope ["self", "lead", "loop", "some", "turn"] ["self", "lead", "loop"] (defScope sSlopeInit) := ⟨rfl, rfl, rfl, by decide +kernel, rfl, by decide +kernel, by decide +kernel⟩
theorem seqT_keep {H H' : Hp} {p q : Addr} {xs : List V} {C dx : Addr} {fs : List (Str × V)} (hp : H p = some (.ins C dx fs)) (k : ∀ c o, H c = some o → c ≠ p → H' c = some o) (h : SqT K H q xs) : SqT K H' q xs := by
  rcases h with (h | ⟨o, h⟩) | h
  · exact .inl (.inl (k _ _ h fun z => by rw [z, hp] at h; cases h))
  · exact .inl (.inr ⟨o, k _ _ h fun z => by rw [z, hp] at h; cases h⟩)
  · exact .inr h
theorem pair_keep {H H' : Hp} {p q : Addr} {a b : List Int} {C dx : Addr} {fs : List (Str × V)} (hp : H p = some (.ins C dx fs)) (k : ∀ c o, H c = some o → c ≠ p → H' c = some o) (h : PairAt K H q a b) : PairAt K H' q a b := by
  obtain ⟨l, r, h1, h2, h3⟩ := h
  exact ⟨l, r, seqT_keep hp k h1, seqT_keep hp k h2, seqT_keep hp k h3⟩
theorem ok_init (T : Tx K mg) : ∃ fd, FnOk P w K mg base CX0 4 (He.ma K (He.ga K "Slope") "__init__") fd ["self", "lead", "loop"] (spInit K) ∧ Binds K fd ["self", "lead", "loop"] [] := by
  obtain ⟨fd, F⟩ := T.fn 41 _ rfl
  have F' : FunD K "__init__" "Slope.__init__" (defArgs sSlopeInit) (defBody sSlopeInit) (defScope sSlopeInit) [] [] (He.ma K (He.ga K "Slope") "__init__") fd := F
  refine ⟨fd, funD_okN F' sc_init (fun vs H Q E h => ?_) (fun cdv A outer s H vs Q E hr h => ?_), F'.bindsN fun _ _ _ _ _ _ us hl => match us, hl with | [_, _, _], _ => rfl⟩
  · obtain ⟨p, l, t, dx, a, b, rfl, _⟩ := h
    rfl
  · obtain ⟨p, l, t, dx, a, b, rfl, hp, h1, h2, pa, pb, hne, hla, hlb, q⟩ := h
    have hr2 : Room 2 _ := hr.mono (by decide)
    have hr1 : Room 1 _ := hr.mono (by decide)
    refine ⟨_, pss_cons (ps_expr (pe_cal (d_check_lead T) hr (by rfl) (pa_cons (pv 1) pa_nil)))
      (pss_cons (ps_expr (pe_cal (d_check_loop T) hr (by rfl) (pa_cons (pv 2) pa_nil)))
      (pss_cons (ps_asg (pe_cal (d_shortest T) hr2 (by rfl) (pa_cons (pv 1) (pa_cons (pv 2) pa_nil))) (pg_tup rfl (pgs_cons (pg_name (i := 3) sc_init.nd rfl (.inl rfl)) (pgs_cons (pg_name (i := 4) sc_init.nd rfl (.inl rfl)) pgs_nil))))
      (pss_cons (ps_fld (pv 0) (pe_tup (pa_cons (pv 3) (pa_cons (pv 4) pa_nil))) rfl)
      (pss_one (ps_fld (pv 0) (pe_op op_add_str (pe_op op_add_str (pe_cal (d_listed T) hr1 (by rfl) (pa_cons (pv 3) pa_nil)) pe_str) (pe_cal (d_listed T) hr1 (by rfl) (pa_cons (pv 4) pa_nil))) rfl))))), ?_⟩
    refine ⟨_, rfl, l, a, rfl, h1, hla, pa, fun H1 s1 => ?_⟩
    refine ⟨_, rfl, t, b, rfl, SqT.ext h2 s1, hne, hlb, pb, fun H2 s2 => ?_⟩
    have s02 := s1.trans s2
    refine ⟨_, rfl, _, rfl, l, t, a, b, rfl, SqT.ext h1 s02, SqT.ext h2 s02, hne, hla, hlb, fun H3 r a' b' s3 pr md cn => ?_⟩
    have s03 := s02.trans s3
    obtain ⟨l', t', k1, k2, k3⟩ := pr
    refine ⟨r, _, rfl, k1, rfl, _, _, rfl, _, _, rfl, rfl, ?_⟩
    refine ⟨_, rfl, _, rfl, by show 2 ≤ sizeLine; decide, fun h nh => ?_⟩
    have s4 : Same H3 (upd H3 h (.tup [.ref l', .ref t'])) := same_new nh
    have s04 := s03.trans s4
    have hp4 := s04 _ _ hp
    refine ⟨_, rfl, p, He.ga K "Slope", dx, [], rfl, hp4, T.cl, T.nH, by show 0 < 1000; decide, ?_⟩
    -- the words
    have keep1 : ∀ c o, H c = some o → c ≠ p → (upd (upd H3 h (.tup [.ref l', .ref t'])) p (.ins (He.ga K "Slope") dx (putF "held" (.ref h) []))) c = some o := fun c o e ne => by
      rw [upd_ne ne]
      exact s04 _ _ e
    have i1 : IT K (upd (upd H3 h (.tup [.ref l', .ref t'])) p (.ins (He.ga K "Slope") dx (putF "held" (.ref h) []))) l' a' := seqT_keep hp4 (fun c o e ne => by rw [upd_ne ne]; exact e) (SqT.ext k2 s4)
    have i2 : IT K (upd (upd H3 h (.tup [.ref l', .ref t'])) p (.ins (He.ga K "Slope") dx (putF "held" (.ref h) []))) t' b' := seqT_keep hp4 (fun c o e ne => by rw [upd_ne ne]; exact e) (SqT.ext k3 s4)
    have i3 : SqT K (upd (upd H3 h (.tup [.ref l', .ref t'])) p (.ins (He.ga K "Slope") dx (putF "held" (.ref h) []))) h [.ref l', .ref t'] := seqT_keep hp4 (fun c o e ne => by rw [upd_ne ne]; exact e) (SqT.of upd_same)
    have pp := rot_canon_parts md pa pb
    have l1 := md.la
    have l2 := md.lb
    refine ⟨_, rfl, l', a', rfl, i1, pp.1, by omega, fun H5 z1 s5 lz1 => ?_⟩
    refine ⟨_, _, rfl, rfl, ?_, ?_⟩
    · have e2 : (("/":String) : Str).length = 1 := by decide +kernel
      rw [e2, sizeLine_eq]
      omega
    refine ⟨_, rfl, t', b', rfl, SqT.ext i2 s5, pp.2, by omega, fun H6 z2 s6 lz2 => ?_⟩
    refine ⟨_, _, rfl, rfl, ?_, ?_⟩
    · have e2 : (("/":String) : Str).length = 1 := by decide +kernel
      rw [Str.length_append, e2, sizeLine_eq]
      omega
    have s56 := s5.trans s6
    refine ⟨_, rfl, p, He.ga K "Slope", dx, _, rfl, s56 _ _ upd_same, T.cl, T.nW, by show 1 < 1000; decide, ?_⟩
    have hp6 := s56 _ _ (upd_same (H := upd H3 h (.tup [.ref l', .ref t'])) (a := p))
    refine q _ a' b' ⟨dx, h, _, upd_same, ?_⟩ md cn fun c o e ne => ?_
    · exact pair_keep hp6 (fun c o e ne => by rw [upd_ne ne]; exact e) ⟨l', t', SqT.ext i3 s56, SqT.ext i1 s56, SqT.ext i2 s56⟩
    · rw [upd_ne ne]
      exact s56 _ _ (keep1 c o e ne)
/-! Slope.__eq__ -/
def spSlopeEq (K : PySem.W.Frag) : Sp := fun vs H Q _ => ∃ (p q : Addr) (a b a' b' : List Int), vs = [.ref p, .ref q] ∧ SlopeAt K H p a b ∧ SlopeAt K H q a' b' ∧ Q (.bl (decide (a = a' ∧ b = b'))) H
theorem sc_eq : FnScope ["self", "other"] ["self", "other"] (defScope sSlopeEq) := ⟨rfl, rfl, rfl, by decide +kernel, rfl, by decide +kernel, by decide +kernel⟩
theorem ok_eq (T : Tx K mg) : ∃ fd, FnOk P w K mg base CX0 1 (He.ma K (He.ga K "Slope") "__eq__") fd ["self", "other"] (spSlopeEq K) ∧ Binds K fd ["self", "other"] [] := by
  obtain ⟨fd, F⟩ := T.fn 42 _ rfl
  have F' : FunD K "__eq__" "Slope.__eq__" (defArgs sSlopeEq) (defBody sSlopeEq) (defScope sSlopeEq) [] [] (He.ma K (He.ga K "Slope") "__eq__") fd := F
  refine ⟨fd, funD_okN F' sc_eq (fun vs H Q E h => ?_) (fun cdv A outer s H vs Q E hr h => ?_), F'.bindsN fun _ _ _ _ _ _ us hl => match us, hl with | [_, _], _ => rfl⟩
  · obtain ⟨p, q, a, b, a', b', rfl, _⟩ := h
    rfl
  · obtain ⟨p, q, a, b, a', b', rfl, ⟨dx, hd, wd, h1, h2⟩, ⟨dy, he, we, h3, h4⟩, k⟩ := h
    refine ⟨_, pss_cons (ps_if (pt_not (pt_val (pe_callB (C8.call_isC T.isC) (by rfl) T.f_isinstance boot_isinstance (pa_cons (pv 1) (pa_cons (pe_slope T.g_Slope (by rfl)) pa_nil))))) (pss_one (ps_ret pe_bl)) pss_nil)
      (pss_one (ps_ret (pe_cmpR (op_eqD hr.units) (pe_fld (pv 0) rfl) (pe_fld (pv 1) rfl) (nomark _)))), ?_⟩
    refine ⟨_, rfl, q, dy, _, rfl, h3, true, rfl, iteF ?_⟩
    refine ⟨_, rfl, p, He.ga K "Slope", dx, _, _, rfl, h1, T.cl, T.nH, sf_held _ _, _, rfl, q, He.ga K "Slope", dy, _, _, rfl, h3, T.cl, T.nH, sf_held _ _, _, _, dp_PT h2, dp_PT h4, sh_PT _ _, sh_PT _ _, ?_⟩
    show Q (.bl (PyData.eqv (.tuple [DT a, DT b]) (.tuple [DT a', DT b']))) H
    rw [eqv_PT]
    exact k
/-- slope == other -/
theorem op_slopeEq {X : Cx} (T : Tx X.K X.mg) (hr : Room 1 X.A) : OpR X (compareOp .Eq) (rOwnEq (He.ga X.K "Slope") (spSlopeEq X.K) E0) := by
  obtain ⟨fd, F, b⟩ := ok_eq (P := X.prog) (w := X.w) (base := X.base) T
  exact op_ownEq F hr T.me.1 T.me.2 b pass0
/-- Slope(lead, loop) -/
theorem pe_mkSlope {X : Cx} (T : Tx X.K X.mg) (hr : Room 5 X.A) {e : Expr} {es : List Expr} {t : TA} {p pos : Pos} (hg : Gl X "Slope") (ha : PA X (e :: es) t) (he : starEach (e :: es) X.env = (false, eval e X.env) :: starEach es X.env := by rfl) (hpl : (backTo pos (starEach es X.env)).any (·.1) = false := by rfl) :
    PE X (.Call (.Name "Slope" p) (e :: es) [] pos) (tMake (He.ga X.K "Slope") (spInit X.K) [] E0 t) := by
  obtain ⟨fd, F, b⟩ := ok_init (P := X.prog) (w := X.w) (base := X.base) T
  exact pe_make T.mkr F hr hg T.g_Slope b .nil pass0 ha (by decide) he hpl
end Sw
set_option Elab.async false
set_option linter.all false
set_option maxRecDepth 100000
set_option maxHeartbeats 1000000
namespace Sw
open PySem PySem.Spec PyProof.Rows L2
variable {P : Program} {w : World} {K : PySem.W.Frag} {mg : Str → Option Value} {base : Heap}
/-- at F a list of N neighbours, from the o-th on -/
def NbAt (K : PySem.W.Frag) (H : Hp) (F : Addr) (s : Nat → Int) (o N : Nat) : Prop := ∃ rs : List Addr, H F = some (.lst (rs.map V.ref)) ∧ rs.length = N ∧ ∀ i r, rs[i]? = some r → SqT K H r [.int (pk s (i + o)), .int (qk s (i + o))]
theorem NbAt.ext {H H' : Hp} {F : Addr} {s : Nat → Int} {o N : Nat} (h : NbAt K H F s o N) (e : Same H H') : NbAt K H' F s o N := by
  obtain ⟨rs, h1, h2, h3⟩ := h
  exact ⟨rs, e _ _ h1, h2, fun i r hr => SqT.ext (h3 i r hr) e⟩
theorem seqT_lst {H : Hp} {p q : Addr} {xs ys zs : List V} (hp : H p = some (.lst ys)) (h : SqT K H q xs) : SqT K (upd H p (.lst zs)) q xs := by
  rcases h with (h | ⟨o, h⟩) | h
  · exact .inl (.inl (by rw [upd_ne (fun z => by rw [z, hp] at h; cases h)]; exact h))
  · exact .inl (.inr ⟨o, by rw [upd_ne (fun z => by rw [z, hp] at h; cases h)]; exact h⟩)
  · exact .inr h
theorem same_lst {H0 H : Hp} {p : Addr} {zs : List V} (n : H0 p = none) (e : Same H0 H) : Same H0 (upd H p (.lst zs)) := fun b o h => by
  rw [upd_ne (ne_of_none h n)]
  exact e _ _ h
/-- one more neighbour appended -/
theorem NbAt.more {H : Hp} {F T : Addr} {s : Nat → Int} {o N : Nat} (h : NbAt K H F s o N) (nT : H T = none) (u : HO) (hu : u = .tup [.int (pk s (N + o)), .int (qk s (N + o))]) :
    ∃ xs, (upd H T u) F = some (.lst xs) ∧ xs.length = N ∧ NbAt K (upd (upd H T u) F (.lst (xs ++ [.ref T]))) F s o (N + 1) := by
  obtain ⟨rs, h1, h2, h3⟩ := h
  have hF : (upd H T u) F = some (.lst (rs.map V.ref)) := same_new nT _ _ h1
  refine ⟨_, hF, by rw [List.length_map, h2], rs ++ [T], by rw [upd_same, List.map_append]; rfl, by rw [List.length_append, h2]; rfl, fun i r hr => ?_⟩
  rcases Nat.lt_or_ge i rs.length with c | c
  · rw [List.getElem?_append_left c] at hr
    exact seqT_lst hF (SqT.ext (h3 i r hr) (same_new nT))
  · rw [List.getElem?_append_right c] at hr
    have ei : i - rs.length = 0 := by
      have := (List.getElem?_eq_some_iff.mp hr).1
      simp at this
      omega
    rw [ei] at hr
    have er : T = r := Option.some.inj hr
    have e2 : i = N := by omega
    rw [← er, e2]
    refine seqT_lst hF (SqT.of ?_)
    rw [upd_same, hu]
theorem NbAt.get {H : Hp} {F : Addr} {s : Nat → Int} {o N i : Nat} (h : NbAt K H F s o N) (hi : i < N) : ∃ xs r, H F = some (.lst xs) ∧ xs.length = N ∧ xs[i]? = some (.ref r) ∧ SqT K H r [.int (pk s (i + o)), .int (qk s (i + o))] := by
  obtain ⟨rs, h1, h2, h3⟩ := h
  have hi' : i < rs.length := by omega
  exact ⟨_, rs[i], h1, by rw [List.length_map, h2], by rw [List.getElem?_map, List.getElem?_eq_getElem hi']; rfl, h3 i _ (List.getElem?_eq_getElem hi')⟩
/-! neighbours_past -/
structure Past (s : Nat → Int) (bot : Int) (N : Nat) : Prop where
  n4 : 4 ≤ N
  n300 : N ≤ 300
  lo : qk s (N - 3) ≤ bot
  hi : ∀ k, N - 3 < k → k ≤ N → bot < qk s k
def spPast (K : PySem.W.Frag) : Sp := fun vs H Q _ => ∃ (p : Addr) (a b : List Int) (bot : Int), vs = [.ref p, .int bot] ∧ SlopeAt K H p a b ∧ b ≠ [] ∧ Parts a ∧ Parts b ∧ 1 ≤ bot ∧ bot ≤ MX ∧
  ∀ H' F N, Same H H' → NbAt K H' F (sq a b) 1 N → Past (sq a b) bot N → Q (.ref F) H'
theorem sc_past : FnScope ["slope", "bottom", "p", "q", "later", "wider", "many", "found", "beyond", "part"] ["slope", "bottom"] (defScope sNeighboursPast) := ⟨rfl, rfl, rfl, by decide +kernel, rfl, by decide +kernel, by decide +kernel⟩
theorem d_past (T : Tx K mg) : Def P w K mg base 2 "neighbours_past" ["slope", "bottom"] (spPast K) := by
  refine mkDef T 1 9 rfl T.g_neighbours_past sc_past (fun _ _ _ _ _ _ us hl => match us, hl with | [_, _], _ => rfl) (fun vs H Q E h => ?_) (fun cdv A outer s H vs Q E hr h => ?_)
  · obtain ⟨p, a, b, bot, rfl, _⟩ := h
    rfl
  · obtain ⟨p, a, b, bot, rfl, h1, hne, pa, pb, hb1, hbM, q⟩ := h
    have nd := sc_past.nd
    have sp := sq_pos pa pb
    refine ⟨_, pss_cons (ps_asg (pe_tup (pa_cons pe_int (pa_cons pe_int (pa_cons pe_int (pa_cons pe_int (pa_cons pe_int pa_nil))))))
          (pg_tup rfl (pgs_cons (pg_name (i := 2) nd rfl (.inl rfl)) (pgs_cons (pg_name (i := 3) nd rfl (.inl rfl)) (pgs_cons (pg_name (i := 4) nd rfl (.inl rfl)) (pgs_cons (pg_name (i := 5) nd rfl (.inl rfl)) (pgs_cons (pg_name (i := 6) nd rfl (.inl rfl)) pgs_nil)))))))
      (pss_cons (ps_par (i := 7) (j := 8) (by rfl) nd rfl rfl (by decide) rfl rfl (pa_cons (pe_lst (pa_cons (pe_tup (pa_cons pe_int (pa_cons pe_int pa_nil))) pa_nil)) (pa_cons pe_int pa_nil)) (by rfl))
      (pss_cons (ps_while PassesOwn.never (pt_cmpR op_lt (pv 8) pe_int (nomark _))
        (pss_cons (ps_aug (i := 6) nd rfl (.inl rfl) pe_int ip_add)
        (pss_cons (ps_set (i := 9) nd rfl (.inl rfl) (pe_cal (d_part_at T) hr (by rfl) (pa_cons (pv 0) (pa_cons (pv 6) pa_nil))))
        (pss_cons (ps_asg (pe_tup (pa_cons (pv 4) (pa_cons (pv 5) (pa_cons (pe_op op_add (pe_op op_mul (pv 9) (pv 4)) (pv 2)) (pa_cons (pe_op op_add (pe_op op_mul (pv 9) (pv 5)) (pv 3)) pa_nil)))))
          (pg_tup rfl (pgs_cons (pg_name (i := 2) nd rfl (.inl rfl)) (pgs_cons (pg_name (i := 3) nd rfl (.inl rfl)) (pgs_cons (pg_name (i := 4) nd rfl (.inl rfl)) (pgs_cons (pg_name (i := 5) nd rfl (.inl rfl)) pgs_nil))))))
        (pss_cons (ps_expr (pe_bm PySem.F.plainAttrs_list PySem.F.slot_list_append PySem.F.type_list_append mt_append (pv 7) (pa_cons (pe_tup (pa_cons (pv 4) (pa_cons (pv 5) pa_nil))) pa_nil)))
        (pss_one (ps_aug (i := 8) nd rfl (.inl rfl) (pe_callTy call_int1 (by rfl) T.f_int boot_int (pa_cons (pe_cmpR op_gt (pv 5) (pv 1) (nomark _)) pa_nil)) ip_add)))))))
      (pss_one (ps_ret (pv 7))))), ?_⟩
    refine ⟨by show 5 ≤ sizeLine; decide, fun t0 n0 => ?_⟩
    have s0 : Same H (upd H t0 (.tup [.int 1, .int 0, .int 0, .int 1, .int 0])) := same_new n0
    refine ⟨t0, _, rfl, SqT.of upd_same, rfl, _, _, rfl, _, _, rfl, _, _, rfl, _, _, rfl, _, _, rfl, rfl, ?_⟩
    refine ⟨by show 2 ≤ sizeLine; decide, fun t1 n1 => ⟨by show 1 ≤ sizeLine; decide, fun F nF => ?_⟩⟩
    have s1 := s0.trans (same_new (o := .tup [.int 0, .int 1]) n1)
    have s2 := s1.trans (same_new (o := .lst [.ref t1]) nF)
    have nF0 : H F = none := s1.free nF
    refine ⟨_, _, rfl, ?_⟩
    refine ⟨fun μ σ H' => ∃ (m bd : Nat) (x9 : Option V), σ = [some (.ref p), some (.int bot), some (.int (pk (sq a b) m)), some (.int (qk (sq a b) m)), some (.int (pk (sq a b) (m + 1))), some (.int (qk (sq a b) (m + 1))), some (.int m), some (.ref F), some (.int bd), x9] ∧
      Same H H' ∧ NbAt K H' F (sq a b) 1 (m + 1) ∧ bd ≤ 3 ∧ bd ≤ m ∧ qk (sq a b) (m + 1 - bd) ≤ bot ∧ (∀ k, m + 1 - bd < k → k ≤ m + 1 → bot < qk (sq a b) k) ∧ μ = 400 - m,
      ⟨400, 0, 0, none, rfl, s2, ?_, by decide, by decide, ?_, ?_, rfl⟩, ?_⟩
    · refine ⟨[t1], upd_same, rfl, fun i r hr => ?_⟩
      have hi := (List.getElem?_eq_some_iff.mp hr).1
      simp at hi
      subst hi
      have er : t1 = r := Option.some.inj hr
      rw [← er]
      exact SqT.ext (SqT.of upd_same) (same_new nF)
    · show (1 : Int) ≤ bot
      exact hb1
    · intro k k1 k2
      omega
    · rintro μ σ H1 ⟨m, bd, x9, rfl, s3, nb, b3, bm, lo, hi, rfl⟩
      have small := qk_small sp (Int.le_trans lo hbM)
      refine ⟨_, rfl, _, _, rfl, rfl, _, rfl, ?_⟩
      by_cases c : bd = 3
      · refine iteFk (decide_eq_false (by omega)) ?_
        refine ⟨_, rfl, q _ _ _ s3 nb ⟨by omega, by omega, ?_, fun k k1 k2 => hi k (by omega) k2⟩⟩
        rw [show m + 1 - 3 = m + 1 - bd by omega]
        exact lo
      · refine iteTk (decide_eq_true (by omega)) ?_
        refine ⟨fun σ H' => ∃ (bd : Nat) (x9 : Option V), σ = [some (.ref p), some (.int bot), some (.int (pk (sq a b) (m + 1))), some (.int (qk (sq a b) (m + 1))), some (.int (pk (sq a b) (m + 2))), some (.int (qk (sq a b) (m + 2))), some (.int ((m + 1 : Nat) : Int)), some (.ref F), some (.int bd), x9] ∧
          Same H H' ∧ NbAt K H' F (sq a b) 1 (m + 2) ∧ bd ≤ 3 ∧ bd ≤ m + 1 ∧ qk (sq a b) (m + 2 - bd) ≤ bot ∧ (∀ k, m + 2 - bd < k → k ≤ m + 2 → bot < qk (sq a b) k),
          fun σ' H' ⟨bd, x9, e, k1, k2, k3, k4, k5, k6⟩ => ⟨400 - (m + 1), by omega, m + 1, bd, x9, e, k1, k2, k3, k4, k5, k6, rfl⟩, ?_⟩
        refine ⟨_, rfl, _, _, rfl, rfl, ?_⟩
        refine ⟨_, rfl, _, rfl, p, a, b, m, rfl, h1.ext s3, hne, ?_⟩
        have sb := sq_parts pa pb m
        have e1 : sq a b m * pk (sq a b) (m + 1) + pk (sq a b) m = pk (sq a b) (m + 2) := rfl
        have e2 : sq a b m * qk (sq a b) (m + 1) + qk (sq a b) m = qk (sq a b) (m + 2) := rfl
        refine ⟨_, rfl, _, rfl, _, rfl, _, rfl, _, _, rfl, rfl, .inl ⟨by omega, by omega⟩, _, rfl, _, _, rfl, rfl, _, rfl, _, rfl, _, _, rfl, rfl, .inl ⟨by omega, by omega⟩, _, rfl, _, _, rfl, rfl, by show 4 ≤ sizeLine; decide, fun t2 n2 => ?_⟩
        have s4 := s3.trans (same_new (o := .tup [.int (pk (sq a b) (m + 1)), .int (qk (sq a b) (m + 1)), .int (pk (sq a b) (m + 2)), .int (qk (sq a b) (m + 2))]) n2)
        have nb4 := nb.ext (same_new (o := .tup [.int (pk (sq a b) (m + 1)), .int (qk (sq a b) (m + 1)), .int (pk (sq a b) (m + 2)), .int (qk (sq a b) (m + 2))]) n2)
        refine ⟨t2, _, rfl, SqT.of upd_same, rfl, _, _, rfl, _, _, rfl, _, _, rfl, _, _, rfl, rfl, ?_⟩
        obtain ⟨rs0, hF0, _⟩ := id nb4
        refine ⟨_, rfl, .inl ⟨rfl, _, SqL.of hF0⟩, _, rfl, _, rfl, by show 2 ≤ sizeLine; decide, fun t3 n3 => ?_⟩
        obtain ⟨xs, hF, hxl, nb5⟩ := nb4.more n3 _ rfl
        refine ⟨F, xs, _, rfl, rfl, hF, ?_, ?_⟩
        · rw [hxl]
          exact small1000 (by omega)
        have s5 : Same H _ := same_lst (zs := xs ++ [.ref t3]) nF0 (s4.trans (same_new (o := .tup [.int (pk (sq a b) (m + 2)), .int (qk (sq a b) (m + 2))]) n3))
        refine ⟨_, rfl, _, rfl, _, rfl, _, _, rfl, rfl, .inr ⟨_, rfl, ?_⟩⟩
        refine ⟨_, _, rfl, rfl, ?_⟩
        by_cases g : bot < qk (sq a b) (m + 2)
        · refine ⟨bd + 1, some (V.int (sq a b m)), ?_, s5, nb5, by omega, by omega, by rw [show m + 2 - (bd + 1) = m + 1 - bd by omega]; exact lo, fun k k1 k2 => ?_⟩
          · have eb : ((bd : Int) + if decide (bot < qk (sq a b) (m + 2)) = true then 1 else 0) = ((bd + 1 : Nat) : Int) := by
              rw [if_pos (decide_eq_true g)]
              rfl
            show [some (V.ref p), some (V.int bot), _, _, _, _, _, _, some (V.int ((bd : Int) + if decide (bot < qk (sq a b) (m + 2)) = true then 1 else 0)), _] = _
            rw [eb]
            rfl
          · rcases Nat.lt_or_ge k (m + 2) with z | z
            · exact hi k (by omega) (by omega)
            · have : k = m + 2 := by omega
              rw [this]
              exact g
        · have b0 : bd = 0 := by
            refine Nat.eq_zero_of_not_pos fun z => ?_
            have := hi (m + 1) (by omega) (by omega)
            have := qk_mono sp m
            omega
          subst b0
          refine ⟨0, some (V.int (sq a b m)), ?_, s5, nb5, by omega, by omega, by show qk (sq a b) (m + 2) ≤ bot; omega, fun k k1 k2 => by omega⟩
          have eb : (((0 : Nat) : Int) + if decide (bot < qk (sq a b) (m + 2)) = true then 1 else 0) = ((0 : Nat) : Int) := by
            rw [if_neg (by rw [decide_eq_false g]; decide)]
            rfl
          show [some (V.ref p), some (V.int bot), _, _, _, _, _, _, some (V.int (((0 : Nat) : Int) + if decide (bot < qk (sq a b) (m + 2)) = true then 1 else 0)), _] = _
          rw [eb]
          rfl
end Sw
set_option Elab.async false
set_option linter.all false
set_option maxRecDepth 100000
set_option maxHeartbeats 1000000
namespace Sw
open PySem PySem.Spec PyProof.Rows L2
variable {P : Program} {w : World} {K : PySem.W.Frag} {mg : Str → Option Value} {base : Heap}
/-- the whole part of v times the slope, v of any sign -/
structure FlA (s : Nat → Int) (v W : Int) : Prop where
  z : v = 0 → W = 0
  p : 0 < v → IsFl s v W
  n : v < 0 → IsFl s (-v) (-1 - W)
theorem past_size {s : Nat → Int} (h : PosQ s) (h20 : ∀ k, s k ≤ 20) {bot : Int} {N : Nat} (hb : 1 ≤ bot) (hM : bot ≤ MX) (q : Past s bot N) {k : Nat} (hk : 1 ≤ k) (hkN : k ≤ N) : 0 ≤ pk s k ∧ 0 < qk s k ∧ pk s k ≤ MX * MX ∧ qk s k ≤ MX * MX ∧ qk s k ≤ 9261 * bot := by
  have n4 := q.n4
  obtain ⟨j, hj⟩ : ∃ j, N = j + 4 := ⟨N - 4, by omega⟩
  have lo := q.lo
  rw [show N - 3 = j + 1 by omega] at lo
  have a := qk_three h h20 lo hb
  rw [← hj] at a
  have m := qk_mono' h hk hkN
  obtain ⟨i, hi⟩ : ∃ i, k = i + 1 := ⟨k - 1, by omega⟩
  have b := (pk_le_qk h i).1
  rw [← hi] at b
  have c := (pk_nonneg h k).1
  have d := q_pos h i
  rw [← hi] at d
  have big : 9261 * MX ≤ MX * MX := by decide +kernel
  refine ⟨c, d, ?_, ?_, by omega⟩ <;> omega
/-! multiple_at -/
def spMultP (K : PySem.W.Frag) : Sp := fun vs H Q _ => ∃ (p : Addr) (a b : List Int) (m : Int), vs = [.ref p, .int m] ∧ SlopeAt K H p a b ∧ b ≠ [] ∧ Parts a ∧ Parts b ∧ 1 ≤ m ∧ m ≤ MX ∧ ∀ H' W, Same H H' → IsFl (sq a b) m W → Q (.int W) H'
theorem sc_mult : FnScope ["slope", "many", "some", "place"] ["slope", "many"] (defScope sMultipleAt) := ⟨rfl, rfl, rfl, by decide +kernel, rfl, by decide +kernel, by decide +kernel⟩
theorem mult_pos (T : Tx K mg) (cdv : Value) (A : Around) (outer : List Env) (s : Shared) (H : Hp) (vs : List V) (Q : VK) (E : XK) (hr : Room 2 (A.deeper (envOfC "multiple_at" (defScope sMultipleAt) s.heap.objs.size (He.ga K "multiple_at") cdv))) (h : spMultP K vs H Q E) :
    ∃ t, PSs (cxOf CX0 P w K mg base ["slope", "many", "some", "place"] "multiple_at" (defScope sMultipleAt) (He.ga K "multiple_at") cdv A outer s H E).nox (defBody sMultipleAt) t ∧ t { nx := fun _ H' => Q .non H', rt := Q } (start ["slope", "many", "some", "place"] vs) H := by
  obtain ⟨p, a, b, m, rfl, h1, hne, pa, pb, hm1, hmM, q⟩ := h
  have nd := sc_mult.nd
  have sp := sq_pos pa pb
  refine ⟨_, pss_cons (ps_if (pt_cmpR op_lt (pv 1) pe_int (nomark _)) pss_never pss_nil)
    (pss_cons (ps_set (i := 2) nd rfl (.inl rfl) (pe_cal (d_past T) hr (by rfl) (pa_cons (pv 0) (pa_cons (pv 1) pa_nil))))
    (pss_cons (ps_set (i := 3) nd rfl (.inl rfl) (pe_ifExp (pt_cmpR op_eq (pe_op op_mod (pe_callB call_len_seq (by rfl) T.f_len PySem.boot_len (pa_cons (pv 2) pa_nil)) pe_int) pe_int (nomark _))
        (pe_op op_sub (pe_callB call_len_seq (by rfl) T.f_len PySem.boot_len (pa_cons (pv 2) pa_nil)) pe_int) (pe_op op_sub (pe_callB call_len_seq (by rfl) T.f_len PySem.boot_len (pa_cons (pv 2) pa_nil)) pe_int)))
    (pss_one (ps_ret (pe_op op_fdivW (pe_op op_mulW (pv 1) (pe_ix ix_tup (pe_ix ix_list (pv 2) (pv 3) (fun _ _ => rfl)) pe_int (fun _ _ => rfl))) (pe_ix ix_tup (pe_ix ix_list (pv 2) (pv 3) (fun _ _ => rfl)) pe_int (fun _ _ => rfl))))))), ?_⟩
  refine ⟨_, rfl, _, _, rfl, rfl, _, rfl, ?_⟩
  refine iteFk (decide_eq_false (by omega)) ?_
  refine ⟨_, rfl, _, rfl, p, a, b, m, rfl, h1, hne, pa, pb, hm1, hmM, fun H1 F N s1 nb ps => ?_⟩
  have n4 := ps.n4
  have n300 := ps.n300
  -- the place
  have go : ∀ j : Nat, 2 * j < N → N ≤ 2 * j + 2 → ∀ (e : V), e = .int ((2 * j : Nat) : Int) →
      tRet (tOp (rI CDivW fun i j => .int (i / j)) (tOp (rI CMulW fun i j => .int (i * j)) (tVar 1) (tOp (rIxT K) (tOp (rIxL K) (tVar 2) (tVar 3)) (tC (.int 0)))) (tOp (rIxT K) (tOp (rIxL K) (tVar 2) (tVar 3)) (tC (.int 1)))) { nx := fun _ H' => Q .non H', rt := Q } [some (.ref p), some (.int m), some (.ref F), some e] H1 := by
    rintro j hj1 hj2 e rfl
    obtain ⟨xs, r, hF, hl, hx, hT⟩ := nb.get hj1
    have sz := past_size sp (fun k => (sq_parts pa pb k).2) hm1 hmM ps (k := 2 * j + 1) (by omega) (by omega)
    have gt : m < qk (sq a b) (2 * j + 1) := ps.hi _ (by omega) (by omega)
    have w1 : m.natAbs < 2 ^ 250 := wlt (by omega) (by omega)
    have w2 := wlt sz.1 sz.2.2.1
    have w3 := wlt (Int.le_of_lt sz.2.1) sz.2.2.2.1
    refine ⟨_, rfl, _, rfl, _, rfl, F, _, _, _, rfl, rfl, SqL.of hF, atI_nat hx, r, _, _, _, rfl, rfl, hT, atI_nat (j := 0) rfl, _, _, rfl, rfl, wide_mul w1 w2 (by decide) (by decide) (by decide), ?_⟩
    refine ⟨_, rfl, _, rfl, F, _, _, _, rfl, rfl, SqL.of hF, atI_nat hx, r, _, _, _, rfl, rfl, hT, atI_nat (j := 1) rfl, _, _, rfl, rfl, wide_div sz.2.1 w3 (by decide) (by decide), ?_⟩
    exact q _ _ s1 (fl_below sp j hm1 gt)
  obtain ⟨rs, hF, hl, _⟩ := id nb
  have hl2 : (rs.map V.ref).length = N := by rw [List.length_map, hl]
  refine ⟨_, rfl, F, _, rfl, .inl (SqL.of hF), _, _, rfl, rfl, by show (0 : Int) < 2; decide, rfl, _, rfl, ?_⟩
  rw [hl2]
  by_cases c : N % 2 = 1
  · refine iteTk (veq (by show ((N : Nat) : Int) % 2 = 1; omega)) ?_
    refine ⟨_, rfl, F, _, rfl, .inl (SqL.of hF), _, _, rfl, rfl, ?_⟩
    exact go ((N - 1) / 2) (by omega) (by omega) _ (congrArg V.int (by rw [hl2]; omega))
  · refine iteFk (vne (by show ((N : Nat) : Int) % 2 ≠ 1; omega)) ?_
    refine ⟨_, rfl, F, _, rfl, .inl (SqL.of hF), _, _, rfl, rfl, ?_⟩
    exact go ((N - 2) / 2) (by omega) (by omega) _ (congrArg V.int (by rw [hl2]; omega))
theorem d_multP (T : Tx K mg) : Def P w K mg base 3 "multiple_at" ["slope", "many"] (spMultP K) := by
  refine mkDef T 2 12 rfl T.g_multiple_at sc_mult (fun _ _ _ _ _ _ us hl => match us, hl with | [_, _], _ => rfl) (fun vs H Q E h => ?_) (fun cdv A outer s H vs Q E hr h => mult_pos T cdv A outer s H vs Q E hr h)
  obtain ⟨p, a, b, m, rfl, _⟩ := h
  rfl
def spMult (K : PySem.W.Frag) : Sp := fun vs H Q _ => ∃ (p : Addr) (a b : List Int) (m : Int), vs = [.ref p, .int m] ∧ SlopeAt K H p a b ∧ b ≠ [] ∧ Parts a ∧ Parts b ∧ m ≠ 0 ∧ -MX ≤ m ∧ m ≤ MX ∧ ∀ H' W, Same H H' → FlA (sq a b) m W → Q (.int W) H'
theorem d_mult (T : Tx K mg) : Def P w K mg base 4 "multiple_at" ["slope", "many"] (spMult K) := by
  refine ⟨?_, T.g_multiple_at, (d_multP (P := P) (w := w) (base := base) T).kp⟩
  obtain ⟨fd, F, b⟩ := (mkDef (P := P) (w := w) (base := base) (sp := spMult K) (N := ["slope", "many", "some", "place"]) T 3 12 rfl T.g_multiple_at sc_mult (fun _ _ _ _ _ _ us hl => match us, hl with | [_, _], _ => rfl) (fun vs H Q E h => by
    obtain ⟨p, a, b, m, rfl, _⟩ := h
    rfl) (fun cdv A outer s H vs Q E hr h => by
    obtain ⟨p, a, b, m, rfl, h1, hne, pa, pb, hm0, hm1, hmM, q⟩ := h
    by_cases c : m < 0
    · refine ⟨_, pss_cons (ps_if (pt_cmpR op_lt (pv 1) pe_int (nomark _)) (pss_one (ps_ret (pe_op op_sub (pe_un un_neg pe_int) (pe_cal (d_multP T) hr (by rfl) (pa_cons (pv 0) (pa_cons (pe_un un_neg (pv 1)) pa_nil)))))) pss_nil) pss_never, ?_⟩
      refine ⟨_, rfl, _, _, rfl, rfl, _, rfl, ?_⟩
      refine iteTk (decide_eq_true c) ?_
      refine ⟨1, rfl, _, rfl, _, rfl, _, rfl, p, a, b, -m, rfl, h1, hne, pa, pb, by omega, by omega, fun H1 W s1 f => ?_⟩
      refine ⟨_, _, rfl, rfl, ?_⟩
      refine q _ _ s1 ⟨fun z => by omega, fun z => by omega, fun _ => ?_⟩
      show IsFl _ _ (-1 - (-1 - W))
      rw [show -1 - (-1 - W) = W by omega]
      exact f
    · exact mult_pos T cdv A outer s H _ Q E (hr.mono (by decide)) ⟨p, a, b, m, rfl, h1, hne, pa, pb, by omega, hmM, fun H' W s1 f => q H' W s1 ⟨fun z => by omega, fun _ => f, fun z => by omega⟩⟩)).ex
  exact ⟨fd, F, b⟩
end Sw
set_option Elab.async false
set_option linter.all false
set_option maxRecDepth 100000
set_option maxHeartbeats 1000000
namespace Sw
open PySem PySem.Spec PyProof.Rows L2
variable {P : Program} {w : World} {K : PySem.W.Frag} {mg : Str → Option Value} {base : Heap}
/-! whole_at, sign_at -/
abbrev PtAt (K : PySem.W.Frag) (H : Hp) (t : Addr) (u v : Int) : Prop := SqT K H t [.int u, .int v]
def spWholeAt (K : PySem.W.Frag) : Sp := fun vs H Q _ => ∃ (p t : Addr) (a b : List Int) (u v : Int), vs = [.ref p, .ref t] ∧ SlopeAt K H p a b ∧ b ≠ [] ∧ Parts a ∧ Parts b ∧ PtAt K H t u v ∧ -MX ≤ v ∧ v ≤ MX ∧ ∀ H' W, Same H H' → FlA (sq a b) v W → Q (.int (u + W)) H'
theorem sc_whole_at : FnScope ["slope", "point"] ["slope", "point"] (defScope sWholeAt) := ⟨rfl, rfl, rfl, by decide +kernel, rfl, by decide +kernel, by decide +kernel⟩
theorem d_whole_at (T : Tx K mg) : Def P w K mg base 5 "whole_at" ["slope", "point"] (spWholeAt K) := by
  refine mkDef T 4 13 rfl T.g_whole_at sc_whole_at (fun _ _ _ _ _ _ us hl => match us, hl with | [_, _], _ => rfl) (fun vs H Q E h => ?_) (fun cdv A outer s H vs Q E hr h => ?_)
  · obtain ⟨p, t, a, b, u, v, rfl, _⟩ := h
    rfl
  · obtain ⟨p, t, a, b, u, v, rfl, h1, hne, pa, pb, ht, hv1, hv2, q⟩ := h
    refine ⟨_, pss_one (ps_ret (pe_op op_add (pe_ix ix_tup (pv 1) pe_int (fun _ _ => rfl)) (pe_ifExp (pt_cmpR op_ne (pe_ix ix_tup (pv 1) pe_int (fun _ _ => rfl)) pe_int (nomark _)) (pe_cal (d_mult T) hr (by rfl) (pa_cons (pv 0) (pa_cons (pe_ix ix_tup (pv 1) pe_int (fun _ _ => rfl)) pa_nil))) pe_int))), ?_⟩
    refine ⟨_, rfl, t, _, _, _, rfl, rfl, ht, atI_nat (j := 0) rfl, _, rfl, t, _, _, _, rfl, rfl, ht, atI_nat (j := 1) rfl, rfl, _, rfl, ?_⟩
    by_cases c : v = 0
    · refine iteFk (by rw [veq c]; rfl) ?_
      refine ⟨_, _, rfl, rfl, ?_⟩
      exact q _ _ (Same.refl H) ⟨fun _ => rfl, fun z => by omega, fun z => by omega⟩
    · refine iteTk (by rw [vne c]; rfl) ?_
      refine ⟨_, rfl, _, rfl, t, _, _, _, rfl, rfl, ht, atI_nat (j := 1) rfl, p, a, b, v, rfl, h1, hne, pa, pb, c, hv1, hv2, fun H1 W s1 f => ?_⟩
      exact ⟨_, _, rfl, rfl, q _ _ s1 f⟩
def spSignAt (K : PySem.W.Frag) : Sp := fun vs H Q _ => ∃ (p t : Addr) (a b : List Int) (u v : Int), vs = [.ref p, .ref t] ∧ SlopeAt K H p a b ∧ b ≠ [] ∧ Parts a ∧ Parts b ∧ PtAt K H t u v ∧ v ≠ 0 ∧ -MX ≤ v ∧ v ≤ MX ∧ ∀ H' W, Same H H' → FlA (sq a b) v W → Q (.int (if 0 ≤ u + W then 1 else -1)) H'
theorem sc_sign_at : FnScope ["slope", "point"] ["slope", "point"] (defScope sSignAt) := ⟨rfl, rfl, rfl, by decide +kernel, rfl, by decide +kernel, by decide +kernel⟩
theorem d_sign_at (T : Tx K mg) : Def P w K mg base 6 "sign_at" ["slope", "point"] (spSignAt K) := by
  refine mkDef T 5 14 rfl T.g_sign_at sc_sign_at (fun _ _ _ _ _ _ us hl => match us, hl with | [_, _], _ => rfl) (fun vs H Q E h => ?_) (fun cdv A outer s H vs Q E hr h => ?_)
  · obtain ⟨p, t, a, b, u, v, rfl, _⟩ := h
    rfl
  · obtain ⟨p, t, a, b, u, v, rfl, h1, hne, pa, pb, ht, hv0, hv1, hv2, q⟩ := h
    refine ⟨_, pss_cons (ps_if (pt_cmpR (op_eqD hr.units) (pv 1) (pe_tup (pa_cons pe_int (pa_cons pe_int pa_nil))) (nomark _)) (pss_one (ps_ret pe_int)) pss_nil)
      (pss_one (ps_ret (pe_ifExp (pt_cmpR op_ge (pe_cal (d_whole_at T) hr (by rfl) (pa_cons (pv 0) (pa_cons (pv 1) pa_nil))) pe_int (nomark _)) pe_int (pe_un un_neg pe_int)))), ?_⟩
    refine ⟨_, rfl, by show 2 ≤ sizeLine; decide, fun e ne => ?_⟩
    have s1 : Same H (upd H e (.tup [.int 0, .int 0])) := same_new ne
    refine ⟨DT [u, v], DT [0, 0], dp_IT (SqT.ext ht s1), dp_IT (SqT.of upd_same), sh_DT _, sh_DT _, _, rfl, ?_⟩
    refine iteFk ((eqv_DT _ _).trans (decide_eq_false fun z => hv0 (by injection z with z1 z2; injection z2))) ?_
    refine ⟨_, rfl, _, rfl, p, t, a, b, u, v, rfl, h1.ext s1, hne, pa, pb, SqT.ext ht s1, hv1, hv2, fun H2 W s2 f => ?_⟩
    refine ⟨_, _, rfl, rfl, _, rfl, ?_⟩
    have r := q _ _ (s1.trans s2) f
    by_cases c : 0 ≤ u + W
    · rw [if_pos c] at r
      exact iteTk (decide_eq_true c) r
    · rw [if_neg c] at r
      refine iteFk (decide_eq_false c) ?_
      exact ⟨1, rfl, r⟩
/-! is_point, check_point -/
def spIsPoint (K : PySem.W.Frag) : Sp := fun vs H Q _ => ∃ (t : Addr) (u v : Int), vs = [.ref t] ∧ PtAt K H t u v ∧ (-MX ≤ u ∧ u ≤ MX) ∧ (-MX ≤ v ∧ v ≤ MX) ∧ ∀ H', Same H H' → Q (.bl true) H'
theorem sc_is_point : FnScope ["value", "part"] ["value"] (defScope sIsPoint) := ⟨rfl, rfl, rfl, by decide +kernel, rfl, by decide +kernel, by decide +kernel⟩
theorem d_is_point (T : Tx K mg) : Def P w K mg base 3 "is_point" ["value"] (spIsPoint K) := by
  refine mkDef T 2 10 rfl T.g_is_point sc_is_point (fun _ _ _ _ _ _ us hl => match us, hl with | [_], _ => rfl) (fun vs H Q E h => ?_) (fun cdv A outer s H vs Q E hr h => ?_)
  · obtain ⟨t, u, v, rfl, _⟩ := h
    rfl
  · obtain ⟨t, u, v, rfl, ht, hu, hv, q⟩ := h
    refine ⟨_, pss_cons (ps_if (PW.pt (pw_or (pt_not (pt_val (pe_callB call_isi (by rfl) T.f_isinstance boot_isinstance (pa_cons (pv 0) (pa_cons (pe_bltn (v := .ty "tuple") (by rfl) T.f_tuple boot_tuple rfl) pa_nil))))) (pw_or1 (pt_cmpR op_ne (pe_callB call_len_seq (by rfl) T.f_len PySem.boot_len (pa_cons (pv 0) pa_nil)) pe_int (nomark _))))) (pss_one (ps_ret pe_bl)) pss_nil)
      (pss_one (ps_ret (pe_callB (cr_all rfl) (by rfl) T.f_all boot_all (pa_cons (pe_lc (own := [("part", 1)]) (g := gName 1) rfl sc_is_point.nd (pi_tup (pv 0)) (blkOk_by (own := [("part", 1)]) (N := ["value", "part"]) (sc := defScope sIsPoint) (by decide +kernel)) (fun _ _ _ _ _ => pg_name (i := 1) sc_is_point.nd rfl (Or.inl rfl)) (fun _ _ _ _ _ => pts_nil)
        (fun _ _ _ _ _ => pe_cal (d_is_between T) hr (by rfl) (pa_cons (pv 1) (pa_cons (pe_un un_neg (pe_gi T.i_MOST_NUMBER rfl)) (pa_cons (pe_gi T.i_MOST_NUMBER rfl) pa_nil))))) pa_nil)))), ?_⟩
    refine ⟨_, rfl, _, _, _, _, true, rfl, .ty "tuple", tyT ht, kit_ty (by decide +kernel), true, rfl, iteF ?_⟩
    refine ⟨_, rfl, t, _, rfl, .inr ht, rfl, _, rfl, ?_⟩
    refine iteFk (by rw [veq (show (([V.int u, V.int v].length : Nat) : Int) = 2 from rfl)]; rfl) ?_
    refine ⟨_, rfl, t, rfl, ⟨_, ht⟩, fun D nD => lc_tup (K := K) (a := t) (xs := [.int u, .int v]) (fun i H' => Same H H' ∧ H' D = some (.lst ((List.replicate i true).map V.bl))) ⟨same_new nD, upd_same⟩ (fun i H' _ ⟨s1, _⟩ => SqT.ext ht s1) ?_ ?_⟩
    · rintro i y H1 hi ⟨s1, hD⟩
      have i2 := (List.getElem?_eq_some_iff.mp hi).1
      have i2 : i < 2 := i2
      obtain ⟨n, rfl, hn⟩ : ∃ n : Int, y = V.int n ∧ (-MX ≤ n ∧ n ≤ MX) := by
        have : i = 0 ∨ i = 1 := by omega
        rcases this with rfl | rfl
        · exact ⟨u, (Option.some.inj hi).symm, hu⟩
        · exact ⟨v, (Option.some.inj hi).symm, hv⟩
      refine ⟨rfl, _, rfl, _, rfl, n, -MX, MX, rfl, ?_⟩
      refine ⟨_, hD, ?_, same_lst nD s1, ?_⟩
      · rw [List.length_map, List.length_replicate]
        exact small1000 (by omega)
      · rw [upd_same, decide_eq_true hn, List.replicate_succ', List.map_append]
        rfl
    · rintro H1 ⟨s1, hD⟩
      exact ⟨D, _, rfl, SqL.of hD, q _ s1⟩
def spCheckPoint (K : PySem.W.Frag) : Sp := fun vs H Q _ => ∃ (t : Addr) (u v : Int), vs = [.ref t] ∧ PtAt K H t u v ∧ (-MX ≤ u ∧ u ≤ MX) ∧ (-MX ≤ v ∧ v ≤ MX) ∧ ∀ H', Same H H' → Q .non H'
theorem sc_check_point : FnScope ["value"] ["value"] (defScope sCheckPoint) := ⟨rfl, rfl, rfl, by decide +kernel, rfl, by decide +kernel, by decide +kernel⟩
theorem d_check_point (T : Tx K mg) : Def P w K mg base 4 "check_point" ["value"] (spCheckPoint K) := by
  refine mkDef T 3 11 rfl T.g_check_point sc_check_point (fun _ _ _ _ _ _ us hl => match us, hl with | [_], _ => rfl) (fun vs H Q E h => ?_) (fun cdv A outer s H vs Q E hr h => ?_)
  · obtain ⟨t, u, v, rfl, _⟩ := h
    rfl
  · obtain ⟨t, u, v, rfl, ht, hu, hv, q⟩ := h
    refine ⟨_, pss_one (ps_if (pt_not (pt_val (pe_cal (d_is_point T) hr (by rfl) (pa_cons (pv 0) pa_nil)))) (pss_one ps_never) pss_nil), ?_⟩
    exact ⟨_, rfl, t, u, v, rfl, ht, hu, hv, fun H1 s1 => ⟨true, rfl, iteF (q _ s1)⟩⟩
/-! whole_part, sign_of -/
def spWholePart (K : PySem.W.Frag) : Sp := fun vs H Q _ => ∃ (p t : Addr) (a b : List Int) (u v : Int), vs = [.ref p, .ref t] ∧ SlopeAt K H p a b ∧ b ≠ [] ∧ Parts a ∧ Parts b ∧ PtAt K H t u v ∧ (-MX ≤ u ∧ u ≤ MX) ∧ (-MX ≤ v ∧ v ≤ MX) ∧ ∀ H' W, Same H H' → FlA (sq a b) v W → Q (.int (u + W)) H'
theorem sc_whole_part : FnScope ["slope", "point"] ["slope", "point"] (defScope sWholePart) := ⟨rfl, rfl, rfl, by decide +kernel, rfl, by decide +kernel, by decide +kernel⟩
theorem d_whole_part (T : Tx K mg) : Def P w K mg base 6 "whole_part" ["slope", "point"] (spWholePart K) := by
  refine mkDef T 5 16 rfl T.g_whole_part sc_whole_part (fun _ _ _ _ _ _ us hl => match us, hl with | [_, _], _ => rfl) (fun vs H Q E h => ?_) (fun cdv A outer s H vs Q E hr h => ?_)
  · obtain ⟨p, t, a, b, u, v, rfl, _⟩ := h
    rfl
  · obtain ⟨p, t, a, b, u, v, rfl, h1, hne, pa, pb, ht, hu, hv, q⟩ := h
    refine ⟨_, pss_cons (ps_expr (pe_cal (d_check_slope T) (hr.mono (by decide)) (by rfl) (pa_cons (pv 0) pa_nil))) (pss_cons (ps_expr (pe_cal (d_check_point T) (hr.mono (by decide)) (by rfl) (pa_cons (pv 1) pa_nil)))
      (pss_one (ps_ret (pe_cal (d_whole_at T) hr (by rfl) (pa_cons (pv 0) (pa_cons (pv 1) pa_nil)))))), ?_⟩
    refine ⟨_, rfl, p, a, b, rfl, h1, ?_⟩
    refine ⟨_, rfl, t, u, v, rfl, ht, hu, hv, fun H1 s1 => ?_⟩
    exact ⟨_, rfl, _, rfl, p, t, a, b, u, v, rfl, h1.ext s1, hne, pa, pb, SqT.ext ht s1, hv.1, hv.2, fun H2 W s2 f => q _ _ (s1.trans s2) f⟩
def spSignOf (K : PySem.W.Frag) : Sp := fun vs H Q _ => ∃ (p t : Addr) (a b : List Int) (u v : Int), vs = [.ref p, .ref t] ∧ SlopeAt K H p a b ∧ b ≠ [] ∧ Parts a ∧ Parts b ∧ PtAt K H t u v ∧ (-MX ≤ u ∧ u ≤ MX) ∧ (-MX ≤ v ∧ v ≤ MX) ∧ v ≠ 0 ∧ ∀ H' W, Same H H' → FlA (sq a b) v W → Q (.int (if 0 ≤ u + W then 1 else -1)) H'
theorem sc_sign_of : FnScope ["slope", "point"] ["slope", "point"] (defScope sSignOf) := ⟨rfl, rfl, rfl, by decide +kernel, rfl, by decide +kernel, by decide +kernel⟩
theorem d_sign_of (T : Tx K mg) : Def P w K mg base 7 "sign_of" ["slope", "point"] (spSignOf K) := by
  refine mkDef T 6 17 rfl T.g_sign_of sc_sign_of (fun _ _ _ _ _ _ us hl => match us, hl with | [_, _], _ => rfl) (fun vs H Q E h => ?_) (fun cdv A outer s H vs Q E hr h => ?_)
  · obtain ⟨p, t, a, b, u, v, rfl, _⟩ := h
    rfl
  · obtain ⟨p, t, a, b, u, v, rfl, h1, hne, pa, pb, ht, hu, hv, hv0, q⟩ := h
    refine ⟨_, pss_cons (ps_expr (pe_cal (d_check_slope T) (hr.mono (by decide)) (by rfl) (pa_cons (pv 0) pa_nil))) (pss_cons (ps_expr (pe_cal (d_check_point T) (hr.mono (by decide)) (by rfl) (pa_cons (pv 1) pa_nil)))
      (pss_one (ps_ret (pe_cal (d_sign_at T) hr (by rfl) (pa_cons (pv 0) (pa_cons (pv 1) pa_nil)))))), ?_⟩
    refine ⟨_, rfl, p, a, b, rfl, h1, ?_⟩
    refine ⟨_, rfl, t, u, v, rfl, ht, hu, hv, fun H1 s1 => ?_⟩
    exact ⟨_, rfl, _, rfl, p, t, a, b, u, v, rfl, h1.ext s1, hne, pa, pb, SqT.ext ht s1, hv0, hv.1, hv.2, fun H2 W s2 f => q _ _ (s1.trans s2) f⟩
end Sw
set_option Elab.async false
set_option linter.all false
set_option maxRecDepth 100000
set_option maxHeartbeats 1000000
namespace Sw
open PySem PySem.Spec PyProof.Rows L2
variable {P : Program} {w : World} {K : PySem.W.Frag} {mg : Str → Option Value} {base : Heap}
/-- what all slopes of the law are -/
structure Good (a b : List Int) : Prop where
  pa : Parts a
  pb : Parts b
  la : a.length ≤ 6
  lb : b.length ≤ 4
  cn : Canon a b
theorem Good.ne {a b : List Int} (g : Good a b) : b ≠ [] := g.cn.ne
theorem Good.pos {a b : List Int} (g : Good a b) : PosQ (sq a b) := sq_pos g.pa g.pb
/-- what less_slope tells -/
structure LessR (a b a' b' : List Int) (r : Bool) : Prop where
  yes : r = true → ¬ (a = a' ∧ b = b') ∧ SLt (sq a b) (sq a' b')
  no : r = false → (a = a' ∧ b = b') ∨ (¬ (a = a' ∧ b = b') ∧ SLt (sq a' b') (sq a b))
theorem less_tell {a b a' b' : List Int} (g : Good a b) (g' : Good a' b') (ne : ¬ (a = a' ∧ b = b')) {n : Nat} (e : ∀ k, k < n → sq a b k = sq a' b' k) (u : sq a b n ≠ sq a' b' n) :
    LessR a b a' b' (decide (V.bl (decide (sq a' b' n < sq a b n)) = V.bl (decide (V.int (((n : Int) + 1) % 2) = V.int 1)))) := by
  by_cases c : n % 2 = 0
  · have e1 : decide (V.int (((n : Int) + 1) % 2) = V.int 1) = true := veq (by omega)
    rw [e1]
    by_cases d : sq a' b' n < sq a b n
    · rw [decide_eq_true d]
      refine ⟨fun _ => ⟨ne, (btw_of g.pos g'.pos (n := n) ⟨e, by rw [if_pos c]; exact d⟩).lt⟩, fun z => ?_⟩
      rw [decide_eq_true rfl] at z
      cases z
    · rw [decide_eq_false d]
      have z0 : decide (V.bl false = V.bl true) = false := decide_eq_false fun z => by cases z
      rw [z0]
      exact ⟨(fun z => nomatch z), fun _ => .inr ⟨ne, (btw_of g'.pos g.pos (n := n) ⟨fun k hk => (e k hk).symm, by rw [if_pos c]; omega⟩).lt⟩⟩
  · have e1 : decide (V.int (((n : Int) + 1) % 2) = V.int 1) = false := vne (by omega)
    rw [e1]
    by_cases d : sq a' b' n < sq a b n
    · rw [decide_eq_true d]
      have z0 : decide (V.bl true = V.bl false) = false := decide_eq_false fun z => by cases z
      rw [z0]
      exact ⟨(fun z => nomatch z), fun _ => .inr ⟨ne, (btw_of g'.pos g.pos (n := n) ⟨fun k hk => (e k hk).symm, by rw [if_neg c]; exact d⟩).lt⟩⟩
    · rw [decide_eq_false d]
      refine ⟨fun _ => ⟨ne, (btw_of g.pos g'.pos (n := n) ⟨e, by rw [if_neg c]; omega⟩).lt⟩, fun z => ?_⟩
      rw [decide_eq_true rfl] at z
      cases z
/-! less_slope -/
def spLess (K : PySem.W.Frag) : Sp := fun vs H Q _ => ∃ (p q : Addr) (a b a' b' : List Int), vs = [.ref p, .ref q] ∧ SlopeAt K H p a b ∧ SlopeAt K H q a' b' ∧ Good a b ∧ Good a' b' ∧ ∀ r, LessR a b a' b' r → Q (.bl r) H
theorem SlopeAt.ins {H : Hp} {p : Addr} {a b : List Int} (h : SlopeAt K H p a b) : ∃ dx fs, H p = some (.ins (He.ga K "Slope") dx fs) := let ⟨dx, _, _, h1, _⟩ := h; ⟨dx, _, h1⟩
theorem sc_less : FnScope ["slope", "other", "many"] ["slope", "other"] (defScope sLessSlope) := ⟨rfl, rfl, rfl, by decide +kernel, rfl, by decide +kernel, by decide +kernel⟩
theorem d_less (T : Tx K mg) : Def P w K mg base 2 "less_slope" ["slope", "other"] (spLess K) := by
  refine mkDef T 1 15 rfl T.g_less_slope sc_less (fun _ _ _ _ _ _ us hl => match us, hl with | [_, _], _ => rfl) (fun vs H Q E h => ?_) (fun cdv A outer s H vs Q E hr h => ?_)
  · obtain ⟨p, q, a, b, a', b', rfl, _⟩ := h
    rfl
  · obtain ⟨p, q, a, b, a', b', rfl, h1, h2, g, g', k⟩ := h
    have nd := sc_less.nd
    obtain ⟨dx, fs, i1⟩ := h1.ins
    obtain ⟨dy, gs, i2⟩ := h2.ins
    refine ⟨_, pss_cons (ps_if (pt_cmpR (op_slopeEq T hr) (pv 0) (pv 1) (nomark _)) (pss_one (ps_ret pe_bl)) pss_nil)
      (pss_cons (ps_set (i := 2) nd rfl (.inl rfl) pe_int)
      (pss_cons (ps_while PassesOwn.never (pt_cmpR op_eq (pe_cal (d_part_at T) hr (by rfl) (pa_cons (pv 0) (pa_cons (pv 2) pa_nil))) (pe_cal (d_part_at T) hr (by rfl) (pa_cons (pv 1) (pa_cons (pv 2) pa_nil))) (nomark _))
        (pss_one (ps_aug (i := 2) nd rfl (.inl rfl) pe_int ip_add)))
      (pss_one (ps_ret (pe_cmpR op_eq (pe_cmpR op_gt (pe_cal (d_part_at T) hr (by rfl) (pa_cons (pv 0) (pa_cons (pv 2) pa_nil))) (pe_cal (d_part_at T) hr (by rfl) (pa_cons (pv 1) (pa_cons (pv 2) pa_nil))) (nomark _)) (pe_cmpR op_eq (pe_op op_mod (pv 2) pe_int) pe_int (nomark _)) (nomark _)))))), ?_⟩
    refine ⟨_, rfl, _, rfl, p, q, dx, dy, fs, gs, rfl, rfl, i1, i2, p, q, a, b, a', b', rfl, h1, h2, ⟨_, rfl⟩, _, rfl, ?_⟩
    by_cases c : a = a' ∧ b = b'
    · refine iteTk (decide_eq_true c) ?_
      exact k false ⟨(fun z => nomatch z), fun _ => .inl c⟩
    · refine iteFk (decide_eq_false c) ?_
      obtain ⟨d, hd, e, u⟩ := first_unlike g.cn g'.cn g.la g.lb g'.la g'.lb c
      refine ⟨fun m σ H' => ∃ n : Nat, σ = [some (.ref p), some (.ref q), some (.int ((n : Int) + 1))] ∧ H' = H ∧ n ≤ d ∧ m = d - n, ⟨_, 0, rfl, rfl, Nat.zero_le _, rfl⟩, ?_⟩
      rintro m σ H' ⟨n, rfl, rfl, hn, rfl⟩
      refine ⟨_, rfl, _, rfl, p, a, b, n, rfl, h1, g.ne, _, rfl, _, rfl, q, a', b', n, rfl, h2, g'.ne, rfl, _, rfl, ?_⟩
      by_cases y : sq a b n = sq a' b' n
      · refine iteTk (veq y) ?_
        have : n < d := by
          rcases Nat.lt_or_ge n d with z | z
          · exact z
          · have : n = d := by omega
            rw [this] at y
            exact absurd y u
        refine ⟨fun σ' H2 => ∃ n' : Nat, n' = n + 1 ∧ σ' = [some (.ref p), some (.ref q), some (.int ((n' : Int) + 1))] ∧ H2 = H', fun σ' H2 ⟨n', en, eσ, eH⟩ => ⟨d - (n + 1), by omega, n + 1, by rw [eσ, en], eH, by omega, rfl⟩, ?_⟩
        exact ⟨_, rfl, _, _, rfl, rfl, n + 1, rfl, rfl, rfl⟩
      · refine iteFk (vne y) ?_
        refine ⟨_, rfl, _, rfl, p, a, b, n, rfl, h1, g.ne, _, rfl, _, rfl, q, a', b', n, rfl, h2, g'.ne, _, _, rfl, rfl, _, rfl, _, _, rfl, rfl, by show (0 : Int) < 2; decide, rfl, rfl, ?_⟩
        exact k _ (less_tell g g' c (fun j hj => e j (by omega)) y)
/-! check_pair, is_below -/
def spCheckPair (K : PySem.W.Frag) : Sp := fun vs H Q _ => ∃ (p q : Addr) (a b a' b' : List Int), vs = [.ref p, .ref q] ∧ SlopeAt K H p a b ∧ SlopeAt K H q a' b' ∧ Q .non H
theorem sc_check_pair : FnScope ["slope", "other"] ["slope", "other"] (defScope sCheckPair) := ⟨rfl, rfl, rfl, by decide +kernel, rfl, by decide +kernel, by decide +kernel⟩
theorem d_check_pair (T : Tx K mg) : Def P w K mg base 2 "check_pair" ["slope", "other"] (spCheckPair K) := by
  refine mkDef T 1 18 rfl T.g_check_pair sc_check_pair (fun _ _ _ _ _ _ us hl => match us, hl with | [_, _], _ => rfl) (fun vs H Q E h => ?_) (fun cdv A outer s H vs Q E hr h => ?_)
  · obtain ⟨p, q, a, b, a', b', rfl, _⟩ := h
    rfl
  · obtain ⟨p, q, a, b, a', b', rfl, h1, h2, k⟩ := h
    exact ⟨_, pss_cons (ps_expr (pe_cal (d_check_slope T) hr (by rfl) (pa_cons (pv 0) pa_nil))) (pss_one (ps_expr (pe_cal (d_check_slope T) hr (by rfl) (pa_cons (pv 1) pa_nil)))), _, rfl, p, a, b, rfl, h1, _, rfl, q, a', b', rfl, h2, k⟩
theorem sc_is_below : FnScope ["slope", "other"] ["slope", "other"] (defScope sIsBelow) := ⟨rfl, rfl, rfl, by decide +kernel, rfl, by decide +kernel, by decide +kernel⟩
theorem d_is_below (T : Tx K mg) : Def P w K mg base 3 "is_below" ["slope", "other"] (spLess K) := by
  refine mkDef T 2 19 rfl T.g_is_below sc_is_below (fun _ _ _ _ _ _ us hl => match us, hl with | [_, _], _ => rfl) (fun vs H Q E h => ?_) (fun cdv A outer s H vs Q E hr h => ?_)
  · obtain ⟨p, q, a, b, a', b', rfl, _⟩ := h
    rfl
  · obtain ⟨p, q, a, b, a', b', rfl, h1, h2, g, g', k⟩ := h
    exact ⟨_, pss_cons (ps_expr (pe_cal (d_check_pair T) hr (by rfl) (pa_cons (pv 0) (pa_cons (pv 1) pa_nil)))) (pss_one (ps_ret (pe_cal (d_less T) hr (by rfl) (pa_cons (pv 0) (pa_cons (pv 1) pa_nil))))),
      _, rfl, _, rfl, p, q, a, b, a', b', rfl, h1, h2, _, rfl, _, rfl, p, q, a, b, a', b', rfl, h1, h2, g, g', k⟩
end Sw
set_option Elab.async false
set_option linter.all false
set_option maxRecDepth 100000
set_option maxHeartbeats 1000000
namespace Sw
open PySem PySem.Spec PyProof.Rows L2
variable {P : Program} {w : World} {K : PySem.W.Frag} {mg : Str → Option Value} {base : Heap}
/-! check_bound -/
def spCheckBound : Sp := fun vs H Q _ => ∃ n : Int, vs = [.int n] ∧ 1 ≤ n ∧ n ≤ MX ∧ Q .non H
theorem sc_check_bound : FnScope ["value"] ["value"] (defScope sCheckBound) := ⟨rfl, rfl, rfl, by decide +kernel, rfl, by decide +kernel, by decide +kernel⟩
theorem d_check_bound (T : Tx K mg) : Def P w K mg base 3 "check_bound" ["value"] spCheckBound := by
  refine mkDef T 2 20 rfl T.g_check_bound sc_check_bound (fun _ _ _ _ _ _ us hl => match us, hl with | [_], _ => rfl) (fun vs H Q E h => ?_) (fun cdv A outer s H vs Q E hr h => ?_)
  · obtain ⟨n, rfl, _⟩ := h
    rfl
  · obtain ⟨n, rfl, h1, h2, q⟩ := h
    refine ⟨_, pss_one (ps_if (pt_not (pt_val (pe_cal (d_is_between T) hr (by rfl) (pa_cons (pv 0) (pa_cons pe_int (pa_cons (pe_gi T.i_MOST_NUMBER rfl) pa_nil)))))) (pss_one ps_never) pss_nil), ?_⟩
    refine ⟨_, rfl, n, 1, MX, rfl, true, ?_, iteF q⟩
    rw [decide_eq_true ⟨h1, h2⟩]
/-! side_of -/
def SideR (s : Nat → Int) (bot : Int) (ab : Bool) (x y : Int) : Prop :=
  (ab = true → ∀ u v : Int, 1 ≤ v → v ≤ bot → Hi s u v → x * v ≤ u * y) ∧ (ab = false → ∀ u v : Int, 1 ≤ v → v ≤ bot → Lo s u v → u * y ≤ x * v)
def spSide (K : PySem.W.Frag) : Sp := fun vs H Q _ => ∃ (p : Addr) (a b : List Int) (bot : Int) (ab : Bool), vs = [.ref p, .int bot, .bl ab] ∧ SlopeAt K H p a b ∧ b ≠ [] ∧ Parts a ∧ Parts b ∧ 1 ≤ bot ∧ bot ≤ MX ∧
  ∀ H' t x y, Same H H' → SqT K H' t [.int x, .int y] → SideR (sq a b) bot ab x y → x.natAbs < 2 ^ 600 → y.natAbs < 2 ^ 600 → Q (.ref t) H'
theorem sc_side : FnScope ["slope", "bound", "is_above", "some", "start", "p", "q", "near", "low", "many"] ["slope", "bound", "is_above"] (defScope sSideOf) := ⟨rfl, rfl, rfl, by decide +kernel, rfl, by decide +kernel, by decide +kernel⟩
theorem tIfc {i : Nat} {x y : V} {σ : L2.St} {H : Hp} {Q : VK} {c : Bool} (h : σ[i]? = some (some (.bl c))) (q : Q (if c = true then x else y) H) : tIf (tTest (tVar i)) (tC x) (tC y) σ H Q := by
  refine ⟨_, h, c, rfl, ?_⟩
  cases c with
  | true => exact q
  | false => exact q
theorem big_lt {x y m : Int} (hx : x.natAbs < 2 ^ 250) (hy : y.natAbs < 2 ^ 250) (hm : m.natAbs < 2 ^ 250) : (x + m * y).natAbs < 2 ^ 600 := by
  have h1 : (m * y).natAbs < 2 ^ (250 + 250) := wide_lt hm hy
  have h2 : (x + m * y).natAbs ≤ x.natAbs + (m * y).natAbs := Int.natAbs_add_le _ _
  have h3 : 2 ^ 250 + 2 ^ (250 + 250) ≤ 2 ^ 600 := by decide +kernel
  omega
theorem d_side (T : Tx K mg) : Def P w K mg base 3 "side_of" ["slope", "bound", "is_above"] (spSide K) := by
  refine mkDef T 2 21 rfl T.g_side_of sc_side (fun _ _ _ _ _ _ us hl => match us, hl with | [_, _, _], _ => rfl) (fun vs H Q E h => ?_) (fun cdv A outer s H vs Q E hr h => ?_)
  · obtain ⟨p, a, b, bot, ab, rfl, _⟩ := h
    rfl
  · obtain ⟨p, a, b, bot, ab, rfl, h1, hne, pa, pb, hb1, hbM, k⟩ := h
    have nd := sc_side.nd
    have sp := sq_pos pa pb
    refine ⟨_, pss_cons (ps_set (i := 3) nd rfl (.inl rfl) (pe_op op_cat (pe_lst (pa_cons (pe_tup (pa_cons pe_int (pa_cons pe_int pa_nil))) pa_nil)) (pe_cal (d_past T) hr (by rfl) (pa_cons (pv 0) (pa_cons (pv 1) pa_nil)))))
      (pss_cons (ps_set (i := 4) nd rfl (.inl rfl) (pe_ifExp (pt_val (pv 2)) pe_int pe_int))
      (pss_cons (ps_while PassesOwn.never (pt_cmpR op_le (pe_ix ix_tup (pe_ix ix_list (pv 3) (pe_op op_add (pv 4) pe_int) (fun _ _ => rfl)) pe_int (fun _ _ => rfl)) (pv 1) (nomark _))
        (pss_one (ps_aug (i := 4) nd rfl (.inl rfl) pe_int ip_add)))
      (pss_cons (ps_asg (pe_tup (pa_cons (pe_ix ix_list (pv 3) (pv 4) (fun _ _ => rfl)) (pa_cons (pe_ix ix_list (pv 3) (pe_op op_add (pv 4) pe_int) (fun _ _ => rfl)) pa_nil)))
          (pg_tup rfl (pgs_cons (pg_tup rfl (pgs_cons (pg_name (i := 5) nd rfl (.inl rfl)) (pgs_cons (pg_name (i := 6) nd rfl (.inl rfl)) pgs_nil))) (pgs_cons (pg_tup rfl (pgs_cons (pg_name (i := 7) nd rfl (.inl rfl)) (pgs_cons (pg_name (i := 8) nd rfl (.inl rfl)) pgs_nil))) pgs_nil))))
      (pss_cons (ps_set (i := 9) nd rfl (.inl rfl) (pe_op op_fdivW (pe_op op_sub (pv 1) (pv 6)) (pv 8)))
      (pss_one (ps_ret (pe_tup (pa_cons (pe_op op_add (pv 5) (pe_op op_mulW (pv 9) (pv 7))) (pa_cons (pe_op op_add (pv 6) (pe_op op_mulW (pv 9) (pv 8))) pa_nil))))))))), ?_⟩
    refine ⟨by show 2 ≤ sizeLine; decide, fun t0 n0 => ⟨by show 1 ≤ sizeLine; decide, fun L nL => ?_⟩⟩
    have s1 : Same H (upd H t0 (.tup [.int 1, .int 0])) := same_new n0
    have s2 := s1.trans (same_new (o := .lst [.ref t0]) nL)
    refine ⟨_, rfl, _, rfl, p, a, b, bot, rfl, h1.ext s2, hne, pa, pb, hb1, hbM, fun H3 F N s3 nb ps => ?_⟩
    have hL3 : H3 L = some (.lst [.ref t0]) := s3 _ _ upd_same
    have n4 := ps.n4
    have n300 := ps.n300
    obtain ⟨rs, hF, hl, hrs⟩ := id nb
    refine ⟨L, F, _, _, rfl, rfl, hL3, hF, ?_, fun S nS => ?_⟩
    · rw [List.length_map, hl, sizeLine_eq]
      show 1 + N ≤ _
      omega
    have s4 : Same H3 (upd H3 S (.lst ([.ref t0] ++ rs.map V.ref))) := same_new nS
    have s04 := (s2.trans s3).trans s4
    have nbS : NbAt K (upd H3 S (.lst ([.ref t0] ++ rs.map V.ref))) S (sq a b) 0 (N + 1) := by
      refine ⟨t0 :: rs, upd_same, by rw [List.length_cons, hl], fun i r hr => ?_⟩
      cases i with
      | zero =>
        have e : t0 = r := Option.some.inj hr
        rw [← e]
        exact SqT.ext (SqT.ext (SqT.of upd_same) (same_new nL)) (s3.trans s4)
      | succ i => exact SqT.ext (hrs i r hr) s4
    generalize upd H3 S (.lst ([.ref t0] ++ rs.map V.ref)) = H4 at nbS s04
    have len : ∀ i, 1 ≤ i → i ≤ N → 0 ≤ pk (sq a b) i ∧ 0 < qk (sq a b) i ∧ pk (sq a b) i ≤ MX * MX ∧ qk (sq a b) i ≤ MX * MX := fun i h1 h2 =>
      let z := past_size sp (fun k => (sq_parts pa pb k).2) hb1 hbM ps h1 h2
      ⟨z.1, z.2.1, z.2.2.1, z.2.2.2.1⟩
    refine tIfc (c := ab) rfl ?_
    obtain ⟨st, est, hst, hs1⟩ : ∃ st : Nat, (if ab = true then V.int 0 else V.int 1) = V.int (st : Int) ∧ st % 2 = (if ab = true then 0 else 1) ∧ st ≤ 1 := by
      cases ab with
      | true => exact ⟨0, rfl, rfl, by decide⟩
      | false => exact ⟨1, rfl, rfl, by decide⟩
    rw [est]
    refine ⟨fun m σ H' => ∃ n : Nat, σ = [some (.ref p), some (.int bot), some (.bl ab), some (.ref S), some (.int (n : Int)), none, none, none, none, none] ∧ H' = H4 ∧ n % 2 = (if ab = true then 0 else 1) ∧ n + 2 ≤ N ∧ qk (sq a b) n ≤ bot ∧ m = N - n, ⟨_, st, rfl, rfl, hst, by omega, ?_, rfl⟩, ?_⟩
    · have : st = 0 ∨ st = 1 := by omega
      rcases this with rfl | rfl
      · show (0 : Int) ≤ bot
        omega
      · show (1 : Int) ≤ bot
        omega
    rintro m σ H' ⟨n, rfl, rfl, hn2, hnN, hq, rfl⟩
    obtain ⟨xs, r2, hS, hxl, hx2, hT2⟩ := nbS.get (i := n + 2) (by omega)
    have e2 : ((n : Int) + 2) = ((n + 2 : Nat) : Int) := by omega
    refine ⟨_, rfl, _, rfl, _, _, rfl, rfl, S, _, _, _, rfl, rfl, SqL.of hS, at_of (j := n + 2) e2 hx2, r2, _, _, _, rfl, rfl, hT2, atI_nat (j := 1) rfl, _, rfl, _, _, rfl, rfl, _, rfl, ?_⟩
    by_cases c : qk (sq a b) (n + 2) ≤ bot
    · refine iteTk (decide_eq_true c) ?_
      have lt : n + 2 ≤ N - 3 := by
        refine Nat.not_lt.mp fun z => ?_
        have := ps.hi (n + 2) (by omega) (by omega)
        omega
      refine ⟨fun σ' H2 => σ' = [some (.ref p), some (.int bot), some (.bl ab), some (.ref S), some (.int ((n + 2 : Nat) : Int)), none, none, none, none, none] ∧ H2 = H', fun σ' H2 ⟨e1, e2⟩ => ⟨N - (n + 2), by omega, n + 2, e1, e2, by omega, by omega, c, rfl⟩, ?_⟩
      exact ⟨_, rfl, _, _, rfl, rfl, rfl, rfl⟩
    · refine iteFk (decide_eq_false c) ?_
      obtain ⟨_, r0, hS0, _, hx0, hT0⟩ := nbS.get (i := n) (by omega)
      cases (Option.some.inj (hS0.symm.trans hS))
      obtain ⟨_, r1, hS1, _, hx1, hT1⟩ := nbS.get (i := n + 1) (by omega)
      cases (Option.some.inj (hS1.symm.trans hS))
      have e1 : ((n : Int) + 1) = ((n + 1 : Nat) : Int) := by omega
      refine ⟨_, rfl, _, rfl, S, _, _, _, rfl, rfl, SqL.of hS, atI_nat hx0, _, rfl, _, rfl, _, _, rfl, rfl, S, _, _, _, rfl, rfl, SqL.of hS, at_of (j := n + 1) e1 hx1, by show 2 ≤ sizeLine; decide, fun e he => ?_⟩
      have s5 : Same H' (upd H' e (.tup [.ref r0, .ref r1])) := same_new he
      refine ⟨e, _, rfl, SqT.of upd_same, rfl, _, _, rfl, ⟨r0, _, rfl, SqT.ext hT0 s5, rfl, _, _, rfl, _, _, rfl, rfl, ?_⟩⟩
      refine ⟨_, _, rfl, ⟨r1, _, rfl, SqT.ext hT1 s5, rfl, _, _, rfl, _, _, rfl, rfl, ?_⟩⟩
      refine ⟨rfl, ?_⟩
      -- many
      have z0 : 0 ≤ pk (sq a b) n ∧ pk (sq a b) n ≤ MX * MX := by
        cases n with
        | zero => exact ⟨by show (0 : Int) ≤ 1; decide, by show (1 : Int) ≤ MX * MX; decide⟩
        | succ n => exact ⟨(len _ (by omega) (by omega)).1, (len _ (by omega) (by omega)).2.2.1⟩
      have y0 : 0 ≤ qk (sq a b) n := (qk_pos sp n).2
      have z1 := len (n + 1) (by omega) (by omega)
      have hMM : MX ≤ MX * MX := by decide +kernel
      refine ⟨_, rfl, _, rfl, _, _, rfl, rfl, _, rfl, _, _, rfl, rfl, wide_div z1.2.1 (wlt (Int.le_of_lt z1.2.1) z1.2.2.2) (by decide) (by decide), ?_⟩
      have dnn : 0 ≤ (bot - qk (sq a b) n) / qk (sq a b) (n + 1) := Int.ediv_nonneg (by omega) (Int.le_of_lt z1.2.1)
      have dle : (bot - qk (sq a b) n) / qk (sq a b) (n + 1) ≤ bot := by
        have := Int.ediv_le_self (qk (sq a b) (n + 1)) (show 0 ≤ bot - qk (sq a b) n by omega)
        omega
      have hb := Int.lt_ediv_add_one_mul_self (bot - qk (sq a b) n) z1.2.1
      obtain ⟨d, hd⟩ : ∃ d, (bot - qk (sq a b) n) / qk (sq a b) (n + 1) = d := ⟨_, rfl⟩
      rw [hd] at dnn dle hb
      have wx : (pk (sq a b) n).natAbs < 2 ^ 250 := wlt z0.1 z0.2
      have wy : (qk (sq a b) n).natAbs < 2 ^ 250 := wlt y0 (by omega)
      have wd : d.natAbs < 2 ^ 250 := wlt dnn (by omega)
      have wp : (pk (sq a b) (n + 1)).natAbs < 2 ^ 250 := wlt z1.1 z1.2.2.1
      have wq : (qk (sq a b) (n + 1)).natAbs < 2 ^ 250 := wlt (Int.le_of_lt z1.2.1) z1.2.2.2
      have hb2 : bot < qk (sq a b) n + d * qk (sq a b) (n + 1) + qk (sq a b) (n + 1) := by
        have : (d + 1) * qk (sq a b) (n + 1) = d * qk (sq a b) (n + 1) + qk (sq a b) (n + 1) := by grind
        omega
      subst hd
      refine ⟨_, rfl, _, rfl, _, rfl, _, _, rfl, rfl, wide_mul wd wp (by decide) (by decide) (by decide), _, _, rfl, rfl, _, rfl, _, rfl, _, rfl, _, _, rfl, rfl, wide_mul wd wq (by decide) (by decide) (by decide), _, _, rfl, rfl, by show 2 ≤ sizeLine; decide, fun t nt => ?_⟩
      refine k _ t _ _ ((s04.trans s5).trans (same_new nt)) (SqT.of upd_same) ?_ (big_lt wx wp wd) (big_lt wy wq wd)
      constructor
      · rintro rfl u v hv hvb hh
        rw [if_pos rfl] at hn2
        obtain ⟨i, rfl⟩ : ∃ i, n = 2 * i := ⟨n / 2, by omega⟩
        exact side_above sp i dnn hb2 hv hvb hh
      · rintro rfl u v hv hvb hh
        rw [if_neg (by decide)] at hn2
        obtain ⟨i, rfl⟩ : ∃ i, n = 2 * i + 1 := ⟨n / 2, by omega⟩
        exact side_below sp i dnn hb2 hv hvb hh
end Sw
set_option Elab.async false
set_option linter.all false
set_option maxRecDepth 100000
set_option maxHeartbeats 1000000
namespace Sw
open PySem PySem.Spec PyProof.Rows L2
variable {P : Program} {w : World} {K : PySem.W.Frag} {mg : Str → Option Value} {base : Heap}
/-! below_to, above_to, greatest_below, least_above -/
def spTo (K : PySem.W.Frag) (ab : Bool) : Sp := fun vs H Q _ => ∃ (p : Addr) (a b : List Int) (bot : Int), vs = [.ref p, .int bot] ∧ SlopeAt K H p a b ∧ b ≠ [] ∧ Parts a ∧ Parts b ∧ 1 ≤ bot ∧ bot ≤ MX ∧
  ∀ H' t x y, Same H H' → SqT K H' t [.int x, .int y] → SideR (sq a b) bot ab x y → x.natAbs < 2 ^ 600 → y.natAbs < 2 ^ 600 → Q (.ref t) H'
theorem sc_below_to : FnScope ["slope", "bound"] ["slope", "bound"] (defScope sBelowTo) := ⟨rfl, rfl, rfl, by decide +kernel, rfl, by decide +kernel, by decide +kernel⟩
theorem d_below_to (T : Tx K mg) : Def P w K mg base 4 "below_to" ["slope", "bound"] (spTo K false) := by
  refine mkDef T 3 22 rfl T.g_below_to sc_below_to (fun _ _ _ _ _ _ us hl => match us, hl with | [_, _], _ => rfl) (fun vs H Q E h => ?_) (fun cdv A outer s H vs Q E hr h => ?_)
  · obtain ⟨p, a, b, bot, rfl, _⟩ := h
    rfl
  · obtain ⟨p, a, b, bot, rfl, h1, hne, pa, pb, hb1, hbM, k⟩ := h
    exact ⟨_, pss_one (ps_ret (pe_cal (d_side T) hr (by rfl) (pa_cons (pv 0) (pa_cons (pv 1) (pa_cons pe_bl pa_nil))))), _, rfl, _, rfl, p, a, b, bot, false, rfl, h1, hne, pa, pb, hb1, hbM, k⟩
theorem sc_above_to : FnScope ["slope", "bound"] ["slope", "bound"] (defScope sAboveTo) := ⟨rfl, rfl, rfl, by decide +kernel, rfl, by decide +kernel, by decide +kernel⟩
theorem d_above_to (T : Tx K mg) : Def P w K mg base 4 "above_to" ["slope", "bound"] (spTo K true) := by
  refine mkDef T 3 23 rfl T.g_above_to sc_above_to (fun _ _ _ _ _ _ us hl => match us, hl with | [_, _], _ => rfl) (fun vs H Q E h => ?_) (fun cdv A outer s H vs Q E hr h => ?_)
  · obtain ⟨p, a, b, bot, rfl, _⟩ := h
    rfl
  · obtain ⟨p, a, b, bot, rfl, h1, hne, pa, pb, hb1, hbM, k⟩ := h
    exact ⟨_, pss_one (ps_ret (pe_cal (d_side T) hr (by rfl) (pa_cons (pv 0) (pa_cons (pv 1) (pa_cons pe_bl pa_nil))))), _, rfl, _, rfl, p, a, b, bot, true, rfl, h1, hne, pa, pb, hb1, hbM, k⟩
theorem sc_greatest_below : FnScope ["slope", "bound"] ["slope", "bound"] (defScope sGreatestBelow) := ⟨rfl, rfl, rfl, by decide +kernel, rfl, by decide +kernel, by decide +kernel⟩
theorem d_greatest_below (T : Tx K mg) : Def P w K mg base 5 "greatest_below" ["slope", "bound"] (spTo K false) := by
  refine mkDef T 4 26 rfl T.g_greatest_below sc_greatest_below (fun _ _ _ _ _ _ us hl => match us, hl with | [_, _], _ => rfl) (fun vs H Q E h => ?_) (fun cdv A outer s H vs Q E hr h => ?_)
  · obtain ⟨p, a, b, bot, rfl, _⟩ := h
    rfl
  · obtain ⟨p, a, b, bot, rfl, h1, hne, pa, pb, hb1, hbM, k⟩ := h
    exact ⟨_, pss_cons (ps_expr (pe_cal (d_check_slope T) (hr.mono (by decide)) (by rfl) (pa_cons (pv 0) pa_nil))) (pss_cons (ps_expr (pe_cal (d_check_bound T) (hr.mono (by decide)) (by rfl) (pa_cons (pv 1) pa_nil)))
      (pss_one (ps_ret (pe_cal (d_below_to T) hr (by rfl) (pa_cons (pv 0) (pa_cons (pv 1) pa_nil)))))), _, rfl, p, a, b, rfl, h1, _, rfl, bot, rfl, hb1, hbM, _, rfl, _, rfl, p, a, b, bot, rfl, h1, hne, pa, pb, hb1, hbM, k⟩
theorem sc_least_above : FnScope ["slope", "bound"] ["slope", "bound"] (defScope sLeastAbove) := ⟨rfl, rfl, rfl, by decide +kernel, rfl, by decide +kernel, by decide +kernel⟩
theorem d_least_above (T : Tx K mg) : Def P w K mg base 5 "least_above" ["slope", "bound"] (spTo K true) := by
  refine mkDef T 4 27 rfl T.g_least_above sc_least_above (fun _ _ _ _ _ _ us hl => match us, hl with | [_, _], _ => rfl) (fun vs H Q E h => ?_) (fun cdv A outer s H vs Q E hr h => ?_)
  · obtain ⟨p, a, b, bot, rfl, _⟩ := h
    rfl
  · obtain ⟨p, a, b, bot, rfl, h1, hne, pa, pb, hb1, hbM, k⟩ := h
    exact ⟨_, pss_cons (ps_expr (pe_cal (d_check_slope T) (hr.mono (by decide)) (by rfl) (pa_cons (pv 0) pa_nil))) (pss_cons (ps_expr (pe_cal (d_check_bound T) (hr.mono (by decide)) (by rfl) (pa_cons (pv 1) pa_nil)))
      (pss_one (ps_ret (pe_cal (d_above_to T) hr (by rfl) (pa_cons (pv 0) (pa_cons (pv 1) pa_nil)))))), _, rfl, p, a, b, rfl, h1, _, rfl, bot, rfl, hb1, hbM, _, rfl, _, rfl, p, a, b, bot, rfl, h1, hne, pa, pb, hb1, hbM, k⟩
end Sw
set_option Elab.async false
set_option linter.all false
set_option maxRecDepth 100000
set_option maxHeartbeats 1000000
namespace Sw
open PySem PySem.Spec PyProof.Rows L2
variable {P : Program} {w : World} {K : PySem.W.Frag} {mg : Str → Option Value} {base : Heap}
/-! neighbours_of_path -/
def spNbPath (K : PySem.W.Frag) : Sp := fun vs H Q _ => ∃ (L : Addr) (cs : List Int), vs = [.ref L] ∧ H L = some (.lst (cs.map V.int)) ∧ (∀ c, c ∈ cs → 0 ≤ c ∧ c ≤ 100) ∧ cs.length ≤ 100 ∧ ∀ H' t, Same H H' → SqT K H' t [.int (cf cs).1, .int (cf cs).2] → Q (.ref t) H'
theorem sc_nb_path : FnScope ["path", "top", "bottom", "part"] ["path"] (defScope sNeighboursOfPath) := ⟨rfl, rfl, rfl, by decide +kernel, rfl, by decide +kernel, by decide +kernel⟩
theorem d_nb_path (T : Tx K mg) : Def P w K mg base 1 "neighbours_of_path" ["path"] (spNbPath K) := by
  refine mkDef T 0 25 rfl T.g_neighbours_of_path sc_nb_path (fun _ _ _ _ _ _ us hl => match us, hl with | [_], _ => rfl) (fun vs H Q E h => ?_) (fun cdv A outer s H vs Q E hr h => ?_)
  · obtain ⟨L, cs, rfl, _⟩ := h
    rfl
  · obtain ⟨L, cs, rfl, hL, hc, hl, k⟩ := h
    have nd := sc_nb_path.nd
    refine ⟨_, pss_cons (ps_asg (pe_tup (pa_cons pe_int (pa_cons pe_int pa_nil))) (pg_tup rfl (pgs_cons (pg_name (i := 1) nd rfl (.inl rfl)) (pgs_cons (pg_name (i := 2) nd rfl (.inl rfl)) pgs_nil))))
      (pss_cons (ps_for PassesOwn.never rfl (pi_list (pe_revL (pv 0))) (pg_name (i := 3) nd rfl (.inl rfl))
        (pss_one (ps_par (i := 1) (j := 2) (by rfl) nd rfl rfl (by decide) rfl rfl (pa_cons (pv 2) (pa_cons (pe_op op_add (pe_op op_mul (pv 3) (pv 2)) (pv 1)) pa_nil)) (by rfl))))
      (pss_one (ps_ret (pe_tup (pa_cons (pv 1) (pa_cons (pv 2) pa_nil)))))), ?_⟩
    refine ⟨by show 2 ≤ sizeLine; decide, fun t0 n0 => ?_⟩
    have s1 : Same H (upd H t0 (.tup [.int 0, .int 1])) := same_new n0
    refine ⟨t0, _, rfl, SqT.of upd_same, rfl, _, _, rfl, _, _, rfl, rfl, ?_⟩
    refine ⟨_, rfl, L, _, rfl, SqL.of (s1 _ _ hL), fun R nR => ?_⟩
    have s2 := s1.trans (same_new (o := .lst (cs.map V.int).reverse) nR)
    refine ⟨R, rfl, ⟨_, SqL.of upd_same⟩, for_list (K := K) (a := R) (xs := (cs.map V.int).reverse) (fun i σ H' => ∃ x3, σ = [some (.ref L), some (.int (cf (cs.drop (cs.length - i))).1), some (.int (cf (cs.drop (cs.length - i))).2), x3] ∧ H' = upd (upd H t0 (.tup [.int 0, .int 1])) R (.lst (cs.map V.int).reverse))
      ⟨none, by simp [cf]; rfl, rfl⟩ (fun i σ H' _ ⟨_, _, e⟩ => by rw [e]; exact SqL.of upd_same) ?_ ?_⟩
    · rintro i y σ H' hi ⟨x3, rfl, rfl⟩
      have hil := (List.getElem?_eq_some_iff.mp hi).1
      rw [List.length_reverse, List.length_map] at hil
      rw [List.getElem?_reverse (by rw [List.length_map]; exact hil), List.length_map] at hi
      obtain ⟨c, hcc, rfl⟩ := map_at hi
      have cb := hc c (List.mem_of_getElem? hcc)
      have hlt : cs.length - 1 - i < cs.length := by omega
      have ed : cs.drop (cs.length - (i + 1)) = c :: cs.drop (cs.length - i) := by
        rw [show cs.length - (i + 1) = cs.length - 1 - i by omega, List.drop_eq_getElem_cons hlt, show cs.length - 1 - i + 1 = cs.length - i by omega]
        rw [List.getElem?_eq_getElem hlt] at hcc
        rw [Option.some.inj hcc]
      refine ⟨_, rfl, _, rfl, _, rfl, _, _, rfl, rfl, .inl ⟨by omega, by omega⟩, _, rfl, _, _, rfl, rfl, _, _, rfl, ?_⟩
      refine ⟨some (.int c), ?_, rfl⟩
      rw [ed]
      rfl
    · rintro σ H' ⟨x3, rfl, rfl⟩
      rw [List.length_reverse, List.length_map, Nat.sub_self, List.drop_zero]
      refine ⟨_, rfl, _, rfl, by show 2 ≤ sizeLine; decide, fun t nt => ?_⟩
      exact k _ t (s2.trans (same_new nt)) (SqT.of upd_same)
/-! between_two -/
structure BtwS (a b a' b' : List Int) (x y : Int) : Prop where
  bt : Btw (sq a b) (sq a' b') x y
  x0 : 0 ≤ x
  xM : x ≤ MX
  yM : y ≤ MX
theorem btwS_of {a b a' b' : List Int} (g : Good a b) (g' : Good a' b') {n : Nat} (hn : n < 18) (h : Less (sq a b) (sq a' b') n) :
    BtwS a b a' b' (cf ((List.range n).map (sq a b) ++ [min (sq a b n) (sq a' b' n) + 1])).1 (cf ((List.range n).map (sq a b) ++ [min (sq a b n) (sq a' b' n) + 1])).2 := by
  have e := cf_path (sq a b) n (min (sq a b n) (sq a' b' n) + 1)
  rw [e]
  have s1 := sq_parts g.pa g.pb n
  have s2 := sq_parts g'.pa g'.pb n
  obtain ⟨⟨p1, p2⟩, ⟨q1, q2⟩, ⟨p3, p4⟩, q3, q4⟩ := pq_bound g.pos (fun k => (sq_parts g.pa g.pb k).2) n
  have pw : (21 : Int) ^ n ≤ 21 ^ 18 := by
    have h := Nat.pow_le_pow_right (show 0 < 21 by decide) (show n ≤ 18 by omega)
    exact_mod_cast h
  have big : (22 : Int) * 21 ^ 18 ≤ MX := by decide +kernel
  have c0 : 0 ≤ min (sq a b n) (sq a' b' n) + 1 := by omega
  have c1 : min (sq a b n) (sq a' b' n) + 1 ≤ 21 := by omega
  have m1 : (min (sq a b n) (sq a' b' n) + 1) * pk (sq a b) (n + 1) ≤ 21 * 21 ^ n := Int.mul_le_mul c1 p4 p3 (by decide)
  have m2 : (min (sq a b n) (sq a' b' n) + 1) * qk (sq a b) (n + 1) ≤ 21 * 21 ^ n := Int.mul_le_mul c1 q4 q3 (by decide)
  have m3 := Int.mul_nonneg c0 p3
  refine ⟨btw_of g.pos g'.pos h, ?_, ?_, ?_⟩
  · show 0 ≤ _ + _
    omega
  · show _ + _ ≤ MX
    omega
  · show _ + _ ≤ MX
    omega
def spBtw (K : PySem.W.Frag) : Sp := fun vs H Q _ => ∃ (p q : Addr) (a b a' b' : List Int), vs = [.ref p, .ref q] ∧ SlopeAt K H p a b ∧ SlopeAt K H q a' b' ∧ Good a b ∧ Good a' b' ∧ ¬ (a = a' ∧ b = b') ∧ SLt (sq a b) (sq a' b') ∧
  ∀ H' t x y, Same H H' → SqT K H' t [.int x, .int y] → BtwS a b a' b' x y → Q (.ref t) H'
theorem sc_btw : FnScope ["low", "high", "path", "many"] ["low", "high"] (defScope sBetweenTwo) := ⟨rfl, rfl, rfl, by decide +kernel, rfl, by decide +kernel, by decide +kernel⟩
theorem d_btw (T : Tx K mg) : Def P w K mg base 2 "between_two" ["low", "high"] (spBtw K) := by
  refine mkDef T 1 24 rfl T.g_between_two sc_btw (fun _ _ _ _ _ _ us hl => match us, hl with | [_, _], _ => rfl) (fun vs H Q E h => ?_) (fun cdv A outer s H vs Q E hr h => ?_)
  · obtain ⟨p, q, a, b, a', b', rfl, _⟩ := h
    rfl
  · obtain ⟨p, q, a, b, a', b', rfl, h1, h2, g, g', ne, lt, k⟩ := h
    have nd := sc_btw.nd
    obtain ⟨d, hd, e, u⟩ := first_unlike g.cn g'.cn g.la g.lb g'.la g'.lb ne
    have ls : Less (sq a b) (sq a' b') d := by
      refine ⟨e, ?_⟩
      refine Classical.byContradiction fun z => ?_
      have : Less (sq a' b') (sq a b) d := ⟨fun j hj => (e j hj).symm, by
        by_cases c : d % 2 = 0
        · rw [if_pos c] at z ⊢
          omega
        · rw [if_neg c] at z ⊢
          omega⟩
      exact SLt.asymm g.pos g'.pos lt (btw_of g'.pos g.pos this).lt
    refine ⟨_, pss_cons (ps_par (i := 2) (j := 3) (by rfl) nd rfl rfl (by decide) rfl rfl (pa_cons (pe_lst pa_nil) (pa_cons pe_int pa_nil)) (by rfl))
      (pss_cons (ps_while PassesOwn.never (pt_cmpR op_eq (pe_cal (d_part_at T) hr (by rfl) (pa_cons (pv 0) (pa_cons (pv 3) pa_nil))) (pe_cal (d_part_at T) hr (by rfl) (pa_cons (pv 1) (pa_cons (pv 3) pa_nil))) (nomark _))
        (pss_cons (ps_expr (pe_bm PySem.F.plainAttrs_list PySem.F.slot_list_append PySem.F.type_list_append mt_append (pv 2) (pa_cons (pe_cal (d_part_at T) hr (by rfl) (pa_cons (pv 0) (pa_cons (pv 3) pa_nil))) pa_nil)))
        (pss_one (ps_aug (i := 3) nd rfl (.inl rfl) pe_int ip_add))))
      (pss_cons (ps_expr (pe_bm PySem.F.plainAttrs_list PySem.F.slot_list_append PySem.F.type_list_append mt_append (pv 2) (pa_cons (pe_op op_add (pe_callB (call_min2 rfl) (by rfl) T.f_min boot_min (pa_cons (pe_cal (d_part_at T) hr (by rfl) (pa_cons (pv 0) (pa_cons (pv 3) pa_nil))) (pa_cons (pe_cal (d_part_at T) hr (by rfl) (pa_cons (pv 1) (pa_cons (pv 3) pa_nil))) pa_nil))) pe_int) pa_nil)))
      (pss_one (ps_ret (pe_cal (d_nb_path T) hr (by rfl) (pa_cons (pv 2) pa_nil)))))), ?_⟩
    refine ⟨Nat.zero_le _, fun L nL => ?_⟩
    refine ⟨_, _, rfl, ?_⟩
    refine ⟨fun m σ H' => ∃ n : Nat, σ = [some (.ref p), some (.ref q), some (.ref L), some (.int ((n : Int) + 1))] ∧ Same H H' ∧ H' L = some (.lst (((List.range n).map (sq a b)).map V.int)) ∧ n ≤ d ∧ m = d - n, ⟨_, 0, rfl, same_new nL, upd_same, Nat.zero_le _, rfl⟩, ?_⟩
    rintro m σ H' ⟨n, rfl, s1, hL, hn, rfl⟩
    refine ⟨_, rfl, _, rfl, p, a, b, n, rfl, h1.ext s1, g.ne, _, rfl, _, rfl, q, a', b', n, rfl, h2.ext s1, g'.ne, rfl, _, rfl, ?_⟩
    have bd : ∀ c, c ∈ (List.range n).map (sq a b) ++ [min (sq a b n) (sq a' b' n) + 1] → 0 ≤ c ∧ c ≤ 100 := fun c hc => by
      have x1 := sq_parts g.pa g.pb n
      have x2 := sq_parts g'.pa g'.pb n
      rcases List.mem_append.mp hc with z | z
      · obtain ⟨j, _, rfl⟩ := List.mem_map.mp z
        have := sq_parts g.pa g.pb j
        omega
      · rw [List.mem_singleton.mp z]
        omega
    by_cases y : sq a b n = sq a' b' n
    · refine iteTk (veq y) ?_
      have hlt : n < d := by
        rcases Nat.lt_or_ge n d with z | z
        · exact z
        · have : n = d := by omega
          rw [this] at y
          exact absurd y u
      refine ⟨fun σ' H2 => σ' = [some (.ref p), some (.ref q), some (.ref L), some (.int (((n + 1 : Nat) : Int) + 1))] ∧ Same H H2 ∧ H2 L = some (.lst (((List.range (n + 1)).map (sq a b)).map V.int)), fun σ' H2 ⟨e1, e2, e3⟩ => ⟨d - (n + 1), by omega, n + 1, e1, e2, e3, by omega, rfl⟩, ?_⟩
      refine ⟨_, rfl, .inl ⟨rfl, _, SqL.of hL⟩, _, rfl, _, rfl, p, a, b, n, rfl, h1.ext s1, g.ne, L, _, _, rfl, rfl, hL, ?_, ?_⟩
      · rw [List.length_map, List.length_map, List.length_range]
        exact small1000 (by omega)
      · refine ⟨_, rfl, _, _, rfl, rfl, rfl, same_lst nL s1, ?_⟩
        rw [upd_same, List.range_succ, List.map_append, List.map_append]
        rfl
    · refine iteFk (vne y) ?_
      have end_ : n = d := by
        rcases Nat.lt_or_ge n d with z | z
        · exact absurd (e n z) y
        · omega
      subst end_
      have em : (if sq a' b' n < sq a b n then sq a' b' n else sq a b n) = min (sq a b n) (sq a' b' n) := by
        by_cases z : sq a' b' n < sq a b n
        · rw [if_pos z]
          omega
        · rw [if_neg z]
          omega
      refine ⟨_, rfl, .inl ⟨rfl, _, SqL.of hL⟩, _, rfl, _, rfl, p, a, b, n, rfl, h1.ext s1, g.ne, _, rfl, _, rfl, q, a', b', n, rfl, h2.ext s1, g'.ne, _, _, rfl, _, _, rfl, rfl, L, _, _, rfl, rfl, hL, ?_, ?_⟩
      · rw [List.length_map, List.length_map, List.length_range]
        exact small1000 (by omega)
      · refine ⟨_, rfl, L, (List.range n).map (sq a b) ++ [min (sq a b n) (sq a' b' n) + 1], rfl, ?_, bd, ?_, fun H3 t s3 ht => ?_⟩
        · rw [upd_same, List.map_append]
          rw [← em]
          rfl
        · rw [List.length_append, List.length_map, List.length_range]
          show n + 1 ≤ 100
          omega
        · exact k H3 t _ _ ((same_lst nL s1).trans s3) ht (btwS_of g g' hd ls)
end Sw
set_option Elab.async false
set_option linter.all false
set_option maxRecDepth 100000
set_option maxHeartbeats 1000000
namespace Sw
open PySem PySem.Spec PyProof.Rows L2
variable {P : Program} {w : World} {K : PySem.W.Frag} {mg : Str → Option Value} {base : Heap}
/-! least_between -/
/-- the fraction between two unlike slopes, whichever is less -/
def BtwE (a b a' b' : List Int) (x y : Int) : Prop := (SLt (sq a b) (sq a' b') ∧ BtwS a b a' b' x y) ∨ (SLt (sq a' b') (sq a b) ∧ BtwS a' b' a b x y)
def spLB (K : PySem.W.Frag) : Sp := fun vs H Q _ => ∃ (p q : Addr) (a b a' b' : List Int), vs = [.ref p, .ref q] ∧ SlopeAt K H p a b ∧ SlopeAt K H q a' b' ∧ Good a b ∧ Good a' b' ∧ ((a = a' ∧ b = b') → Q .non H) ∧
  (¬ (a = a' ∧ b = b') → ∀ H' t x y, Same H H' → SqT K H' t [.int x, .int y] → BtwE a b a' b' x y → Q (.ref t) H')
theorem sc_lb : FnScope ["slope", "other"] ["slope", "other"] (defScope sLeastBetween) := ⟨rfl, rfl, rfl, by decide +kernel, rfl, by decide +kernel, by decide +kernel⟩
theorem lb_ex (T : Tx K mg) : ∃ fd, FunD K "least_between" "least_between" (defArgs sLeastBetween) (defBody sLeastBetween) (defScope sLeastBetween) [] [] (He.ga K "least_between") fd ∧ FnOk P w K mg base CX0 4 (He.ga K "least_between") fd ["slope", "other"] (spLB K) := by
  obtain ⟨fd, F⟩ := T.fn 28 _ rfl
  have F' : FunD K "least_between" "least_between" (defArgs sLeastBetween) (defBody sLeastBetween) (defScope sLeastBetween) [] [] (He.ga K "least_between") fd := F
  refine ⟨fd, F', funD_okN F' sc_lb (fun vs H Q E h => ?_) (fun cdv A outer s H vs Q E hr h => ?_)⟩
  · obtain ⟨p, q, a, b, a', b', rfl, _⟩ := h
    rfl
  · obtain ⟨p, q, a, b, a', b', rfl, h1, h2, g, g', k1, k2⟩ := h
    obtain ⟨dx, fs, i1⟩ := h1.ins
    obtain ⟨dy, gs, i2⟩ := h2.ins
    have hr2 : Room 2 _ := hr.mono (by decide)
    refine ⟨_, pss_cons (ps_expr (pe_cal (d_check_pair T) hr2 (by rfl) (pa_cons (pv 0) (pa_cons (pv 1) pa_nil))))
      (pss_cons (ps_if (pt_cmpR (op_slopeEq T (hr.mono (by decide))) (pv 0) (pv 1) (nomark _)) (pss_one (ps_ret pe_non)) pss_nil)
      (pss_one (ps_ret (pe_ifExp (pt_val (pe_cal (d_less T) hr2 (by rfl) (pa_cons (pv 0) (pa_cons (pv 1) pa_nil)))) (pe_cal (d_btw T) hr2 (by rfl) (pa_cons (pv 0) (pa_cons (pv 1) pa_nil))) (pe_cal (d_btw T) hr2 (by rfl) (pa_cons (pv 1) (pa_cons (pv 0) pa_nil))))))), ?_⟩
    refine ⟨_, rfl, _, rfl, p, q, a, b, a', b', rfl, h1, h2, ?_⟩
    refine ⟨_, rfl, _, rfl, p, q, dx, dy, fs, gs, rfl, rfl, i1, i2, p, q, a, b, a', b', rfl, h1, h2, ⟨_, rfl⟩, _, rfl, ?_⟩
    by_cases c : a = a' ∧ b = b'
    · refine iteTk (decide_eq_true c) ?_
      exact k1 c
    · refine iteFk (decide_eq_false c) ?_
      refine ⟨_, rfl, _, rfl, p, q, a, b, a', b', rfl, h1, h2, g, g', fun r hr => ⟨r, rfl, ?_⟩⟩
      cases r with
      | true =>
        have lt := (hr.yes rfl).2
        refine iteT ⟨_, rfl, _, rfl, p, q, a, b, a', b', rfl, h1, h2, g, g', c, lt, fun H1 t x y s1 ht bt => ?_⟩
        exact k2 c _ _ _ _ s1 ht (.inl ⟨lt, bt⟩)
      | false =>
        have lt : SLt (sq a' b') (sq a b) := by
          rcases hr.no rfl with z | z
          · exact absurd z c
          · exact z.2
        refine iteF ⟨_, rfl, _, rfl, q, p, a', b', a, b, rfl, h2, h1, g', g, fun z => c ⟨z.1.symm, z.2.symm⟩, lt, fun H1 t x y s1 ht bt => ?_⟩
        exact k2 c _ _ _ _ s1 ht (.inr ⟨lt, bt⟩)
theorem d_lb (T : Tx K mg) : Def P w K mg base 4 "least_between" ["slope", "other"] (spLB K) := by
  obtain ⟨fd, F, ok⟩ := lb_ex (P := P) (w := w) (base := base) T
  exact ⟨⟨fd, ok, F.bindsN (fun _ _ _ _ _ _ us hl => match us, hl with | [_, _], _ => rfl)⟩, T.g_least_between, F.kp⟩
def swap2 {α : Type} (us ws : List α) : List α := match us, ws with
  | [], [w0, w1] => [w1, w0]
  | _, _ => []
/-- least_between(other=.., slope=..) -/
theorem pe_lbK {X : Cx} (T : Tx X.K X.mg) (hr : Room 4 X.A) (hg : Gl X "least_between") {p p1 p2 pos : Pos} {e1 e2 : Expr} {t1 t2 : TE} (h1 : PE X e1 t1) (h2 : PE X e2 t2)
    (hall : (backToKw pos (keywordEach [⟨some "other", e1, p1⟩, ⟨some "slope", e2, p2⟩] X.env)).all (·.1.isSome) = true := by rfl) (hks : (backToKw pos (keywordEach [⟨some "other", e1, p1⟩, ⟨some "slope", e2, p2⟩] X.env)).filterMap (·.1) = (["other", "slope"] : List Str) := by rfl)
    (hpl : ((backTo pos (starEach [] X.env)).any (·.1) || (backToKw pos (keywordEach [⟨some "other", e1, p1⟩, ⟨some "slope", e2, p2⟩] X.env)).any (·.1.isNone)) = false := by rfl) :
    PE X (.Call (.Name "least_between" p) [] [⟨some "other", e1, p1⟩, ⟨some "slope", e2, p2⟩] pos) (tCallK (spLB X.K) swap2 E0 tNil (tCons t1 (tCons t2 tNil))) := by
  obtain ⟨fd, F, ok⟩ := lb_ex (P := X.prog) (w := X.w) (base := X.base) T
  have kb : KBinds X.K fd ["slope", "other"] ["other", "slope"] swap2 swap2 := ⟨fun s us ws KI hl => ?_, fun r1 r2 => ?_⟩
  · have kw := pk_cons (X := X) (kpos := p1) (nm := some "other") h1 (pk_cons (kpos := p2) (nm := some "slope") h2 pk_nil)
    exact ⟨fun pins s σ H Q I q => wpAny_Call_Name_kw (ld_glob I hg T.g_least_between (PySem.W.callWith_KW0 (h₀ := X.base) I.ok.mod.kin F.kp hall
      (thn (kw.run pos pins s σ H (fun zs H1 => spLB X.K (swap2 [] zs) H1 Q E0) I q) fun ws s2 ⟨zs, H2, I2, rz, q2⟩ => ⟨I2.kIn, by rw [hks]; exact run_fnk (us := []) (vs := []) ok hr kb pass0 I2 .nil rz q2⟩) hpl) (by decide))⟩
  · obtain ⟨oc, od, dV, kV, doc, pm, an, cdv, ct, osl, rfl, lk, hcd, hD, hK⟩ := F.ex
    rcases hD with ⟨_, rfl⟩ | ⟨e, _⟩
    · match us, ws, hl with
      | [], [w0, w1], _ => exact .of_eq rfl
    · exact absurd rfl e
  · cases r1 with
    | nil =>
      cases r2 with
      | nil => exact .nil
      | cons a r2 =>
        cases r2 with
        | nil => exact .nil
        | cons b r2 =>
          cases r2 with
          | nil => exact .cons b (.cons a .nil)
          | cons c r2 => exact .nil
    | cons a r1 => exact .nil
end Sw
set_option Elab.async false
set_option linter.all false
set_option maxRecDepth 100000
set_option maxHeartbeats 1000000
namespace Sw
open PySem PySem.Spec PyProof.Rows L2
variable {P : Program} {w : World} {K : PySem.W.Frag} {mg : Str → Option Value} {base : Heap}
/-- the three ints that draws come from -/
def PailAt (H : Hp) (a : Addr) : Prop := ∃ d m k : Int, H a = some (.lst [.int d, .int m, .int k])
/-- all but a is as it was -/
def KeepX (a : Addr) (H H' : Hp) : Prop := ∀ b o, H b = some o → b ≠ a → H' b = some o
theorem KeepX.trans {a : Addr} {H H1 H2 : Hp} (h : KeepX a H H1) (k : KeepX a H1 H2) : KeepX a H H2 := fun b o e n => k b o (h b o e n) n
theorem KeepX.of {a : Addr} {H H' : Hp} (h : Same H H') : KeepX a H H' := fun b o e _ => h b o e
theorem KeepX.refl {a : Addr} {H : Hp} : KeepX a H H := fun _ _ e _ => e
theorem keep_upd {a : Addr} {H H' : Hp} {o : HO} (h : KeepX a H H') : KeepX a H (upd H' a o) := fun b u e n => by
  rw [upd_ne n]
  exact h b u e n
theorem seqT_x {H H' : Hp} {a t : Addr} {xs : List V} (p : PailAt H a) (k : KeepX a H H') (h : SqT K H t xs) : SqT K H' t xs := by
  obtain ⟨d, m, j, p⟩ := p
  rcases h with (h | ⟨o, h⟩) | h
  · exact .inl (.inl (k _ _ h fun z => by rw [z, p] at h; cases h))
  · exact .inl (.inr ⟨o, k _ _ h fun z => by rw [z, p] at h; cases h⟩)
  · exact .inr h
theorem pair_x {H H' : Hp} {a t : Addr} {la lb : List Int} (p : PailAt H a) (k : KeepX a H H') (h : PairAt K H t la lb) : PairAt K H' t la lb := by
  obtain ⟨l, r, h1, h2, h3⟩ := h
  exact ⟨l, r, seqT_x p k h1, seqT_x p k h2, seqT_x p k h3⟩
theorem slope_x {H H' : Hp} {a t : Addr} {la lb : List Int} (p : PailAt H a) (k : KeepX a H H') (h : SlopeAt K H t la lb) : SlopeAt K H' t la lb := by
  obtain ⟨dx, q, w, h1, h2⟩ := h
  obtain ⟨d, m, j, p'⟩ := id p
  exact ⟨dx, q, w, k _ _ h1 (fun z => by rw [z, p'] at h1; cases h1), pair_x p k h2⟩
theorem PailAt.ext {H H' : Hp} {a : Addr} (p : PailAt H a) (s : Same H H') : PailAt H' a := let ⟨d, m, k, h⟩ := p; ⟨d, m, k, s _ _ h⟩
/-! _law_pull -/
def spPull : Sp := fun vs H Q _ => ∃ (a : Addr) (n : Int), vs = [.ref a, .int n] ∧ PailAt H a ∧ 1 ≤ n ∧ n ≤ 1000 ∧ ∀ H' r, KeepX a H H' → PailAt H' a → 0 ≤ r → r < n → Q (.int r) H'
theorem sc_pull : FnScope ["_law_pail_here", "_law_top", "_law_figure", "_law_base"] ["_law_pail_here", "_law_top"] (defScope sLawPull) := ⟨rfl, rfl, rfl, by decide +kernel, rfl, by decide +kernel, by decide +kernel⟩
theorem d_pull (T : Tx K mg) : Def P w K mg base 1 "_law_pull" ["_law_pail_here", "_law_top"] spPull := by
  refine mkDef T 0 30 rfl T.g_law_pull sc_pull (fun _ _ _ _ _ _ us hl => match us, hl with | [_, _], _ => rfl) (fun vs H Q E h => ?_) (fun cdv A outer s H vs Q E hr h => ?_)
  · obtain ⟨a, n, rfl, _⟩ := h
    rfl
  · obtain ⟨a, n, rfl, ⟨d, m, j, hp⟩, hn1, hn2, k⟩ := h
    have nd := sc_pull.nd
    refine ⟨_, pss_cons (ps_if (pt_cmpR op_gt (pe_ix ix_list (pv 0) pe_int (fun _ _ => rfl)) pe_int (nomark _))
        (pss_cons (ps_set (i := 2) nd rfl (.inl rfl) (pe_op op_mod (pe_callTy call_int1 (by rfl) T.f_int boot_int (pa_cons (pe_ix ix_list (pv 0) pe_int (fun _ _ => rfl)) pa_nil)) (pv 1)))
        (pss_cons (ps_asg (pe_op op_fdivW (pe_ix ix_list (pv 0) pe_int (fun _ _ => rfl)) (pv 1)) (pg_sub (pv 0) pe_int set_list))
        (pss_one (ps_ret (pv 2))))) pss_nil)
      (pss_cons (ps_asg (pe_op op_add (pe_ix ix_list (pv 0) pe_int (fun _ _ => rfl)) pe_int) (pg_sub (pv 0) pe_int set_list))
      (pss_cons (ps_set (i := 3) nd rfl (.inl rfl) (pe_op op_mod (pe_callTy call_int1 (by rfl) T.f_int boot_int (pa_cons (pe_op op_add (pe_ix ix_list (pv 0) pe_int (fun _ _ => rfl)) (pe_op op_mul pe_int (pe_ix ix_list (pv 0) pe_int (fun _ _ => rfl)))) pa_nil)) pe_int))
      (pss_cons (ps_asg (pe_op op_mod (pe_callTy call_int1 (by rfl) T.f_int boot_int (pa_cons (pe_op op_add (pe_op op_add (pe_op op_mul (pv 3) (pe_op op_add (pe_op op_mod (pe_callTy call_int1 (by rfl) T.f_int boot_int (pa_cons (pv 3) pa_nil)) pe_int) pe_int)) (pe_op op_mul pe_int (pe_ix ix_list (pv 0) pe_int (fun _ _ => rfl)))) pe_int) pa_nil)) pe_int) (pg_sub (pv 0) pe_int set_list))
      (pss_one (ps_ret (pe_op op_mod (pe_op op_fdiv (pe_callTy call_int1 (by rfl) T.f_int boot_int (pa_cons (pe_ix ix_list (pv 0) pe_int (fun _ _ => rfl)) pa_nil)) pe_int) (pv 1))))))), ?_⟩
    refine ⟨_, rfl, a, _, _, _, rfl, rfl, SqL.of hp, atI_nat (j := 0) rfl, _, _, rfl, rfl, _, rfl, ?_⟩
    by_cases c : 0 < d
    · refine iteTk (decide_eq_true c) ?_
      refine ⟨_, rfl, a, _, _, _, rfl, rfl, SqL.of hp, atI_nat (j := 0) rfl, .inl ⟨_, rfl, _, rfl, _, _, rfl, rfl, by show 0 < n; omega, ?_⟩⟩
      refine ⟨_, rfl, a, _, _, _, rfl, rfl, SqL.of hp, atI_nat (j := 0) rfl, _, rfl, _, _, rfl, rfl, wide_div (b := 12) (by omega) (by show n.natAbs < 4096; omega) (by decide) (by decide), ?_⟩
      refine ⟨_, rfl, a, _, _, 0, rfl, rfl, hp, rfl, ?_⟩
      refine ⟨_, rfl, ?_⟩
      exact k _ _ (keep_upd KeepX.refl) ⟨_, _, _, upd_same⟩ (Int.emod_nonneg _ (by omega)) (Int.emod_lt_of_pos _ (by omega))
    · refine iteFk (decide_eq_false c) ?_
      refine ⟨_, rfl, a, _, _, _, rfl, rfl, SqL.of hp, atI_nat (j := 2) rfl, _, _, rfl, rfl, _, rfl, a, _, _, 2, rfl, rfl, hp, rfl, ?_⟩
      have hp1 : (upd H a (.lst [.int d, .int m, .int (j + 1)])) a = some (.lst [.int d, .int m, .int (j + 1)]) := upd_same
      have k1 : KeepX a H (upd H a (.lst [.int d, .int m, .int (j + 1)])) := keep_upd KeepX.refl
      show tSeq _ _ _ _ (upd H a (.lst [.int d, .int m, .int (j + 1)]))
      generalize upd H a (.lst [.int d, .int m, .int (j + 1)]) = H1 at hp1 k1
      refine ⟨_, rfl, a, _, _, _, rfl, rfl, SqL.of hp1, atI_nat (j := 1) rfl, _, rfl, a, _, _, _, rfl, rfl, SqL.of hp1, atI_nat (j := 2) rfl, _, _, rfl, rfl, .inl ⟨by decide, by decide⟩, _, _, rfl, rfl, .inl ⟨_, rfl, _, _, rfl, rfl, by show (0 : Int) < 2147483029; decide, ?_⟩⟩
      have b0 : 0 ≤ (m + 41017 * (j + 1)) % 2147483029 := Int.emod_nonneg _ (by decide)
      have b1 : (m + 41017 * (j + 1)) % 2147483029 < 2147483029 := Int.emod_lt_of_pos _ (by decide)
      refine ⟨_, rfl, _, rfl, .inl ⟨_, rfl, _, _, rfl, rfl, by show (0 : Int) < 29017; decide, _, _, rfl, rfl, _, _, rfl, rfl, .inl ⟨?_, ?_⟩, ?_⟩⟩
      · show -(2 ^ 64) < (m + 41017 * (j + 1)) % 2147483029
        omega
      · show (m + 41017 * (j + 1)) % 2147483029 < 2 ^ 64
        omega
      refine ⟨_, rfl, a, _, _, _, rfl, rfl, SqL.of hp1, atI_nat (j := 2) rfl, _, _, rfl, rfl, .inl ⟨by decide, by decide⟩, _, _, rfl, rfl, _, _, rfl, rfl, .inl ⟨_, rfl, _, _, rfl, rfl, by show (0 : Int) < 2147483029; decide, ?_⟩⟩
      refine ⟨_, rfl, a, _, _, 1, rfl, rfl, hp1, rfl, ?_⟩
      refine ⟨_, rfl, a, _, _, _, rfl, rfl, SqL.of upd_same, atI_nat (j := 1) rfl, .inl ⟨_, rfl, _, _, rfl, rfl, ⟨by decide, by decide⟩, _, rfl, _, _, rfl, rfl, by show 0 < n; omega, ?_⟩⟩
      exact k _ _ (keep_upd k1) ⟨_, _, _, upd_same⟩ (Int.emod_nonneg _ (by omega)) (Int.emod_lt_of_pos _ (by omega))
/-! _law_one_of -/
def spOneOf : Sp := fun vs H Q _ => ∃ (a L : Addr) (xs : List V), vs = [.ref a, .ref L] ∧ PailAt H a ∧ H L = some (.lst xs) ∧ L ≠ a ∧ 1 ≤ xs.length ∧ xs.length ≤ 1000 ∧ ∀ H' v, KeepX a H H' → PailAt H' a → v ∈ xs → Q v H'
theorem sc_one_of : FnScope ["_law_pail_here", "_law_some"] ["_law_pail_here", "_law_some"] (defScope sLawOneOf) := ⟨rfl, rfl, rfl, by decide +kernel, rfl, by decide +kernel, by decide +kernel⟩
theorem d_one_of (T : Tx K mg) : Def P w K mg base 2 "_law_one_of" ["_law_pail_here", "_law_some"] spOneOf := by
  refine mkDef T 1 31 rfl T.g_law_one_of sc_one_of (fun _ _ _ _ _ _ us hl => match us, hl with | [_, _], _ => rfl) (fun vs H Q E h => ?_) (fun cdv A outer s H vs Q E hr h => ?_)
  · obtain ⟨a, L, xs, rfl, _⟩ := h
    rfl
  · obtain ⟨a, L, xs, rfl, hp, hL, hne, h1, h2, k⟩ := h
    refine ⟨_, pss_one (ps_ret (pe_ix ix_list (pv 1) (pe_cal (d_pull T) hr (by rfl) (pa_cons (pv 0) (pa_cons (pe_callB call_len_seq (by rfl) T.f_len PySem.boot_len (pa_cons (pv 1) pa_nil)) pa_nil))) (fun _ _ => rfl))), ?_⟩
    refine ⟨_, rfl, _, rfl, _, rfl, L, _, rfl, .inl (SqL.of hL), a, _, rfl, hp, by omega, by omega, fun H1 r k1 p1 r0 r1 => ?_⟩
    have hi : r.toNat < xs.length := by omega
    exact ⟨L, xs, r, xs[r.toNat], rfl, rfl, SqL.of (k1 _ _ hL hne), at_of (j := r.toNat) (by omega) (List.getElem?_eq_getElem hi), k _ _ k1 p1 (List.getElem_mem hi)⟩
/-! _law_at -/
def spAt (K : PySem.W.Frag) : Sp := fun vs H Q _ => ∃ (p : Addr) (a b : List Int) (n : Nat), vs = [.ref p, .int ((n : Int) + 1)] ∧ PairAt K H p a b ∧ b ≠ [] ∧ Q (.int (sq a b n)) H
theorem sc_at : FnScope ["_law_pair_here", "_law_k", "_law_some", "_law_ring"] ["_law_pair_here", "_law_k"] (defScope sLawAt) := ⟨rfl, rfl, rfl, by decide +kernel, rfl, by decide +kernel, by decide +kernel⟩
theorem d_at (T : Tx K mg) : Def P w K mg base 1 "_law_at" ["_law_pair_here", "_law_k"] (spAt K) := by
  refine mkDef T 0 33 rfl T.g_law_at sc_at (fun _ _ _ _ _ _ us hl => match us, hl with | [_, _], _ => rfl) (fun vs H Q E h => ?_) (fun cdv A outer s H vs Q E hr h => ?_)
  · obtain ⟨p, a, b, n, rfl, _⟩ := h
    rfl
  · obtain ⟨p, a, b, n, rfl, ⟨l, r, h2, h3, h4⟩, hb, q⟩ := h
    refine ⟨_, pss_cons (ps_asg (pv 0) (pg_tup rfl (pgs_cons (pg_name (i := 2) sc_at.nd rfl (.inl rfl)) (pgs_cons (pg_name (i := 3) sc_at.nd rfl (.inl rfl)) pgs_nil))))
      (pss_one (ps_ret (pe_ifExp (pt_cmpR op_le (pv 1) (pe_callB call_len_seq (by rfl) T.f_len PySem.boot_len (pa_cons (pv 2) pa_nil)) (nomark _))
        (pe_ix ix_tup (pv 2) (pe_op op_sub (pv 1) pe_int) (fun _ _ => rfl))
        (pe_ix ix_tup (pv 3) (pe_op op_modN (pe_callTy call_int1 (by rfl) T.f_int boot_int (pa_cons (pe_op op_sub (pe_op op_sub (pv 1) pe_int) (pe_callB call_len_seq (by rfl) T.f_len PySem.boot_len (pa_cons (pv 2) pa_nil))) pa_nil)) (pe_callB call_len_seq (by rfl) T.f_len PySem.boot_len (pa_cons (pv 3) pa_nil))) (fun _ _ => rfl))))), ?_⟩
    refine ⟨_, rfl, p, _, rfl, h2, rfl, _, _, rfl, _, _, rfl, rfl, ?_⟩
    refine ⟨_, rfl, _, rfl, l, _, rfl, .inr h3, _, _, rfl, rfl, _, rfl, ?_⟩
    refine ite2 (fun c => ?_) (fun c => ?_)
    · have c := of_decide_eq_true c
      rw [List.length_map] at c
      have hn : n < a.length := by omega
      refine ⟨_, rfl, _, rfl, _, _, rfl, rfl, l, _, _, _, rfl, rfl, h3, at_of (j := n) (by omega) (map_get hn), ?_⟩
      show Q (.int (a.getD n 1)) H
      rw [← sq_lead (b := b) hn]
      exact q
    · have c : ¬ ((n : Int) + 1 ≤ ((a.map V.int).length : Nat)) := fun z => c (decide_eq_true z)
      rw [List.length_map] at c
      have pb := List.length_pos_iff.mpr hb
      refine ⟨_, rfl, _, rfl, _, _, rfl, rfl, _, rfl, l, _, rfl, .inr h3, _, _, rfl, rfl, .inl ⟨_, rfl, _, rfl, r, _, rfl, .inr h4, _, _, rfl, rfl, ?_⟩⟩
      rw [List.length_map, List.length_map]
      have em : ((n : Int) + 1 - 1 - (a.length : Nat)).fmod (b.length : Nat) = (((n - a.length) % b.length : Nat) : Int) := by
        rw [Int.fmod_eq_emod_of_nonneg _ (by omega), show (n : Int) + 1 - 1 - (a.length : Nat) = ((n - a.length : Nat) : Int) by omega]
        rfl
      refine ⟨by omega, r, _, _, _, rfl, rfl, h4, at_of (j := (n - a.length) % b.length) em (map_get (Nat.mod_lt _ pb)), ?_⟩
      have e : sq a b n = b.getD ((n - a.length) % b.length) 1 := by
        unfold sq
        rw [if_neg (by omega)]
      show Q (.int (b.getD ((n - a.length) % b.length) 1)) H
      rw [← e]
      exact q
end Sw
set_option Elab.async false
set_option linter.all false
set_option maxRecDepth 100000
set_option maxHeartbeats 1000000
namespace Sw
open PySem PySem.Spec PyProof.Rows L2
variable {P : Program} {w : World} {K : PySem.W.Frag} {mg : Str → Option Value} {base : Heap}
/-! _law_pair -/
def spPair (K : PySem.W.Frag) : Sp := fun vs H Q _ => ∃ a : Addr, vs = [.ref a] ∧ PailAt H a ∧ ∀ H' p la lb, KeepX a H H' → PailAt H' a → PairAt K H' p la lb → Parts la → Parts lb → la.length ≤ 3 → 1 ≤ lb.length → lb.length ≤ 4 → Q (.ref p) H'
theorem sc_pair : FnScope ["_law_pail_here", "_law_menu", "_law_some", "_law_k"] ["_law_pail_here"] (defScope sLawPair) := ⟨rfl, rfl, rfl, by decide +kernel, rfl, by decide +kernel, by decide +kernel⟩
theorem parts_snoc {xs : List Int} {x : Int} (h : Parts xs) (hx : 1 ≤ x ∧ x ≤ 20) : Parts (xs ++ [x]) := fun y hy => by
  rcases List.mem_append.mp hy with z | z
  · exact h y z
  · rw [List.mem_singleton.mp z]
    exact hx
theorem parts_by {xs : List Int} (h : (xs.all fun x => decide (1 ≤ x ∧ x ≤ 20)) = true) : Parts xs := fun x hx => of_decide_eq_true (List.all_eq_true.mp h x hx)
theorem mem_ints {xs : List Int} {v : V} (h : v ∈ xs.map V.int) : ∃ n, n ∈ xs ∧ v = .int n := by
  obtain ⟨n, h1, h2⟩ := List.mem_map.mp h
  exact ⟨n, h1, h2.symm⟩
/-- the heap within the comprehension's turns: the pail may change, the menu M stands, D holds i parts -/
def CompI (H : Hp) (a M D : Addr) (cs : List Int) (i : Nat) (H' : Hp) : Prop := KeepX a H H' ∧ PailAt H' a ∧ H' M = some (.lst (cs.map V.int)) ∧ ∃ acc : List Int, H' D = some (.lst (acc.map V.int)) ∧ acc.length = i ∧ Parts acc
theorem comp_start {H : Hp} {a M D : Addr} {cs : List Int} (p : PailAt H a) (hM : H M = some (.lst (cs.map V.int))) (nD : H D = none) : CompI H a M D cs 0 (upd H D (.lst [])) :=
  ⟨KeepX.of (same_new nD), p.ext (same_new nD), same_new nD _ _ hM, [], upd_same, rfl, fun x hx => by cases hx⟩
theorem comp_turn {H H1 : Hp} {a M D : Addr} {cs : List Int} {i : Nat} (nD : H D = none) (hM : H M = some (.lst (cs.map V.int))) (p0 : PailAt H a) (hne : M ≠ a) (hc1 : 1 ≤ cs.length) (hc2 : cs.length ≤ 1000) (pc : Parts cs) (hi : i < 10) (c : CompI H a M D cs i H1) (E : XK) :
    spOneOf [.ref a, .ref M] H1 (fun y H4 => ∃ acc, H4 D = some (.lst acc) ∧ acc.length < sizeLine ∧ CompI H a M D cs (i + 1) (upd H4 D (.lst (acc ++ [y])))) E := by
  obtain ⟨k1, p1, m1, acc, d1, l1, q1⟩ := c
  obtain ⟨x0, x1, x2, pa0⟩ := id p0
  have nDa : D ≠ a := fun z => by rw [z, pa0] at nD; cases nD
  have nDM : D ≠ M := fun z => by rw [z, hM] at nD; cases nD
  refine ⟨a, M, _, rfl, p1, m1, hne, by rw [List.length_map]; exact hc1, by rw [List.length_map]; exact hc2, fun H2 v k2 p2 hv => ?_⟩
  obtain ⟨n, hn, rfl⟩ := mem_ints hv
  refine ⟨_, k2 _ _ d1 nDa, by rw [List.length_map]; exact small1000 (by omega), ?_, ?_, ?_, acc ++ [n], ?_, by rw [List.length_append, l1]; rfl, parts_snoc q1 (pc n hn)⟩
  · intro b o e ne
    rw [upd_ne (fun z => by rw [z, nD] at e; cases e)]
    exact k2 _ _ (k1 _ _ e ne) ne
  · obtain ⟨y0, y1, y2, pa2⟩ := p2
    exact ⟨y0, y1, y2, by rw [upd_ne nDa.symm]; exact pa2⟩
  · rw [upd_ne nDM.symm]
    exact k2 _ _ m1 hne
  · rw [upd_same, List.map_append]
    rfl
theorem d_pair (T : Tx K mg) : Def P w K mg base 3 "_law_pair" ["_law_pail_here"] (spPair K) := by
  refine mkDef T 2 32 rfl T.g_law_pair sc_pair (fun _ _ _ _ _ _ us hl => match us, hl with | [_], _ => rfl) (fun vs H Q E h => ?_) (fun cdv A outer s H vs Q E hr h => ?_)
  · obtain ⟨a, rfl, _⟩ := h
    rfl
  · obtain ⟨a, rfl, hp, k⟩ := h
    have nd := sc_pair.nd
    refine ⟨_, pss_cons (ps_set (i := 1) nd rfl (.inr rfl) (pe_cal (d_one_of T) hr (by rfl) (pa_cons (pv 0) (pa_cons (pe_lst (pa_cons (pe_lst (pa_cons pe_int (pa_cons pe_int (pa_cons pe_int (pa_cons pe_int pa_nil))))) (pa_cons (pe_lst (pa_cons pe_int (pa_cons pe_int (pa_cons pe_int pa_nil))))
          (pa_cons (pe_lst (pa_cons pe_int (pa_cons pe_int (pa_cons pe_int (pa_cons pe_int (pa_cons pe_int pa_nil)))))) (pa_cons (pe_lst (pa_cons pe_int (pa_cons pe_int (pa_cons pe_int pa_nil)))) pa_nil))))) pa_nil))))
      (pss_cons (ps_setLc (i := 2) (own := [("_law_k", 3)]) (g := gName 3) rfl nd rfl rfl (sw_true rfl rfl rfl (by decide +kernel)) (pi_range1 (by rfl) T.f_range (pa_cons (pe_cal (d_one_of T) hr (by rfl) (pa_cons (pv 0) (pa_cons (pe_lst (pa_cons pe_int (pa_cons pe_int (pa_cons pe_int (pa_cons pe_int (pa_cons pe_int pa_nil)))))) pa_nil))) pa_nil))
          (blkOk_by (own := [("_law_k", 3)]) (N := ["_law_pail_here", "_law_menu", "_law_some", "_law_k"]) (sc := defScope sLawPair) (by decide +kernel)) (fun _ _ _ _ _ => pg_name (i := 3) nd rfl (Or.inl rfl)) (fun _ _ _ _ _ => pts_nil)
          (fun _ _ _ _ _ => pe_cal (d_one_of T) hr (by rfl) (pa_cons (pv 0) (pa_cons (pv 1) pa_nil))))
      (pss_one (ps_ret (pe_tup (pa_cons (pe_callTy call_tuple_of (by rfl) T.f_tuple boot_tuple (pa_cons (pv 2) pa_nil)) (pa_cons (pe_callTy call_tuple_of (by rfl) T.f_tuple boot_tuple (pa_cons
          (pe_lc (own := [("_law_k", 3)]) (g := gName 3) rfl nd (pi_range1 (by rfl) T.f_range (pa_cons (pe_cal (d_one_of T) hr (by rfl) (pa_cons (pv 0) (pa_cons (pe_lst (pa_cons pe_int (pa_cons pe_int (pa_cons pe_int (pa_cons pe_int (pa_cons pe_int (pa_cons pe_int pa_nil))))))) pa_nil))) pa_nil))
          (blkOk_by (own := [("_law_k", 3)]) (N := ["_law_pail_here", "_law_menu", "_law_some", "_law_k"]) (sc := defScope sLawPair) (by decide +kernel)) (fun _ _ _ _ _ => pg_name (i := 3) nd rfl (Or.inl rfl)) (fun _ _ _ _ _ => pts_nil)
          (fun _ _ _ _ _ => pe_cal (d_one_of T) hr (by rfl) (pa_cons (pv 0) (pa_cons (pv 1) pa_nil)))) pa_nil)) pa_nil)))))), ?_⟩
    refine ⟨_, rfl, by show 4 ≤ sizeLine; decide, fun m1 n1 => ⟨by show 3 ≤ sizeLine; decide, fun m2 n2 => ⟨by show 5 ≤ sizeLine; decide, fun m3 n3 => ⟨by show 3 ≤ sizeLine; decide, fun m4 n4 => ⟨by show 4 ≤ sizeLine; decide, fun M0 nM => ?_⟩⟩⟩⟩⟩
    have s1 : Same H (upd H m1 (.lst ([1, 1, 1, 2].map V.int))) := same_new n1
    have s2 := s1.trans (same_new (o := .lst ([1, 2, 3].map V.int)) n2)
    have s3 := s2.trans (same_new (o := .lst ([1, 2, 3, 4, 20].map V.int)) n3)
    have s4 := s3.trans (same_new (o := .lst ([2, 1, 5].map V.int)) n4)
    have s5 := s4.trans (same_new (o := .lst [.ref m1, .ref m2, .ref m3, .ref m4]) nM)
    obtain ⟨x0, x1, x2, pa0⟩ := id hp
    have nea : ∀ q, H q = none → q ≠ a := fun q hq z => by rw [z, pa0] at hq; cases hq
    refine ⟨a, M0, _, rfl, hp.ext s5, upd_same, nea _ (s4.free nM), by show 1 ≤ 4; decide, by show 4 ≤ 1000; decide, fun H6 v k6 p6 hv => ?_⟩
    obtain ⟨M, cs, rfl, hM, hMa, hc1, hc2, pc⟩ : ∃ M cs, v = .ref M ∧ H6 M = some (.lst (cs.map V.int)) ∧ M ≠ a ∧ 1 ≤ cs.length ∧ cs.length ≤ 1000 ∧ Parts cs := by
      simp only [List.mem_cons, List.not_mem_nil, or_false] at hv
      rcases hv with rfl | rfl | rfl | rfl
      · exact ⟨m1, [1, 1, 1, 2], rfl, k6 _ _ (same_new nM _ _ (same_new n4 _ _ (same_new n3 _ _ (same_new n2 _ _ upd_same)))) (nea _ n1), nea _ n1, by decide, by decide, parts_by (by decide)⟩
      · exact ⟨m2, [1, 2, 3], rfl, k6 _ _ (same_new nM _ _ (same_new n4 _ _ (same_new n3 _ _ upd_same))) (nea _ (s1.free n2)), nea _ (s1.free n2), by decide, by decide, parts_by (by decide)⟩
      · exact ⟨m3, [1, 2, 3, 4, 20], rfl, k6 _ _ (same_new nM _ _ (same_new n4 _ _ upd_same)) (nea _ (s2.free n3)), nea _ (s2.free n3), by decide, by decide, parts_by (by decide)⟩
      · exact ⟨m4, [2, 1, 5], rfl, k6 _ _ (same_new nM _ _ upd_same) (nea _ (s3.free n4)), nea _ (s3.free n4), by decide, by decide, parts_by (by decide)⟩
    have k06 : KeepX a H H6 := (KeepX.of s5).trans k6
    clear hv k6 s1 s2 s3 s4 s5
    -- how many parts of the lead
    obtain ⟨y0, y1, y2, pa6⟩ := id p6
    refine ⟨_, rfl, by show 5 ≤ sizeLine; decide, fun R nR => ?_⟩
    have s7 : Same H6 (upd H6 R (.lst ([0, 0, 1, 2, 3].map V.int))) := same_new nR
    refine ⟨a, R, [0, 0, 1, 2, 3].map V.int, rfl, p6.ext s7, upd_same, (fun z => by rw [z, pa6] at nR; cases nR), by decide, by decide, fun H8 v k8 p8 hv => ?_⟩
    obtain ⟨j, hj, rfl⟩ := mem_ints hv
    have hj3 : 0 ≤ j ∧ j ≤ 3 := (show ∀ x, x ∈ ([0, 0, 1, 2, 3] : List Int) → 0 ≤ x ∧ x ≤ 3 by decide) j hj
    have hM8 := k8 _ _ (s7 _ _ hM) hMa
    have k08 := (k06.trans (KeepX.of s7)).trans k8
    refine ⟨j, rfl, by omega, by omega, fun D nD => lc_range (lo := 0) (n := j.toNat) (CompI H8 a M D cs) (comp_start p8 hM8 nD) (fun i H9 hi c => ?_) (fun H9 c => ?_)⟩
    · exact ⟨rfl, _, rfl, _, rfl, comp_turn nD hM8 p8 hMa hc1 hc2 pc (by omega) c E0⟩
    obtain ⟨k9, p9, hM9, la, hD9, hla, pla⟩ := c
    have k09 := k08.trans k9
    refine ⟨_, rfl, D, _, rfl, .inl ⟨SqL.of hD9, fun l nl => ?_⟩⟩
    have s10 : Same H9 (upd H9 l (.tup (la.map V.int))) := same_new nl
    have il : IT K (upd H9 l (.tup (la.map V.int))) l la := SqT.of upd_same
    have p10 := p9.ext s10
    have hM10 := s10 _ _ hM9
    have k010 := k09.trans (KeepX.of s10)
    generalize upd H9 l (.tup (la.map V.int)) = H10 at il p10 hM10 k010
    -- how many parts of the loop
    obtain ⟨z0, z1, z2, pa10⟩ := id p10
    refine ⟨_, rfl, by show 6 ≤ sizeLine; decide, fun R2 nR2 => ?_⟩
    have s11 : Same H10 (upd H10 R2 (.lst ([1, 1, 2, 2, 3, 4].map V.int))) := same_new nR2
    refine ⟨a, R2, [1, 1, 2, 2, 3, 4].map V.int, rfl, p10.ext s11, upd_same, (fun z => by rw [z, pa10] at nR2; cases nR2), by decide, by decide, fun H12 v k12 p12 hv => ?_⟩
    obtain ⟨j2, hj2, rfl⟩ := mem_ints hv
    have hj4 : 1 ≤ j2 ∧ j2 ≤ 4 := (show ∀ x, x ∈ ([1, 1, 2, 2, 3, 4] : List Int) → 1 ≤ x ∧ x ≤ 4 by decide) j2 hj2
    have hM12 := k12 _ _ (s11 _ _ hM10) hMa
    have k1012 := (KeepX.of (a := a) s11).trans k12
    have il12 := seqT_x p10 k1012 il
    refine ⟨j2, rfl, by omega, by omega, fun D2 nD2 => lc_range (lo := 0) (n := j2.toNat) (CompI H12 a M D2 cs) (comp_start p12 hM12 nD2) (fun i H13 hi c => ?_) (fun H13 c => ?_)⟩
    · exact ⟨rfl, _, rfl, _, rfl, comp_turn nD2 hM12 p12 hMa hc1 hc2 pc (by omega) c E0⟩
    obtain ⟨k13, p13, hM13, lb, hD13, hlb, plb⟩ := c
    refine ⟨D2, _, rfl, .inl ⟨SqL.of hD13, fun l2 nl2 => ?_⟩⟩
    have s14 : Same H13 (upd H13 l2 (.tup (lb.map V.int))) := same_new nl2
    refine ⟨by show 2 ≤ sizeLine; decide, fun p np => ?_⟩
    have s15 := s14.trans (same_new (o := .tup [.ref l, .ref l2]) np)
    refine k _ p la lb (((k010.trans k1012).trans k13).trans (KeepX.of s15)) (p13.ext s15) ⟨l, l2, SqT.of upd_same, SqT.ext (seqT_x p12 k13 il12) s15, SqT.ext (SqT.of upd_same) (same_new np)⟩ pla plb (by omega) (by omega) (by omega)
end Sw
set_option Elab.async false
set_option linter.all false
set_option maxRecDepth 100000
set_option maxHeartbeats 1000000
namespace Sw
open PySem PySem.Spec PyProof.Rows L2
variable {P : Program} {w : World} {K : PySem.W.Frag} {mg : Str → Option Value} {base : Heap}
/-! _law_near -/
structure NearR (s : Nat → Int) (wd : Int) (N : Nat) : Prop where
  n3 : 3 ≤ N
  n300 : N ≤ 300
  hi : wd < qk s (N - 1)
  lo : qk s N ≤ 9261 * wd
def spNear (K : PySem.W.Frag) : Sp := fun vs H Q _ => ∃ (p : Addr) (a b : List Int) (wd : Int), vs = [.ref p, .int wd] ∧ PairAt K H p a b ∧ b ≠ [] ∧ Parts a ∧ Parts b ∧ 1 ≤ wd ∧ wd ≤ 100 ∧ ∀ H' F N, Same H H' → NbAt K H' F (sq a b) 1 N → NearR (sq a b) wd N → Q (.ref F) H'
theorem sc_near : FnScope ["_law_pair_here", "_law_wide", "_law_found", "_law_k", "_law_part_here"] ["_law_pair_here", "_law_wide"] (defScope sLawNear) := ⟨rfl, rfl, rfl, by decide +kernel, rfl, by decide +kernel, by decide +kernel⟩
theorem cut_drop1 (xs : List V) : cutV xs (some 1) none = xs.drop 1 := by
  unfold cutV
  rw [show HT.sIx xs.length 0 (some 1) = min 1 xs.length from HT.sIx_nat xs.length 0 1, HT.sIx_none]
  cases xs with
  | nil => rfl
  | cons x r =>
    rw [show min 1 (x :: r).length = 1 by
      rw [List.length_cons]
      omega]
    show (List.take ((x :: r).length - 1) r) = r
    rw [List.length_cons, Nat.add_sub_cancel]
    exact List.take_length
/-- the list without its first neighbour, at a new place -/
theorem NbAt.drop1 {H : Hp} {F G : Addr} {s : Nat → Int} {N : Nat} (h : NbAt K H F s 0 (N + 1)) (nG : H G = none) : ∃ xs, H F = some (.lst xs) ∧ NbAt K (upd H G (.lst (cutV xs (some 1) none))) G s 1 N := by
  obtain ⟨rs, h1, h2, h3⟩ := h
  refine ⟨_, h1, rs.drop 1, by rw [upd_same, cut_drop1, List.map_drop], by rw [List.length_drop, h2]; rfl, fun i r hr => ?_⟩
  rw [List.getElem?_drop, Nat.add_comm] at hr
  exact SqT.ext (h3 (i + 1) r hr) (same_new nG)
/-- an item counted from the end -/
theorem NbAt.back {H : Hp} {F : Addr} {s : Nat → Int} {o N j : Nat} (h : NbAt K H F s o N) (hj : 1 ≤ j) (hN : j ≤ N) : ∃ xs r, H F = some (.lst xs) ∧ xs.length = N ∧ atI xs (-(j : Int)) = some (.ref r) ∧ SqT K H r [.int (pk s (N - j + o)), .int (qk s (N - j + o))] := by
  obtain ⟨xs, r, h1, h2, h3, h4⟩ := h.get (i := N - j) (by omega)
  exact ⟨xs, r, h1, h2, atI_neg hj (by rw [h2]; exact h3) (by omega), h4⟩
theorem d_near (T : Tx K mg) : Def P w K mg base 2 "_law_near" ["_law_pair_here", "_law_wide"] (spNear K) := by
  refine mkDef T 1 34 rfl T.g_law_near sc_near (fun _ _ _ _ _ _ us hl => match us, hl with | [_, _], _ => rfl) (fun vs H Q E h => ?_) (fun cdv A outer s H vs Q E hr h => ?_)
  · obtain ⟨p, a, b, wd, rfl, _⟩ := h
    rfl
  · obtain ⟨p, a, b, wd, rfl, h1, hne, pa, pb, hw1, hw2, q⟩ := h
    have nd := sc_near.nd
    have sp := sq_pos pa pb
    refine ⟨_, pss_cons (ps_par (i := 2) (j := 3) (by rfl) nd rfl rfl (by decide) rfl rfl (pa_cons (pe_lst (pa_cons (pe_tup (pa_cons pe_int (pa_cons pe_int pa_nil))) (pa_cons (pe_tup (pa_cons pe_int (pa_cons pe_int pa_nil))) pa_nil))) (pa_cons pe_int pa_nil)) (by rfl))
      (pss_cons (ps_while PassesOwn.never (PW.pt (pw_or (pt_cmpR op_le (pe_ix ix_tup (pe_ix ix_list (pv 2) (pe_un un_neg pe_int) (fun _ _ => rfl)) pe_int (fun _ _ => rfl)) (pv 1) (nomark _)) (pw_or1 (pt_cmpR op_lt (pe_callB call_len_seq (by rfl) T.f_len PySem.boot_len (pa_cons (pv 2) pa_nil)) pe_int (nomark _)))))
        (pss_cons (ps_set (i := 3) nd rfl (.inl rfl) (pe_op op_add (pv 3) pe_int))
        (pss_cons (ps_set (i := 4) nd rfl (.inl rfl) (pe_cal (d_at T) hr (by rfl) (pa_cons (pv 0) (pa_cons (pv 3) pa_nil))))
        (pss_one (ps_expr (pe_bm PySem.F.plainAttrs_list PySem.F.slot_list_append PySem.F.type_list_append mt_append (pv 2) (pa_cons (pe_tup
          (pa_cons (pe_op op_add (pe_op op_mul (pv 4) (pe_ix ix_tup (pe_ix ix_list (pv 2) (pe_un un_neg pe_int) (fun _ _ => rfl)) pe_int (fun _ _ => rfl))) (pe_ix ix_tup (pe_ix ix_list (pv 2) (pe_un un_neg pe_int) (fun _ _ => rfl)) pe_int (fun _ _ => rfl)))
          (pa_cons (pe_op op_add (pe_op op_mul (pv 4) (pe_ix ix_tup (pe_ix ix_list (pv 2) (pe_un un_neg pe_int) (fun _ _ => rfl)) pe_int (fun _ _ => rfl))) (pe_ix ix_tup (pe_ix ix_list (pv 2) (pe_un un_neg pe_int) (fun _ _ => rfl)) pe_int (fun _ _ => rfl))) pa_nil))) pa_nil)))))))
      (pss_one (ps_ret (pe_slice sl_list (pv 2) (po_some pe_int) po_none)))), ?_⟩
    refine ⟨by show 2 ≤ sizeLine; decide, fun t0 n0 => ⟨by show 2 ≤ sizeLine; decide, fun t1 n1 => ⟨by show 2 ≤ sizeLine; decide, fun F nF => ?_⟩⟩⟩
    have s0 : Same H (upd H t0 (.tup [.int 1, .int 0])) := same_new n0
    have s1 := s0.trans (same_new (o := .tup [.int 0, .int 1]) n1)
    have s2 := s1.trans (same_new (o := .lst [.ref t0, .ref t1]) nF)
    have nF0 : H F = none := s1.free nF
    refine ⟨_, _, rfl, ?_⟩
    refine ⟨fun μ σ H' => ∃ (m : Nat) (x4 : Option V), σ = [some (.ref p), some (.int wd), some (.ref F), some (.int m), x4] ∧ Same H H' ∧ NbAt K H' F (sq a b) 0 (m + 2) ∧ (m ≤ 2 ∨ qk (sq a b) (m - 1) ≤ wd) ∧ μ = 400 - m,
      ⟨400, 0, none, rfl, s2, ?_, .inl (by decide), rfl⟩, ?_⟩
    · refine ⟨[t0, t1], upd_same, rfl, fun i r hr => ?_⟩
      have hi := (List.getElem?_eq_some_iff.mp hr).1
      have hi : i < 2 := hi
      have : i = 0 ∨ i = 1 := by omega
      rcases this with rfl | rfl
      · have er : t0 = r := Option.some.inj hr
        rw [← er]
        exact SqT.ext (SqT.ext (SqT.of upd_same) (same_new n1)) (same_new nF)
      · have er : t1 = r := Option.some.inj hr
        rw [← er]
        exact SqT.ext (SqT.of upd_same) (same_new nF)
    · rintro μ σ H1 ⟨m, x4, rfl, s3, nb, hm, rfl⟩
      have small : m ≤ 202 := by
        rcases hm with z | z
        · omega
        · have := qk_small sp (n := m - 1) (Int.le_trans z (by show wd ≤ 1000000000000000000000000000000; omega))
          omega
      obtain ⟨xs, r2, hF, hl, ha2, hT2⟩ := nb.back (j := 2) (by decide) (by omega)
      obtain ⟨_, r1, hF1, _, ha1, hT1⟩ := nb.back (j := 1) (by decide) (by omega)
      cases (Option.some.inj (hF1.symm.trans hF))
      rw [show m + 2 - 2 + 0 = m by omega] at hT2
      rw [show m + 2 - 1 + 0 = m + 1 by omega] at hT1
      refine ⟨_, rfl, 2, rfl, F, _, _, _, rfl, rfl, SqL.of hF, ha2, r2, _, _, _, rfl, rfl, hT2, atI_nat (j := 1) rfl, _, rfl, _, _, rfl, rfl, _, rfl, ?_⟩
      have sb := sq_parts pa pb m
      by_cases c : qk (sq a b) m ≤ wd
      · refine iteTk (decide_eq_true c) ?_
        refine iteT ?_
        have hc : m + 1 ≤ 2 ∨ qk (sq a b) (m + 1 - 1) ≤ wd := .inr c
        refine ⟨fun σ' H' => ∃ x4, σ' = [some (.ref p), some (.int wd), some (.ref F), some (.int ((m + 1 : Nat) : Int)), x4] ∧ Same H H' ∧ NbAt K H' F (sq a b) 0 (m + 3), fun σ' H' ⟨x4, e1, e2, e3⟩ => ⟨400 - (m + 1), by omega, m + 1, x4, e1, e2, e3, hc, rfl⟩, ?_⟩
        refine ⟨_, rfl, _, _, rfl, rfl, ?_⟩
        refine ⟨_, rfl, _, rfl, p, a, b, m, rfl, h1.ext s3, hne, ?_⟩
        refine ⟨_, rfl, .inl ⟨rfl, _, SqL.of hF⟩, ?_⟩
        refine ⟨_, rfl, _, rfl, 1, rfl, F, _, _, _, rfl, rfl, SqL.of hF, ha1, r1, _, _, _, rfl, rfl, hT1, atI_nat (j := 0) rfl, _, _, rfl, rfl, .inl ⟨by omega, by omega⟩, _, rfl, 2, rfl, F, _, _, _, rfl, rfl, SqL.of hF, ha2, r2, _, _, _, rfl, rfl, hT2, atI_nat (j := 0) rfl, _, _, rfl, rfl, ?_⟩
        refine ⟨_, rfl, _, rfl, 1, rfl, F, _, _, _, rfl, rfl, SqL.of hF, ha1, r1, _, _, _, rfl, rfl, hT1, atI_nat (j := 1) rfl, _, _, rfl, rfl, .inl ⟨by omega, by omega⟩, _, rfl, 2, rfl, F, _, _, _, rfl, rfl, SqL.of hF, ha2, r2, _, _, _, rfl, rfl, hT2, atI_nat (j := 1) rfl, _, _, rfl, rfl, ?_⟩
        refine ⟨by show 2 ≤ sizeLine; decide, fun t3 n3 => ?_⟩
        obtain ⟨ys, hG, hyl, nb5⟩ := nb.more n3 _ rfl
        refine ⟨F, ys, _, rfl, rfl, hG, by rw [hyl]; exact small1000 (by omega), ?_⟩
        exact ⟨_, rfl, same_lst nF0 (s3.trans (same_new n3)), nb5⟩
      · refine iteFk (decide_eq_false c) ?_
        refine ⟨_, rfl, F, _, rfl, .inl (SqL.of hF), _, _, rfl, rfl, _, rfl, ?_⟩
        rw [hl]
        by_cases c2 : m < 2
        · refine iteTk (decide_eq_true (by omega)) ?_
          have hc : m + 1 ≤ 2 ∨ qk (sq a b) (m + 1 - 1) ≤ wd := .inl (by omega)
          refine ⟨fun σ' H' => ∃ x4, σ' = [some (.ref p), some (.int wd), some (.ref F), some (.int ((m + 1 : Nat) : Int)), x4] ∧ Same H H' ∧ NbAt K H' F (sq a b) 0 (m + 3), fun σ' H' ⟨x4, e1, e2, e3⟩ => ⟨400 - (m + 1), by omega, m + 1, x4, e1, e2, e3, hc, rfl⟩, ?_⟩
          refine ⟨_, rfl, _, _, rfl, rfl, ?_⟩
          refine ⟨_, rfl, _, rfl, p, a, b, m, rfl, h1.ext s3, hne, ?_⟩
          refine ⟨_, rfl, .inl ⟨rfl, _, SqL.of hF⟩, ?_⟩
          refine ⟨_, rfl, _, rfl, 1, rfl, F, _, _, _, rfl, rfl, SqL.of hF, ha1, r1, _, _, _, rfl, rfl, hT1, atI_nat (j := 0) rfl, _, _, rfl, rfl, .inl ⟨by omega, by omega⟩, _, rfl, 2, rfl, F, _, _, _, rfl, rfl, SqL.of hF, ha2, r2, _, _, _, rfl, rfl, hT2, atI_nat (j := 0) rfl, _, _, rfl, rfl, ?_⟩
          refine ⟨_, rfl, _, rfl, 1, rfl, F, _, _, _, rfl, rfl, SqL.of hF, ha1, r1, _, _, _, rfl, rfl, hT1, atI_nat (j := 1) rfl, _, _, rfl, rfl, .inl ⟨by omega, by omega⟩, _, rfl, 2, rfl, F, _, _, _, rfl, rfl, SqL.of hF, ha2, r2, _, _, _, rfl, rfl, hT2, atI_nat (j := 1) rfl, _, _, rfl, rfl, ?_⟩
          refine ⟨by show 2 ≤ sizeLine; decide, fun t3 n3 => ?_⟩
          obtain ⟨ys, hG, hyl, nb5⟩ := nb.more n3 _ rfl
          refine ⟨F, ys, _, rfl, rfl, hG, by rw [hyl]; exact small1000 (by omega), ?_⟩
          exact ⟨_, rfl, same_lst nF0 (s3.trans (same_new n3)), nb5⟩
        · refine iteFk (decide_eq_false (by omega)) ?_
          refine ⟨_, rfl, 1, rfl, ?_⟩
          have lo : qk (sq a b) (m - 2 + 1) ≤ wd := by
            rcases hm with z | z
            · have : m = 2 := by omega
              subst this
              exact hw1
            · rw [show m - 2 + 1 = m - 1 by omega]
              exact z
          have b3 := qk_three sp (fun k => (sq_parts pa pb k).2) lo hw1
          have mo := qk_mono sp m
          rw [show m - 2 + 4 = m + 2 by omega] at b3
          refine ⟨F, xs, rfl, SqL.of hF, fun G nG => ?_⟩
          obtain ⟨ys, hF2, nb6⟩ := NbAt.drop1 (N := m + 1) nb nG
          cases (Option.some.inj (hF2.symm.trans hF))
          refine q _ G (m + 1) (s3.trans (same_new nG)) nb6 ⟨by omega, by omega, ?_, ?_⟩
          · rw [show m + 1 - 1 = m by omega]
            omega
          · omega
end Sw
set_option Elab.async false
set_option linter.all false
set_option maxRecDepth 100000
set_option maxHeartbeats 1000000
namespace Sw
open PySem PySem.Spec PyProof.Rows L2
variable {P : Program} {w : World} {K : PySem.W.Frag} {mg : Str → Option Value} {base : Heap}
/-! _law_whole -/
theorem near_fl {s : Nat → Int} (h : PosQ s) {v : Int} {N : Nat} (hN : 3 ≤ N) (hv : 1 ≤ v) (hq : v < qk s (N - 1)) :
    IsFl s v (min (v * pk s (N - 1) * qk s N) (v * pk s N * qk s (N - 1)) / (qk s (N - 1) * qk s N)) := by
  obtain ⟨k, rfl⟩ : ∃ k, N = k + 1 := ⟨N - 1, by omega⟩
  rw [show k + 1 - 1 = k by omega] at *
  have q1 := q_pos h k
  have q0 : 0 < qk s k := by
    have := q_pos h (k - 1)
    rw [show k - 1 + 1 = k by omega] at this
    exact this
  by_cases c : k % 2 = 1
  · obtain ⟨j, rfl⟩ : ∃ j, k = 2 * j + 1 := ⟨k / 2, by omega⟩
    have e12 : 2 * j + 1 + 1 = 2 * j + 2 := rfl
    rw [e12] at *
    have d := (det_even s j).2
    have le : v * pk s (2 * j + 1) * qk s (2 * j + 2) ≤ v * pk s (2 * j + 2) * qk s (2 * j + 1) := by
      have : v * pk s (2 * j + 2) * qk s (2 * j + 1) - v * pk s (2 * j + 1) * qk s (2 * j + 2) = v := by grind
      omega
    rw [Int.min_eq_left le, Int.mul_ediv_mul_of_pos_left _ _ q1]
    exact fl_below h j hv hq
  · obtain ⟨j, rfl⟩ : ∃ j, k = 2 * j + 2 := ⟨k / 2 - 1, by omega⟩
    have d := (det_even s (j + 1)).1
    have e2 : 2 * (j + 1) = 2 * j + 2 := rfl
    rw [e2] at d
    have le : v * pk s (2 * j + 2 + 1) * qk s (2 * j + 2) ≤ v * pk s (2 * j + 2) * qk s (2 * j + 2 + 1) := by
      have : v * pk s (2 * j + 2) * qk s (2 * j + 2 + 1) - v * pk s (2 * j + 2 + 1) * qk s (2 * j + 2) = v := by grind
      omega
    rw [Int.min_eq_right le, Int.mul_comm (qk s (2 * j + 2)), Int.mul_ediv_mul_of_pos_left _ _ q0]
    have m := qk_mono h (2 * j + 1)
    have f := fl_below h (j + 1) hv (show v < qk s (2 * (j + 1) + 1) by
      have e : qk s (2 * (j + 1) + 1) = qk s (2 * j + 1 + 2) := rfl
      have e' : qk s (2 * j + 1 + 1) = qk s (2 * j + 2) := rfl
      omega)
    exact f
theorem sorted2 {x y : Int} {ns : List Int} (h : ns.Perm [x, y]) (r : ns.Pairwise (· ≤ ·)) : ∃ z, ns = [min x y, z] := by
  have hl := h.length_eq
  match ns, hl with
  | [a, b], _ =>
    have ab : a ≤ b := by
      cases r with
      | cons h1 h2 => exact h1 b (by simp)
    have ha : a = x ∨ a = y := by simpa using h.mem_iff.mp (show a ∈ [a, b] by simp)
    have hx : x = a ∨ x = b := by simpa using h.mem_iff.mpr (show x ∈ [x, y] by simp)
    have hy : y = a ∨ y = b := by simpa using h.mem_iff.mpr (show y ∈ [x, y] by simp)
    refine ⟨b, ?_⟩
    have : a = min x y := by omega
    rw [this]
theorem cut_last2 (xs : List V) (h : 2 ≤ xs.length) : cutV xs (some (-2)) none = xs.drop (xs.length - 2) := by
  have e : HT.sIx xs.length 0 (some (-2)) = xs.length - 2 := by
    show (if (-2 : Int) < 0 then ((-2 : Int) + (xs.length : Int)).toNat else min (-2 : Int).toNat xs.length) = xs.length - 2
    rw [if_pos (by decide)]
    omega
  unfold cutV
  rw [HT.sIx_none, e]
  exact List.take_of_length_le (by rw [List.length_drop]; exact Nat.le_refl _)
theorem NbAt.last2 {H : Hp} {F G : Addr} {s : Nat → Int} {N : Nat} (h : NbAt K H F s 1 N) (hN : 3 ≤ N) (nG : H G = none) : ∃ xs, H F = some (.lst xs) ∧ NbAt K (upd H G (.lst (cutV xs (some (-2)) none))) G s (N - 1) 2 := by
  obtain ⟨rs, h1, h2, h3⟩ := h
  refine ⟨_, h1, rs.drop (N - 2), ?_, by rw [List.length_drop, h2]; omega, fun i r hr => ?_⟩
  · rw [upd_same, cut_last2 _ (by rw [List.length_map, h2]; omega), List.length_map, h2, List.map_drop]
  · rw [List.getElem?_drop] at hr
    have e : N - 2 + i + 1 = i + (N - 1) := by omega
    have := h3 (N - 2 + i) r hr
    rw [e] at this
    exact SqT.ext this (same_new nG)
def spWhole (K : PySem.W.Frag) : Sp := fun vs H Q _ => ∃ (p : Addr) (a b : List Int) (u v : Int), vs = [.ref p, .int u, .int v] ∧ PairAt K H p a b ∧ b ≠ [] ∧ Parts a ∧ Parts b ∧ 1 ≤ v ∧ v ≤ 100 ∧ ∀ H' W, Same H H' → IsFl (sq a b) v W → Q (.int (u + W)) H'
theorem sc_whole : FnScope ["_law_pair_here", "_law_u", "_law_v", "_law_last", "_law_tops"] ["_law_pair_here", "_law_u", "_law_v"] (defScope sLawWhole) := ⟨rfl, rfl, rfl, by decide +kernel, rfl, by decide +kernel, by decide +kernel⟩
theorem d_whole (T : Tx K mg) : Def P w K mg base 3 "_law_whole" ["_law_pair_here", "_law_u", "_law_v"] (spWhole K) := by
  refine mkDef T 2 35 rfl T.g_law_whole sc_whole (fun _ _ _ _ _ _ us hl => match us, hl with | [_, _, _], _ => rfl) (fun vs H Q E h => ?_) (fun cdv A outer s H vs Q E hr h => ?_)
  · obtain ⟨p, a, b, u, v, rfl, _⟩ := h
    rfl
  · obtain ⟨p, a, b, u, v, rfl, h1, hne, pa, pb, hv1, hv2, q⟩ := h
    have nd := sc_whole.nd
    have sp := sq_pos pa pb
    refine ⟨_, pss_cons (ps_if (pt_cmpR op_eq (pv 2) pe_int (nomark _)) pss_never pss_nil)
      (pss_cons (ps_if (pt_cmpR op_lt (pv 2) pe_int (nomark _)) pss_never pss_nil)
      (pss_cons (ps_set (i := 3) nd rfl (.inl rfl) (pe_slice sl_list (pe_cal (d_near T) hr (by rfl) (pa_cons (pv 0) (pa_cons (pv 2) pa_nil))) (po_some (pe_un un_neg pe_int)) po_none))
      (pss_cons (ps_set (i := 4) nd rfl (.inl rfl) (pe_callB cr_sorted (by rfl) T.f_sorted boot_sorted (pa_cons (pe_lst
          (pa_cons (pe_op op_mul (pe_op op_mul (pv 2) (pe_ix ix_tup (pe_ix ix_list (pv 3) pe_int (fun _ _ => rfl)) pe_int (fun _ _ => rfl))) (pe_ix ix_tup (pe_ix ix_list (pv 3) pe_int (fun _ _ => rfl)) pe_int (fun _ _ => rfl)))
          (pa_cons (pe_op op_mul (pe_op op_mul (pv 2) (pe_ix ix_tup (pe_ix ix_list (pv 3) pe_int (fun _ _ => rfl)) pe_int (fun _ _ => rfl))) (pe_ix ix_tup (pe_ix ix_list (pv 3) pe_int (fun _ _ => rfl)) pe_int (fun _ _ => rfl))) pa_nil))) pa_nil)))
      (pss_one (ps_ret (pe_op op_add (pv 1) (pe_op op_fdivW (pe_ix ix_list (pv 4) pe_int (fun _ _ => rfl)) (pe_op op_mul (pe_ix ix_tup (pe_ix ix_list (pv 3) pe_int (fun _ _ => rfl)) pe_int (fun _ _ => rfl)) (pe_ix ix_tup (pe_ix ix_list (pv 3) pe_int (fun _ _ => rfl)) pe_int (fun _ _ => rfl)))))))))), ?_⟩
    refine ⟨_, rfl, rfl, _, rfl, ?_⟩
    refine iteFk (vne (by omega)) ?_
    refine ⟨_, rfl, _, _, rfl, rfl, _, rfl, ?_⟩
    refine iteFk (decide_eq_false (by omega)) ?_
    refine ⟨_, rfl, _, rfl, p, a, b, v, rfl, h1, hne, pa, pb, hv1, hv2, fun H1 F N s1 nb nr => ?_⟩
    obtain ⟨n3, n300, hq, lo⟩ := nr
    refine ⟨2, rfl, -2, rfl, ?_⟩
    obtain ⟨rs, hF, _⟩ := id nb
    refine ⟨F, _, rfl, SqL.of hF, fun G nG => ?_⟩
    obtain ⟨xs, hF2, nb2⟩ := nb.last2 n3 nG
    cases (Option.some.inj (hF2.symm.trans hF))
    have s2 := s1.trans (same_new (o := .lst (cutV (rs.map V.ref) (some (-2)) none)) nG)
    generalize upd H1 G (.lst (cutV (rs.map V.ref) (some (-2)) none)) = H2 at nb2 s2
    obtain ⟨ys, r0, hG, _, hy0, hT0⟩ := nb2.get (i := 0) (by decide)
    obtain ⟨_, r1, hG1, _, hy1, hT1⟩ := nb2.get (i := 1) (by decide)
    cases (Option.some.inj (hG1.symm.trans hG))
    rw [show 0 + (N - 1) = N - 1 by omega] at hT0
    rw [show 1 + (N - 1) = N by omega] at hT1
    -- bounds
    have mo : qk (sq a b) (N - 1) ≤ qk (sq a b) N := by
      have := qk_mono sp (N - 2)
      rw [show N - 2 + 1 = N - 1 by omega, show N - 2 + 2 = N by omega] at this
      exact this
    have g0 := (pk_le_qk sp (N - 2)).1
    have g1 := (pk_le_qk sp (N - 2)).2
    rw [show N - 2 + 1 = N - 1 by omega] at g0
    rw [show N - 2 + 2 = N by omega] at g1
    have p0 := (pk_nonneg sp (N - 1)).1
    have p1 := (pk_nonneg sp N).1
    have m0 : v * pk (sq a b) (N - 1) ≤ 100 * 926100 := Int.mul_le_mul hv2 (by omega) p0 (by decide)
    have m1 : v * pk (sq a b) N ≤ 100 * 926100 := Int.mul_le_mul hv2 (by omega) p1 (by decide)
    have z0 : 0 ≤ v * pk (sq a b) (N - 1) := Int.mul_nonneg (by omega) p0
    have z1 : 0 ≤ v * pk (sq a b) N := Int.mul_nonneg (by omega) p1
    refine ⟨_, rfl, _, rfl, G, _, _, _, rfl, rfl, SqL.of hG, atI_nat hy0, r0, _, _, _, rfl, rfl, hT0, atI_nat (j := 0) rfl, _, _, rfl, rfl, .inl ⟨by omega, by omega⟩, _, rfl, G, _, _, _, rfl, rfl, SqL.of hG, atI_nat hy1, r1, _, _, _, rfl, rfl, hT1, atI_nat (j := 1) rfl, _, _, rfl, rfl, .inl ⟨by omega, by omega⟩, ?_⟩
    refine ⟨_, rfl, _, rfl, G, _, _, _, rfl, rfl, SqL.of hG, atI_nat hy1, r1, _, _, _, rfl, rfl, hT1, atI_nat (j := 0) rfl, _, _, rfl, rfl, .inl ⟨by omega, by omega⟩, _, rfl, G, _, _, _, rfl, rfl, SqL.of hG, atI_nat hy0, r0, _, _, _, rfl, rfl, hT0, atI_nat (j := 1) rfl, _, _, rfl, rfl, .inl ⟨by omega, by omega⟩, ?_⟩
    refine ⟨by show 2 ≤ sizeLine; decide, fun L nL => ?_⟩
    refine ⟨L, [v * pk (sq a b) (N - 1) * qk (sq a b) N, v * pk (sq a b) N * qk (sq a b) (N - 1)], rfl, SqL.of upd_same, by show 2 < 64; decide, fun ns' S pm rs' nS => ?_⟩
    obtain ⟨z, rfl⟩ := sorted2 pm rs'
    have s4 : Same H2 (upd H2 L (.lst [.int (v * pk (sq a b) (N - 1) * qk (sq a b) N), .int (v * pk (sq a b) N * qk (sq a b) (N - 1))])) := same_new nL
    have s5 := s4.trans (same_new (o := .lst ([min (v * pk (sq a b) (N - 1) * qk (sq a b) N) (v * pk (sq a b) N * qk (sq a b) (N - 1)), z].map V.int)) nS)
    have qq0 : 0 < qk (sq a b) (N - 1) := by omega
    have qq1 : 0 < qk (sq a b) N := by omega
    have qp : 0 < qk (sq a b) (N - 1) * qk (sq a b) N := Int.mul_pos qq0 qq1
    have qb : qk (sq a b) (N - 1) * qk (sq a b) N ≤ 926100 * 926100 := Int.mul_le_mul (by omega) (by omega) (by omega) (by decide)
    refine ⟨_, rfl, _, rfl, S, _, _, _, rfl, rfl, SqL.of upd_same, atI_nat (j := 0) rfl, _, rfl, G, _, _, _, rfl, rfl, SqL.of (s5 _ _ hG), atI_nat hy0, r0, _, _, _, rfl, rfl, SqT.ext hT0 s5, atI_nat (j := 1) rfl, _, rfl, G, _, _, _, rfl, rfl, SqL.of (s5 _ _ hG), atI_nat hy1, r1, _, _, _, rfl, rfl, SqT.ext hT1 s5, atI_nat (j := 1) rfl, _, _, rfl, rfl, .inl ⟨by omega, by omega⟩, _, _, rfl, rfl, ?_, _, _, rfl, rfl, ?_⟩
    · exact wide_div qp (b := 64) (by show (qk (sq a b) (N - 1) * qk (sq a b) N).natAbs < 2 ^ 64; omega) (by decide) (by decide)
    · exact q _ _ (s2.trans s5) (near_fl sp n3 hv1 hq)
end Sw
set_option Elab.async false
set_option linter.all false
set_option maxRecDepth 100000
set_option maxHeartbeats 1000000
namespace Sw
open PySem PySem.Spec PyProof.Rows L2
variable {P : Program} {w : World} {K : PySem.W.Frag} {mg : Str → Option Value} {base : Heap}
/-! _law_beside -/
def spBeside (K : PySem.W.Frag) : Sp := fun vs H Q _ => ∃ (a p : Addr) (la lb : List Int), vs = [.ref a, .ref p] ∧ PailAt H a ∧ PairAt K H p la lb ∧ lb ≠ [] ∧ Parts la ∧ Parts lb ∧
  ∀ H' q la' lb', KeepX a H H' → PailAt H' a → PairAt K H' q la' lb' → Parts la' → Parts lb' → la'.length ≤ 6 → 1 ≤ lb'.length → lb'.length ≤ 4 → Q (.ref q) H'
theorem sc_beside : FnScope ["_law_pail_here", "_law_pair_here", "_law_k", "_law_mate", "_law_j"] ["_law_pail_here", "_law_pair_here"] (defScope sLawBeside) := ⟨rfl, rfl, rfl, by decide +kernel, rfl, by decide +kernel, by decide +kernel⟩
theorem d_beside (T : Tx K mg) : Def P w K mg base 4 "_law_beside" ["_law_pail_here", "_law_pair_here"] (spBeside K) := by
  refine mkDef T 3 36 rfl T.g_law_beside sc_beside (fun _ _ _ _ _ _ us hl => match us, hl with | [_, _], _ => rfl) (fun vs H Q E h => ?_) (fun cdv A outer s H vs Q E hr h => ?_)
  · obtain ⟨a, p, la, lb, rfl, _⟩ := h
    rfl
  · obtain ⟨a, p, la, lb, rfl, hp, h1, hne, pa, pb, k⟩ := h
    have nd := sc_beside.nd
    have hr1 : Room 1 _ := hr.mono (by decide)
    refine ⟨_, pss_cons (ps_par (i := 2) (j := 3) (by rfl) nd rfl rfl (by decide) rfl rfl (pa_cons (pe_cal (d_pull T) hr1 (by rfl) (pa_cons (pv 0) (pa_cons pe_int pa_nil))) (pa_cons (pe_cal (d_pair T) hr (by rfl) (pa_cons (pv 0) pa_nil)) pa_nil)) (by rfl))
      (pss_one (ps_ret (pe_tup (pa_cons (pe_callTy call_tuple_of (by rfl) T.f_tuple boot_tuple (pa_cons
          (pe_lc (own := [("_law_j", 4)]) (g := gName 4) rfl nd (pi_range2 (by rfl) T.f_range (pa_cons pe_int (pa_cons (pe_op op_add (pv 2) pe_int) pa_nil)))
          (blkOk_by (own := [("_law_j", 4)]) (N := ["_law_pail_here", "_law_pair_here", "_law_k", "_law_mate", "_law_j"]) (sc := defScope sLawBeside) (by decide +kernel)) (fun _ _ _ _ _ => pg_name (i := 4) nd rfl (Or.inl rfl)) (fun _ _ _ _ _ => pts_nil)
          (fun _ _ _ _ _ => pe_cal (d_at T) hr1 (by rfl) (pa_cons (pv 1) (pa_cons (pv 4) pa_nil)))) pa_nil))
        (pa_cons (pe_ix ix_tup (pv 3) pe_int (fun _ _ => rfl)) pa_nil))))), ?_⟩
    refine ⟨_, rfl, a, 7, rfl, hp, by decide, by decide, fun H1 r k1 p1 r0 r1 => ?_⟩
    refine ⟨_, rfl, a, rfl, p1, fun H2 m ma mb k2 p2 hm pma pmb lma lmb1 lmb4 => ?_⟩
    have k02 := k1.trans k2
    have h2 := pair_x hp k02 h1
    refine ⟨_, _, rfl, ?_⟩
    refine ⟨_, rfl, _, _, rfl, rfl, 1, r + 1, rfl, ⟨by decide, by decide, by omega, by omega⟩, fun D nD => lc_range (lo := 1) (n := (r + 1 - 1).toNat) (fun i H' => Same H2 H' ∧ ∃ acc : List Int, H' D = some (.lst (acc.map V.int)) ∧ acc.length = i ∧ Parts acc)
      ⟨same_new nD, [], upd_same, rfl, fun x hx => by cases hx⟩ (fun i H3 hi c => ?_) (fun H3 c => ?_)⟩
    · obtain ⟨s3, acc, hD, hl, pc⟩ := c
      refine ⟨rfl, _, rfl, _, rfl, p, la, lb, i, ?_, h2.ext s3, hne, _, hD, by rw [List.length_map]; exact small1000 (by omega), same_lst nD s3, acc ++ [sq la lb i], ?_, by rw [List.length_append, hl]; rfl, parts_snoc pc (sq_parts pa pb i)⟩
      · show [V.ref p, V.int (1 + (i : Int))] = _
        rw [Int.add_comm]
      · rw [upd_same, List.map_append]
        rfl
    · obtain ⟨s3, acc, hD, hl, pc⟩ := c
      refine ⟨D, _, rfl, .inl ⟨SqL.of hD, fun l nl => ?_⟩⟩
      have s4 := s3.trans (same_new (o := .tup (acc.map V.int)) nl)
      obtain ⟨ml, mr, q1, q2, q3⟩ := hm
      refine ⟨_, rfl, m, _, _, _, rfl, rfl, SqT.ext q1 s4, atI_nat (j := 1) rfl, by show 2 ≤ sizeLine; decide, fun t nt => ?_⟩
      have s5 := s4.trans (same_new (o := .tup [.ref l, .ref mr]) nt)
      refine k _ t acc mb (k02.trans (KeepX.of s5)) (p2.ext s5) ⟨l, mr, SqT.of upd_same, SqT.ext (SqT.of upd_same) (same_new nt), SqT.ext q3 s5⟩ pc pmb (by omega) lmb1 lmb4
/-! _law_least -/
def spLeast (K : PySem.W.Frag) : Sp := fun vs H Q _ => ∃ (p q : Addr) (a b a' b' : List Int), vs = [.ref p, .ref q] ∧ SlopeAt K H p a b ∧ SlopeAt K H q a' b' ∧ Good a b ∧ Good a' b' ∧ ((a = a' ∧ b = b') → Q (.int 0) H) ∧
  (¬ (a = a' ∧ b = b') → ∀ H' x y, Same H H' → BtwE a b a' b' x y → Q (.int y) H')
theorem sc_least : FnScope ["_law_near_here", "_law_far", "_law_found"] ["_law_near_here", "_law_far"] (defScope sLawLeast) := ⟨rfl, rfl, rfl, by decide +kernel, rfl, by decide +kernel, by decide +kernel⟩
theorem d_least (T : Tx K mg) : Def P w K mg base 5 "_law_least" ["_law_near_here", "_law_far"] (spLeast K) := by
  refine mkDef T 4 38 rfl T.g_law_least sc_least (fun _ _ _ _ _ _ us hl => match us, hl with | [_, _], _ => rfl) (fun vs H Q E h => ?_) (fun cdv A outer s H vs Q E hr h => ?_)
  · obtain ⟨p, q, a, b, a', b', rfl, _⟩ := h
    rfl
  · obtain ⟨p, q, a, b, a', b', rfl, h1, h2, g, g', k1, k2⟩ := h
    refine ⟨_, pss_cons (ps_set (i := 2) sc_least.nd rfl (.inl rfl) (pe_cal (d_lb T) hr (by rfl) (pa_cons (pv 0) (pa_cons (pv 1) pa_nil))))
      (pss_one (ps_ret (pe_ifExp (pt_cmpR op_isN (pv 2) pe_non (nomark _)) pe_int (pe_ix ix_tup (pv 2) pe_int (fun _ _ => rfl))))), ?_⟩
    refine ⟨_, rfl, _, rfl, p, q, a, b, a', b', rfl, h1, h2, g, g', fun c => ?_, fun c H1 t x y s1 ht bt => ?_⟩
    · exact ⟨_, rfl, rfl, _, rfl, iteTk rfl (k1 c)⟩
    · exact ⟨_, rfl, rfl, _, rfl, iteFk (decide_eq_false fun z => nomatch z) ⟨_, rfl, t, _, _, _, rfl, rfl, ht, atI_nat (j := 1) rfl, k2 c _ _ _ s1 bt⟩⟩
/-! _law_pail -/
def spPail (K : PySem.W.Frag) : Sp := fun vs H Q _ => ∃ (c : Addr) (ns : List Int) (i : Nat), vs = [.ref c, .int i] ∧ SqL K H c (ns.map V.int) ∧ ∀ H' a, Same H H' → PailAt H' a → H a = none → Q (.ref a) H'
theorem sc_pail : FnScope ["_law_cells", "_law_k", "_law_cell", "_law_mixed", "_law_each", "_law_digits"] ["_law_cells", "_law_k"] (defScope sLawPail) := ⟨rfl, rfl, rfl, by decide +kernel, rfl, by decide +kernel, by decide +kernel⟩
theorem cut6 (ns : List Int) : cutV (ns.map V.int) none (some 6) = (ns.take (HT.sIx (ns.map V.int).length (ns.map V.int).length (some 6) - HT.sIx (ns.map V.int).length 0 none)).map V.int := by
  unfold cutV
  rw [HT.sIx_none, List.drop_zero, List.map_take]
theorem d_pail (T : Tx K mg) : Def P w K mg base 1 "_law_pail" ["_law_cells", "_law_k"] (spPail K) := by
  refine mkDef T 0 29 rfl T.g_law_pail sc_pail (fun _ _ _ _ _ _ us hl => match us, hl with | [_, _], _ => rfl) (fun vs H Q E h => ?_) (fun cdv A outer s H vs Q E hr h => ?_)
  · obtain ⟨c, ns, i, rfl, _⟩ := h
    rfl
  · obtain ⟨c, ns, i, rfl, hS, k⟩ := h
    have nd := sc_pail.nd
    refine ⟨_, pss_cons (ps_par (i := 2) (j := 3) (by rfl) nd rfl rfl (by decide) rfl rfl
          (pa_cons (pe_ifExp (pt_cmpR op_lt (pv 1) (pe_callB call_len_seq (by rfl) T.f_len PySem.boot_len (pa_cons (pv 0) pa_nil)) (nomark _)) (pe_callTy call_int1 (by rfl) T.f_int boot_int (pa_cons (pe_ix ix_list (pv 0) (pv 1) (fun _ _ => rfl)) pa_nil)) pe_int)
          (pa_cons (pe_op op_add (pe_op op_mul pe_int (pe_op op_add (pv 1) pe_int)) pe_int) pa_nil)) (by rfl))
      (pss_cons (ps_for PassesOwn.never rfl (pi_list (pe_slice sl_list (pv 0) po_none (po_some pe_int))) (pg_name (i := 4) nd rfl (.inl rfl))
        (pss_one (ps_set (i := 3) nd rfl (.inl rfl) (pe_op op_mod (pe_callTy call_int1 (by rfl) T.f_int boot_int (pa_cons (pe_op op_add (pe_op op_add (pe_op op_mul (pv 3) pe_int) (pe_op op_mod (pe_callTy call_int1 (by rfl) T.f_int boot_int (pa_cons (pv 4) pa_nil)) pe_int)) (pe_op op_mul pe_int (pv 1))) pa_nil)) pe_int))))
      (pss_cons (ps_set (i := 5) nd rfl (.inl rfl) (pe_ifExp (PW.pt (pw_or (pt_cmpR op_lt (pv 2) pe_int (nomark _)) (pw_or1 (pt_cmpR op_ge (pv 2) (pe_op op_pow pe_int pe_int) (nomark _))))) (pe_callB call_abs (by rfl) T.f_abs boot_abs (pa_cons (pv 2) pa_nil)) pe_int))
      (pss_one (ps_ret (pe_lst (pa_cons (pv 5) (pa_cons (pe_op op_mod (pe_callTy call_int1 (by rfl) T.f_int boot_int (pa_cons (pe_op op_add (pv 3) (pe_op op_mul pe_int (pe_op op_mod (pe_callTy call_int1 (by rfl) T.f_int boot_int (pa_cons (pv 2) pa_nil)) pe_int))) pa_nil)) pe_int) (pa_cons pe_int pa_nil)))))))), ?_⟩
    refine ⟨_, rfl, _, rfl, c, _, rfl, .inl hS, _, _, rfl, rfl, _, rfl, ?_⟩
    refine ite2 (fun h1 => ?_) (fun h1 => ?_)
    · have h1 := of_decide_eq_true h1
      have h2 : i < ns.length := by
        rw [List.length_map] at h1
        omega
      obtain ⟨cell, hcell⟩ : ∃ cell, ns[i]? = some cell := ⟨ns[i], List.getElem?_eq_getElem h2⟩
      refine ⟨_, rfl, _, rfl, c, _, _, _, rfl, rfl, hS, atI_nat (map_ofs hcell), .inl ⟨_, rfl, ?_⟩⟩
      refine ⟨_, rfl, _, _, rfl, rfl, _, _, rfl, rfl, .inl ⟨by decide, by decide⟩, _, _, rfl, rfl, ?_⟩
      refine ⟨_, _, rfl, ?_⟩
      refine ⟨_, rfl, 6, rfl, c, _, rfl, hS, fun S nS => ?_⟩
      have s1 : Same H (upd H S (.lst (cutV (ns.map V.int) none (some 6)))) := same_new nS
      refine ⟨S, rfl, ⟨_, SqL.of upd_same⟩, for_list (K := K) (a := S) (xs := cutV (ns.map V.int) none (some 6)) (fun _ σ H' => ∃ mx x4, σ = [some (.ref c), some (.int i), some (.int cell), some (.int mx), x4, none] ∧ H' = upd H S (.lst (cutV (ns.map V.int) none (some 6)))) ⟨_, none, rfl, rfl⟩ (fun _ _ _ _ ⟨_, _, _, e⟩ => by rw [e]; exact SqL.of upd_same) ?_ ?_⟩
      · rintro j y σ H' hj ⟨mx, x4, rfl, rfl⟩
        rw [cut6] at hj
        obtain ⟨n, _, rfl⟩ := map_at hj
        refine ⟨_, rfl, _, _, rfl, rfl, .inr ⟨by decide, by decide⟩, _, rfl, .inl ⟨_, rfl, _, _, rfl, rfl, by show (0 : Int) < 1000777; decide, _, _, rfl, rfl, _, rfl, _, _, rfl, rfl, .inl ⟨by decide, by decide⟩, _, _, rfl, rfl, .inl ⟨_, rfl, _, _, rfl, rfl, by show (0 : Int) < 2147483029; decide, ?_⟩⟩⟩
        exact ⟨_, some (.int n), rfl, rfl⟩
      · rintro σ H' ⟨mx, x4, rfl, rfl⟩
        refine ⟨_, rfl, _, _, rfl, rfl, _, rfl, ?_⟩
        by_cases c1 : cell < 0
        · refine iteTk (decide_eq_true c1) ?_
          refine iteT ⟨_, rfl, _, rfl, ?_⟩
          refine ⟨_, rfl, _, rfl, _, rfl, .inl ⟨_, rfl, _, _, rfl, rfl, by show (0 : Int) < 999653; decide, _, _, rfl, rfl, .inl ⟨by decide, by decide⟩, _, _, rfl, rfl, .inl ⟨_, rfl, _, _, rfl, rfl, by show (0 : Int) < 2147483029; decide, by show 3 ≤ sizeLine; decide, fun a na => ?_⟩⟩⟩
          exact k _ a (s1.trans (same_new na)) ⟨_, _, _, upd_same⟩ (s1.free na)
        · refine iteFk (decide_eq_false c1) ?_
          refine ⟨_, rfl, _, _, rfl, rfl, ⟨by decide, by decide, by decide⟩, _, _, rfl, rfl, _, rfl, ?_⟩
          refine ite2 (fun _ => ?_) (fun _ => ?_)
          · refine ⟨_, rfl, _, rfl, ?_⟩
            refine ⟨_, rfl, _, rfl, _, rfl, .inl ⟨_, rfl, _, _, rfl, rfl, by show (0 : Int) < 999653; decide, _, _, rfl, rfl, .inl ⟨by decide, by decide⟩, _, _, rfl, rfl, .inl ⟨_, rfl, _, _, rfl, rfl, by show (0 : Int) < 2147483029; decide, by show 3 ≤ sizeLine; decide, fun a na => ?_⟩⟩⟩
            exact k _ a (s1.trans (same_new na)) ⟨_, _, _, upd_same⟩ (s1.free na)
          · refine ⟨_, rfl, _, rfl, _, rfl, .inl ⟨_, rfl, _, _, rfl, rfl, by show (0 : Int) < 999653; decide, _, _, rfl, rfl, .inl ⟨by decide, by decide⟩, _, _, rfl, rfl, .inl ⟨_, rfl, _, _, rfl, rfl, by show (0 : Int) < 2147483029; decide, by show 3 ≤ sizeLine; decide, fun a na => ?_⟩⟩⟩
            exact k _ a (s1.trans (same_new na)) ⟨_, _, _, upd_same⟩ (s1.free na)
    · refine ⟨_, rfl, _, _, rfl, rfl, _, _, rfl, rfl, .inl ⟨by decide, by decide⟩, _, _, rfl, rfl, ?_⟩
      refine ⟨_, _, rfl, ?_⟩
      refine ⟨_, rfl, 6, rfl, c, _, rfl, hS, fun S nS => ?_⟩
      have s1 : Same H (upd H S (.lst (cutV (ns.map V.int) none (some 6)))) := same_new nS
      refine ⟨S, rfl, ⟨_, SqL.of upd_same⟩, for_list (K := K) (a := S) (xs := cutV (ns.map V.int) none (some 6)) (fun _ σ H' => ∃ mx x4, σ = [some (.ref c), some (.int i), some (.int (0 : Int)), some (.int mx), x4, none] ∧ H' = upd H S (.lst (cutV (ns.map V.int) none (some 6)))) ⟨_, none, rfl, rfl⟩ (fun _ _ _ _ ⟨_, _, _, e⟩ => by rw [e]; exact SqL.of upd_same) ?_ ?_⟩
      · rintro j y σ H' hj ⟨mx, x4, rfl, rfl⟩
        rw [cut6] at hj
        obtain ⟨n, _, rfl⟩ := map_at hj
        refine ⟨_, rfl, _, _, rfl, rfl, .inr ⟨by decide, by decide⟩, _, rfl, .inl ⟨_, rfl, _, _, rfl, rfl, by show (0 : Int) < 1000777; decide, _, _, rfl, rfl, _, rfl, _, _, rfl, rfl, .inl ⟨by decide, by decide⟩, _, _, rfl, rfl, .inl ⟨_, rfl, _, _, rfl, rfl, by show (0 : Int) < 2147483029; decide, ?_⟩⟩⟩
        exact ⟨_, some (.int n), rfl, rfl⟩
      · rintro σ H' ⟨mx, x4, rfl, rfl⟩
        refine ⟨_, rfl, _, _, rfl, rfl, _, rfl, ?_⟩
        by_cases c1 : (0 : Int) < 0
        · refine iteTk (decide_eq_true c1) ?_
          refine iteT ⟨_, rfl, _, rfl, ?_⟩
          refine ⟨_, rfl, _, rfl, _, rfl, .inl ⟨_, rfl, _, _, rfl, rfl, by show (0 : Int) < 999653; decide, _, _, rfl, rfl, .inl ⟨by decide, by decide⟩, _, _, rfl, rfl, .inl ⟨_, rfl, _, _, rfl, rfl, by show (0 : Int) < 2147483029; decide, by show 3 ≤ sizeLine; decide, fun a na => ?_⟩⟩⟩
          exact k _ a (s1.trans (same_new na)) ⟨_, _, _, upd_same⟩ (s1.free na)
        · refine iteFk (decide_eq_false c1) ?_
          refine ⟨_, rfl, _, _, rfl, rfl, ⟨by decide, by decide, by decide⟩, _, _, rfl, rfl, _, rfl, ?_⟩
          refine ite2 (fun _ => ?_) (fun _ => ?_)
          · refine ⟨_, rfl, _, rfl, ?_⟩
            refine ⟨_, rfl, _, rfl, _, rfl, .inl ⟨_, rfl, _, _, rfl, rfl, by show (0 : Int) < 999653; decide, _, _, rfl, rfl, .inl ⟨by decide, by decide⟩, _, _, rfl, rfl, .inl ⟨_, rfl, _, _, rfl, rfl, by show (0 : Int) < 2147483029; decide, by show 3 ≤ sizeLine; decide, fun a na => ?_⟩⟩⟩
            exact k _ a (s1.trans (same_new na)) ⟨_, _, _, upd_same⟩ (s1.free na)
          · refine ⟨_, rfl, _, rfl, _, rfl, .inl ⟨_, rfl, _, _, rfl, rfl, by show (0 : Int) < 999653; decide, _, _, rfl, rfl, .inl ⟨by decide, by decide⟩, _, _, rfl, rfl, .inl ⟨_, rfl, _, _, rfl, rfl, by show (0 : Int) < 2147483029; decide, by show 3 ≤ sizeLine; decide, fun a na => ?_⟩⟩⟩
            exact k _ a (s1.trans (same_new na)) ⟨_, _, _, upd_same⟩ (s1.free na)
end Sw
set_option Elab.async false
set_option linter.all false
set_option maxRecDepth 100000
set_option maxHeartbeats 1000000
namespace Sw
open PySem PySem.Spec PyProof.Rows L2
variable {P : Program} {w : World} {K : PySem.W.Frag} {mg : Str → Option Value} {base : Heap}
/-! _law_between_right -/
def spBR (K : PySem.W.Frag) : Sp := fun vs H Q _ => ∃ (n f lo hi : Addr) (a b a' b' la lb la' lb' : List Int), vs = [.ref n, .ref f, .ref lo, .ref hi] ∧ SlopeAt K H n a b ∧ SlopeAt K H f a' b' ∧ Good a b ∧ Good a' b' ∧ ¬ (a = a' ∧ b = b') ∧ SLt (sq a b) (sq a' b') ∧
  PairAt K H lo la lb ∧ PairAt K H hi la' lb' ∧ Parts la ∧ Parts lb ∧ lb ≠ [] ∧ Parts la' ∧ Parts lb' ∧ lb' ≠ [] ∧ (∀ k, sq la lb k = sq a b k) ∧ (∀ k, sq la' lb' k = sq a' b' k) ∧ ∀ H', Same H H' → Q (.bl true) H'
theorem sc_br : FnScope ["_law_near_here", "_law_far", "_law_low", "_law_high", "_law_told", "_law_p", "_law_q", "_law_k", "_law_above_here", "_law_below_here"] ["_law_near_here", "_law_far", "_law_low", "_law_high"] (defScope sLawBetweenRight) := ⟨rfl, rfl, rfl, by decide +kernel, rfl, by decide +kernel, by decide +kernel⟩
theorem btwE_lt {a b a' b' : List Int} {x y : Int} (g : Good a b) (g' : Good a' b') (lt : SLt (sq a b) (sq a' b')) (h : BtwE a b a' b' x y) : BtwS a b a' b' x y := by
  rcases h with h | h
  · exact h.2
  · exact (SLt.asymm g.pos g'.pos lt h.1).elim
theorem btwE_gt {a b a' b' : List Int} {x y : Int} (g : Good a b) (g' : Good a' b') (lt : SLt (sq a b) (sq a' b')) (h : BtwE a' b' a b x y) : BtwS a b a' b' x y := by
  rcases h with h | h
  · exact (SLt.asymm g.pos g'.pos lt h.1).elim
  · exact h.2
theorem d_br (T : Tx K mg) : Def P w K mg base 8 "_law_between_right" ["_law_near_here", "_law_far", "_law_low", "_law_high"] (spBR K) := by
  refine mkDef T 7 37 rfl T.g_law_between_right sc_br (fun _ _ _ _ _ _ us hl => match us, hl with | [_, _, _, _], _ => rfl) (fun vs H Q E h => ?_) (fun cdv A outer s H vs Q E hr h => ?_)
  · obtain ⟨n, f, lo, hi, a, b, a', b', la, lb, la', lb', rfl, _⟩ := h
    rfl
  · obtain ⟨n, f, lo, hi, a, b, a', b', la, lb, la', lb', rfl, h1, h2, g, g', ne, lt, h3, h4, pla, plb, nlb, pla', plb', nlb', e1, e2, k⟩ := h
    have nd := sc_br.nd
    have hr4 : Room 4 _ := hr.mono (by decide)
    have hr3 : Room 3 _ := hr.mono (by decide)
    have hr5 : Room 5 _ := hr.mono (by decide)
    have hr6 : Room 6 _ := hr.mono (by decide)
    have ne' : ¬ (a' = a ∧ b' = b) := fun z => ne ⟨z.1.symm, z.2.symm⟩
    refine ⟨_, pss_cons (ps_set (i := 4) nd rfl (.inl rfl) (pe_cal (d_lb T) hr4 (by rfl) (pa_cons (pv 0) (pa_cons (pv 1) pa_nil))))
      (pss_cons (ps_if (PW.pt (pw_or (pt_cmpR (op_neD hr.units) (pe_lbK T hr4 (by rfl) (pv 0) (pv 1)) (pv 4) (nomark _)) (pw_or (pt_not (pt_val (pe_callB call_isi (by rfl) T.f_isinstance boot_isinstance (pa_cons (pv 4) (pa_cons (pe_bltn (v := .ty "tuple") (by rfl) T.f_tuple boot_tuple rfl) pa_nil)))))
          (pw_or1 (pt_cmpR op_ne (pe_callB call_len_seq (by rfl) T.f_len PySem.boot_len (pa_cons (pv 4) pa_nil)) pe_int (nomark _)))))) (pss_one (ps_ret pe_bl)) pss_nil)
      (pss_cons (ps_asg (pv 4) (pg_tup rfl (pgs_cons (pg_name (i := 5) nd rfl (.inl rfl)) (pgs_cons (pg_name (i := 6) nd rfl (.inl rfl)) pgs_nil))))
      (pss_cons (ps_if (pt_cmpR (op_neD hr.units) (pe_lst (pa_cons (pe_cal (d_sign_of T) hr (by rfl) (pa_cons (pv 0) (pa_cons (pe_tup (pa_cons (pv 5) (pa_cons (pe_un un_neg (pv 6)) pa_nil))) pa_nil))) (pa_cons (pe_cal (d_sign_of T) hr (by rfl) (pa_cons (pv 1) (pa_cons (pe_tup (pa_cons (pv 5) (pa_cons (pe_un un_neg (pv 6)) pa_nil))) pa_nil))) pa_nil)))
          (pe_lst (pa_cons pe_int (pa_cons (pe_un un_neg pe_int) pa_nil))) (nomark _)) (pss_one (ps_ret pe_bl)) pss_nil)
      (pss_cons (ps_for PassesOwn.never rfl (pi_range2 (by rfl) T.f_range (pa_cons pe_int (pa_cons (pe_callB (call_min2 rfl) (by rfl) T.f_min boot_min (pa_cons (pv 6) (pa_cons pe_int pa_nil))) pa_nil))) (pg_name (i := 7) nd rfl (.inl rfl))
        (pss_one (ps_if (pt_cmpR op_ne (pe_cal (d_whole T) hr3 (by rfl) (pa_cons (pv 2) (pa_cons pe_int (pa_cons (pv 7) pa_nil)))) (pe_cal (d_whole T) hr3 (by rfl) (pa_cons (pv 3) (pa_cons pe_int (pa_cons (pv 7) pa_nil)))) (nomark _)) (pss_one (ps_ret pe_bl)) pss_nil)))
      (pss_cons (ps_if (PW.pt (pw_or (pt_cmpR op_ne (pe_op op_add (pe_cal (d_whole_part T) hr6 (by rfl) (pa_cons (pv 0) (pa_cons (pe_tup (pa_cons pe_int (pa_cons (pv 6) pa_nil))) pa_nil))) pe_int) (pv 5) (nomark _)) (pw_or1 (pt_cmpR op_ne (pe_cal (d_whole_part T) hr6 (by rfl) (pa_cons (pv 1) (pa_cons (pe_tup (pa_cons pe_int (pa_cons (pv 6) pa_nil))) pa_nil))) (pv 5) (nomark _))))) (pss_one (ps_ret pe_bl)) pss_nil)
      (pss_cons (ps_par (i := 8) (j := 9) (by rfl) nd rfl rfl (by decide) rfl rfl (pa_cons (pe_cal (d_least_above T) hr5 (by rfl) (pa_cons (pv 0) (pa_cons (pv 6) pa_nil))) (pa_cons (pe_cal (d_greatest_below T) hr5 (by rfl) (pa_cons (pv 1) (pa_cons (pv 6) pa_nil))) pa_nil)) (by rfl))
      (pss_one (ps_ret (pe_and (pe_cmpR op_le (pe_op op_mulW (pe_ix ix_tup (pv 8) pe_int (fun _ _ => rfl)) (pv 6)) (pe_op op_mulW (pv 5) (pe_ix ix_tup (pv 8) pe_int (fun _ _ => rfl))) (nomark _)) (pe_one (pe_cmpR op_ge (pe_op op_mulW (pe_ix ix_tup (pv 9) pe_int (fun _ _ => rfl)) (pv 6)) (pe_op op_mulW (pv 5) (pe_ix ix_tup (pv 9) pe_int (fun _ _ => rfl))) (nomark _)))))))))))), ?_⟩
    refine ⟨_, rfl, _, rfl, n, f, a, b, a', b', rfl, h1, h2, g, g', fun z => absurd z ne, fun _ H1 t x y s1 ht bt => ?_⟩
    have bs := btwE_lt g g' lt bt
    obtain ⟨bt, x0, xM, yM⟩ := bs
    have y1 := bt.q1
    -- the other way round
    refine ⟨_, rfl, _, rfl, f, n, a', b', a, b, rfl, h2.ext s1, h1.ext s1, g', g, fun z => absurd z ne', fun _ H2 t2 x2 y2 s2 ht2 bt2 => ?_⟩
    have bs2 := btwE_gt g g' lt bt2
    obtain ⟨ex, ey⟩ := Btw.uniq g'.pos bs2.bt bt
    subst ex ey
    have s02 := s1.trans s2
    have ht' := SqT.ext ht s2
    refine ⟨_, rfl, DT [x2, y2], DT [x2, y2], dp_IT ht2, dp_IT ht', sh_DT _, sh_DT _, _, rfl, ?_⟩
    refine iteFk (by rw [eqv_DT, decide_eq_true rfl]; rfl) ?_
    refine ⟨_, rfl, _, _, _, _, true, rfl, .ty "tuple", tyT ht', kit_ty (by decide +kernel), true, rfl, iteF ?_⟩
    refine ⟨_, rfl, t, _, rfl, .inr ht', rfl, _, rfl, ?_⟩
    refine iteFk (by rw [veq (show (([V.int x2, V.int y2].length : Nat) : Int) = 2 from rfl)]; rfl) ?_
    refine ⟨_, rfl, t, _, rfl, ht', rfl, _, _, rfl, _, _, rfl, rfl, ?_⟩
    -- the signs
    have f1 := bt.fl.1
    have f2 := bt.fl.2
    refine ⟨_, rfl, _, rfl, _, rfl, _, rfl, by show 2 ≤ sizeLine; decide, fun t3 n3 => ?_⟩
    have s3 := s02.trans (same_new (o := .tup [.int x2, .int (-y2)]) n3)
    refine ⟨n, t3, a, b, x2, -y2, rfl, h1.ext s3, g.ne, g.pa, g.pb, SqT.of upd_same, ⟨by omega, xM⟩, ⟨by omega, by omega⟩, by omega, fun H4 W s4 fl => ?_⟩
    have eW : -1 - W = x2 - 1 := fl_uniq g.pos y1 (by have := fl.n (by omega); rw [Int.neg_neg] at this; exact this) f1
    rw [if_pos (show 0 ≤ x2 + W by omega)]
    have s04 := s3.trans s4
    refine ⟨_, rfl, _, rfl, _, rfl, _, rfl, by show 2 ≤ sizeLine; decide, fun t5 n5 => ?_⟩
    have s5 := s04.trans (same_new (o := .tup [.int x2, .int (-y2)]) n5)
    refine ⟨f, t5, a', b', x2, -y2, rfl, h2.ext s5, g'.ne, g'.pa, g'.pb, SqT.of upd_same, ⟨by omega, xM⟩, ⟨by omega, by omega⟩, by omega, fun H6 W2 s6 fl2 => ?_⟩
    have eW2 : -1 - W2 = x2 := fl_uniq g'.pos y1 (by have := fl2.n (by omega); rw [Int.neg_neg] at this; exact this) f2
    rw [if_neg (show ¬ 0 ≤ x2 + W2 by omega)]
    have s06 := s5.trans s6
    refine ⟨by show 2 ≤ sizeLine; decide, fun L nL => ⟨1, rfl, by show 2 ≤ sizeLine; decide, fun L2 nL2 => ?_⟩⟩
    have s7 := s06.trans (same_new (o := .lst [.int 1, .int (-1)]) nL)
    have sL : Same (upd H6 L (.lst [.int 1, .int (-1)])) _ := same_new (o := .lst [.int 1, .int (-1)]) nL2
    have s8 := s7.trans sL
    refine ⟨.list ([1, -1].map PyData.int), .list ([1, -1].map PyData.int), .lst (SqL.of (sL _ _ upd_same)) (dpAll_ints [1, -1]), .lst (SqL.of upd_same) (dpAll_ints [1, -1]), sh_LT [1, -1], sh_LT [1, -1], _, rfl, ?_⟩
    refine iteFk (by rw [eqv_LT, decide_eq_true rfl]; rfl) ?_
    generalize upd (upd H6 L (.lst [.int 1, .int (-1)])) L2 (.lst [.int 1, .int (-1)]) = H8 at s8
    -- whole parts alike
    refine ⟨_, rfl, _, _, rfl, 1, _, rfl, ⟨by decide, by decide, ?_, ?_⟩, for_range (lo := 1) (n := ((if 60 < y2 then 60 else y2) - 1).toNat) (fun i σ H' => ∃ x7, σ = [some (.ref n), some (.ref f), some (.ref lo), some (.ref hi), some (.ref t), some (.int x2), some (.int y2), x7, none, none] ∧ Same H H') ⟨none, rfl, s8⟩ ?_ ?_⟩
    · show -(2 ^ 62) ≤ (if 60 < y2 then 60 else y2)
      split <;> omega
    · show (if 60 < y2 then 60 else y2) < 2 ^ 62
      split <;> omega
    · rintro i σ H9 hi' ⟨x7, rfl, s9⟩
      have hk : 1 + (i : Int) < y2 ∧ 1 + (i : Int) < 60 := by
        by_cases c : 60 < y2
        · rw [if_pos c] at hi'
          omega
        · rw [if_neg c] at hi'
          omega
      have ea : sq la lb = sq a b := funext e1
      have eb : sq la' lb' = sq a' b' := funext e2
      refine ⟨_, rfl, _, rfl, lo, la, lb, 0, 1 + (i : Int), rfl, h3.ext s9, nlb, pla, plb, by omega, by omega, fun H10 W3 s10 fl3 => ?_⟩
      refine ⟨_, rfl, _, rfl, hi, la', lb', 0, 1 + (i : Int), rfl, h4.ext (s9.trans s10), nlb', pla', plb', by omega, by omega, fun H11 W4 s11 fl4 => ?_⟩
      rw [ea] at fl3
      rw [eb] at fl4
      have eq := bt.same g.pos g'.pos (by omega) hk.1 fl3 fl4
      refine ⟨rfl, _, rfl, ?_⟩
      refine iteFk (by rw [veq (by rw [eq])]; rfl) ?_
      exact ⟨_, rfl, (s9.trans s10).trans s11⟩
    · rintro σ H9 ⟨x7, rfl, s9⟩
      refine ⟨_, rfl, _, rfl, by show 2 ≤ sizeLine; decide, fun t6 n6 => ?_⟩
      have s10 := s9.trans (same_new (o := .tup [.int 0, .int y2]) n6)
      refine ⟨n, t6, a, b, 0, y2, rfl, h1.ext s10, g.ne, g.pa, g.pb, SqT.of upd_same, ⟨by decide, by decide⟩, ⟨by omega, by omega⟩, fun H11 W5 s11 fl5 => ?_⟩
      have eW5 : W5 = x2 - 1 := fl_uniq g.pos y1 (fl5.p (by omega)) f1
      have s011 := s10.trans s11
      refine ⟨_, _, rfl, rfl, _, rfl, rfl, _, rfl, ?_⟩
      refine iteFk (by rw [veq (show (0 : Int) + W5 + 1 = x2 by omega)]; rfl) ?_
      refine ⟨_, rfl, _, rfl, by show 2 ≤ sizeLine; decide, fun t7 n7 => ?_⟩
      have s12 := s011.trans (same_new (o := .tup [.int 0, .int y2]) n7)
      refine ⟨f, t7, a', b', 0, y2, rfl, h2.ext s12, g'.ne, g'.pa, g'.pb, SqT.of upd_same, ⟨by decide, by decide⟩, ⟨by omega, by omega⟩, fun H13 W6 s13 fl6 => ?_⟩
      have eW6 : W6 = x2 := fl_uniq g'.pos y1 (fl6.p (by omega)) f2
      have s013 := s12.trans s13
      refine ⟨_, rfl, rfl, _, rfl, ?_⟩
      refine iteFk (by rw [veq (show (0 : Int) + W6 = x2 by omega)]; rfl) ?_
      -- the best ones of one side
      refine ⟨_, rfl, _, rfl, n, a, b, y2, rfl, h1.ext s013, g.ne, g.pa, g.pb, y1, yM, fun H14 ta xa ya s14 hta sa wxa wya => ?_⟩
      refine ⟨_, rfl, _, rfl, f, a', b', y2, rfl, h2.ext (s013.trans s14), g'.ne, g'.pa, g'.pb, y1, yM, fun H15 tb xb yb s15 htb sb wxb wyb => ?_⟩
      refine ⟨_, _, rfl, ?_⟩
      have wx : x2.natAbs < 2 ^ 250 := wlt x0 (by have : MX ≤ MX * MX := by decide +kernel
                                                  omega)
      have wy : y2.natAbs < 2 ^ 250 := wlt (by omega) (by have : MX ≤ MX * MX := by decide +kernel
                                                          omega)
      refine ⟨_, rfl, ta, _, _, _, rfl, rfl, SqT.ext hta s15, atI_nat (j := 0) rfl, _, rfl, _, _, rfl, rfl, wide_mul wxa wy (by decide) (by decide) (by decide), _, rfl, _, rfl, ta, _, _, _, rfl, rfl, SqT.ext hta s15, atI_nat (j := 1) rfl, _, _, rfl, rfl, wide_mul wx wya (by decide) (by decide) (by decide), _, _, rfl, rfl, _, rfl, ?_⟩
      refine iteTk (decide_eq_true (sa.1 rfl x2 y2 y1 (Int.le_refl _) bt.hi)) ?_
      refine ⟨_, rfl, tb, _, _, _, rfl, rfl, htb, atI_nat (j := 0) rfl, _, rfl, _, _, rfl, rfl, wide_mul wxb wy (by decide) (by decide) (by decide), _, rfl, _, rfl, tb, _, _, _, rfl, rfl, htb, atI_nat (j := 1) rfl, _, _, rfl, rfl, wide_mul wx wyb (by decide) (by decide) (by decide), _, _, rfl, rfl, ?_⟩
      have fin : decide (x2 * yb ≤ xb * y2) = true := decide_eq_true (sb.2 rfl x2 y2 y1 (Int.le_refl _) bt.lo)
      show Q (.bl (decide (x2 * yb ≤ xb * y2))) H15
      rw [fin]
      exact k _ (((s013.trans s14)).trans s15)
end Sw
set_option Elab.async false
set_option linter.all false
set_option maxRecDepth 100000
set_option maxHeartbeats 1000000
namespace Sw
open PySem PySem.Spec PyProof.Rows L2
variable {P : Program} {w : World} {K : PySem.W.Frag} {mg : Str → Option Value} {base : Heap}
/-! what _law_right leans on -/
theorem good_of {la lb a b : List Int} (md : Mid la lb a b) (cn : Canon a b) (pla : Parts la) (plb : Parts lb) (h1 : la.length ≤ 6) (h2 : lb.length ≤ 4) : Good a b := by
  have p := rot_canon_parts md pla plb
  have l1 := md.la
  have l2 := md.lb
  exact ⟨p.1, p.2, by omega, by omega, cn⟩
/-- Slope(lead, loop), its reading -/
theorem mk_read {H : Hp} {l r x dx : Addr} {la lb : List Int} {Q : VK} {E : XK} (h1 : IT K H l la) (h2 : IT K H r lb) (pla : Parts la) (plb : Parts lb) (ne : lb ≠ []) (l6 : la.length ≤ 6) (l4 : lb.length ≤ 4) (nx : H x = none) (ndx : H dx = none)
    (k : ∀ H' a b, Same H H' → SlopeAt K H' x a b → Good a b → (∀ k, sq a b k = sq la lb k) → Q .non H') :
    spInit K [.ref x, .ref l, .ref r] (upd (upd H dx (.own x)) x (.ins (He.ga K "Slope") dx [])) Q E := by
  have s : Same H (upd (upd H dx (.own x)) x (.ins (He.ga K "Slope") dx [])) := fun b o e => by
    rw [upd_ne (ne_of_none e nx), upd_ne (ne_of_none e ndx)]
    exact e
  refine ⟨x, l, r, dx, la, lb, rfl, upd_same, SqT.ext h1 s, SqT.ext h2 s, pla, plb, ne, by omega, by omega, fun H' a b sl md cn keep => ?_⟩
  exact k H' a b (Same.made nx ndx keep) sl (good_of md cn pla plb l6 l4) md.sqe
/-- a slope: where it stands, its shortest form -/
structure Sl where
  p : Addr
  a : List Int
  b : List Int
def Sl.s (u : Sl) : Nat → Int := sq u.a u.b
def SlA (K : PySem.W.Frag) (H : Hp) (u : Sl) : Prop := SlopeAt K H u.p u.a u.b ∧ Good u.a u.b
def sm (u v : Sl) : Prop := u.a = v.a ∧ u.b = v.b
def Le (u v : Sl) : Prop := sm u v ∨ SLt u.s v.s
theorem Le.trans {u v w : Sl} (g : Good u.a u.b) (g' : Good v.a v.b) (g2 : Good w.a w.b) (h : Le u v) (k : Le v w) : Le u w := by
  rcases h with h | h
  · rcases k with k | k
    · exact .inl ⟨h.1.trans k.1, h.2.trans k.2⟩
    · refine .inr ?_
      have : u.s = v.s := by unfold Sl.s; rw [h.1, h.2]
      rw [this]
      exact k
  · rcases k with k | k
    · refine .inr ?_
      have : v.s = w.s := by unfold Sl.s; rw [k.1, k.2]
      rw [← this]
      exact h
    · exact .inr (SLt.trans g.pos g'.pos g2.pos h k)
/-- what stands between two turns of the sorting loops: outer turn k, inner turn j -/
def Ord (k j : Nat) (u v w : Sl) : Prop := (j = 1 → Le u v) ∧ ((1 ≤ k ∨ j = 2) → Le v w ∧ Le u w) ∧ ((1 ≤ k ∧ 1 ≤ j) → Le u v)
theorem ord0_no {k : Nat} {u v w : Sl} (o : Ord k 0 u v w) (h : Le u v) : Ord k 1 u v w := ⟨fun _ => h, fun z => o.2.1 (by omega), fun _ => h⟩
theorem ord0_yes {k : Nat} {u v w : Sl} (o : Ord k 0 u v w) (h : Le v u) : Ord k 1 v u w := ⟨fun _ => h, fun z => let q := o.2.1 (by omega); ⟨q.2, q.1⟩, fun _ => h⟩
theorem ord1_no {k : Nat} {u v w : Sl} (gu : Good u.a u.b) (gv : Good v.a v.b) (gw : Good w.a w.b) (o : Ord k 1 u v w) (h : Le v w) : Ord k 2 u v w :=
  ⟨fun z => by omega, fun _ => ⟨h, (o.1 rfl).trans gu gv gw h⟩, fun _ => o.1 rfl⟩
theorem ord1_yes {k : Nat} {u v w : Sl} (o : Ord k 1 u v w) (h : Le w v) : Ord k 2 u w v :=
  ⟨fun z => by omega, fun _ => ⟨h, o.1 rfl⟩, fun z => (o.2.1 (.inl z.1)).2⟩
/-- what is known ahead of the outer turn k -/
def Out (k : Nat) (u v w : Sl) : Prop := (1 ≤ k → Le v w ∧ Le u w) ∧ (2 ≤ k → Le u v)
theorem out_in {k : Nat} {u v w : Sl} (o : Out k u v w) : Ord k 0 u v w := ⟨fun z => by omega, fun z => o.1 (by omega), fun z => by omega⟩
theorem in_out {k : Nat} {u v w : Sl} (o : Ord k 2 u v w) : Out (k + 1) u v w := ⟨fun _ => o.2.1 (.inr rfl), fun z => o.2.2 ⟨by omega, by omega⟩⟩
/-- the bottom between two slopes, 0 if they are the same -/
def DD (u v : Sl) (d : Int) : Prop := (sm u v ∧ d = 0) ∨ (¬ sm u v ∧ ∃ x, BtwE u.a u.b v.a v.b x d)
theorem least_read {H : Hp} {u v : Sl} {Q : VK} {E : XK} (hu : SlA K H u) (hv : SlA K H v) (k : ∀ H' d, Same H H' → DD u v d → Q (.int d) H') : spLeast K [.ref u.p, .ref v.p] H Q E :=
  ⟨u.p, v.p, u.a, u.b, v.a, v.b, rfl, hu.1, hv.1, hu.2, hv.2, fun c => k H 0 (Same.refl H) (.inl ⟨c, rfl⟩), fun c H' x y s bt => k H' y s (.inr ⟨c, x, bt⟩)⟩
def spLeast2 (K : PySem.W.Frag) : Sp := fun vs H Q _ => ∃ u v : Sl, vs = [.ref u.p, .ref v.p] ∧ SlA K H u ∧ SlA K H v ∧ ∀ H' d, Same H H' → DD u v d → Q (.int d) H'
theorem d_least2 (T : Tx K mg) : Def P w K mg base 5 "_law_least" ["_law_near_here", "_law_far"] (spLeast2 K) := by
  have D := d_least (P := P) (w := w) (base := base) T
  obtain ⟨fd, F, b⟩ := D.ex
  refine ⟨⟨fd, F.imp fun vs H Q E h => ?_, b⟩, D.g, D.kp⟩
  obtain ⟨u, v, rfl, hu, hv, k⟩ := h
  exact least_read hu hv k
theorem dd_pos {u v : Sl} {d : Int} (gu : Good u.a u.b) (gv : Good v.a v.b) (le : Le u v) (ns : ¬ sm u v) (h : DD u v d) : ∃ x, BtwS u.a u.b v.a v.b x d ∧ 1 ≤ d := by
  rcases h with h | ⟨_, x, h⟩
  · exact absurd h.1 ns
  · have lt : SLt u.s v.s := by
      rcases le with z | z
      · exact absurd z ns
      · exact z
    have b := btwE_lt gu gv lt h
    exact ⟨x, b, b.bt.q1⟩
theorem dmin {u v w : Sl} {d1 d2 d3 : Int} (gu : Good u.a u.b) (gv : Good v.a v.b) (gw : Good w.a w.b) (h1 : Le u v) (h2 : Le v w) (h13 : Le u w) (e1 : DD u v d1) (e2 : DD v w d2) (e3 : DD u w d3) (h3 : d3 ≠ 0) :
    ([d1, d2].filter fun x => decide (0 < x)) ≠ [] ∧ ∀ m, m ∈ ([d1, d2].filter fun x => decide (0 < x)) → (∀ n, n ∈ ([d1, d2].filter fun x => decide (0 < x)) → m ≤ n) → m = d3 := by
  have n3 : ¬ sm u w := by
    rcases e3 with e | e
    · exact absurd e.2 h3
    · exact e.1
  obtain ⟨x3, b3, p3⟩ := dd_pos gu gw h13 n3 e3
  by_cases c1 : sm u v
  · have z1 : d1 = 0 := by
      rcases e1 with e | e
      · exact e.2
      · exact absurd c1 e.1
    have n2 : ¬ sm v w := fun z => n3 ⟨c1.1.trans z.1, c1.2.trans z.2⟩
    obtain ⟨x2, b2, p2⟩ := dd_pos gv gw h2 n2 e2
    have b2' := b2.bt
    rw [← c1.1, ← c1.2] at b2'
    have q := (Btw.uniq gw.pos b2' b3.bt).2
    subst z1 q
    have ef : ([0, d2].filter fun x => decide (0 < x)) = [d2] := by
      have t : (0 : Int) < d2 := by omega
      simp [t]
    rw [ef]
    exact ⟨by simp, fun m hm _ => by simpa using hm⟩
  · by_cases c2 : sm v w
    · have z2 : d2 = 0 := by
        rcases e2 with e | e
        · exact e.2
        · exact absurd c2 e.1
      obtain ⟨x1, b1, p1⟩ := dd_pos gu gv h1 c1 e1
      have b1' := b1.bt
      rw [c2.1, c2.2] at b1'
      have q := (Btw.uniq gw.pos b1' b3.bt).2
      subst z2 q
      have ef : ([d1, 0].filter fun x => decide (0 < x)) = [d1] := by
        have t : (0 : Int) < d1 := by omega
        simp [t]
      rw [ef]
      exact ⟨by simp, fun m hm _ => by simpa using hm⟩
    · obtain ⟨x1, b1, p1⟩ := dd_pos gu gv h1 c1 e1
      obtain ⟨x2, b2, p2⟩ := dd_pos gv gw h2 c2 e2
      have q := Btw.three gu.pos gv.pos gw.pos b1.bt b2.bt b3.bt
      have ef : ([d1, d2].filter fun x => decide (0 < x)) = [d1, d2] := by
        have t1 : (0 : Int) < d1 := by omega
        have t2 : (0 : Int) < d2 := by omega
        simp [t1, t2]
      rw [ef]
      refine ⟨by simp, fun m hm hle => ?_⟩
      have k1 := hle d1 (by simp)
      have k2 := hle d2 (by simp)
      have : m = d1 ∨ m = d2 := by simpa using hm
      omega
/-- the two slopes /1 and /2 -/
theorem gold_silver {a b a' b' : List Int} {x y : Int} (g : Good a b) (g' : Good a' b') (e : ∀ k, sq a b k = sq [] [1] k) (e' : ∀ k, sq a' b' k = sq [] [2] k) : ¬ (a = a' ∧ b = b') ∧ (BtwE a b a' b' x y → x = 1 ∧ y = 2) := by
  have v1 : sq [] [1] 0 = 1 := rfl
  have v2 : sq [] [2] 0 = 2 := rfl
  have ls : Less (sq a' b') (sq a b) 0 := ⟨fun k hk => by omega, by rw [if_pos rfl, e, e', v1, v2]; decide⟩
  have bt := btw_of g'.pos g.pos ls
  have ex : (min (sq a' b' 0) (sq a b 0) + 1) * pk (sq a' b') (0 + 1) + pk (sq a' b') 0 = 1 := by
    rw [e, e', v1, v2]
    rfl
  have ey : (min (sq a' b' 0) (sq a b 0) + 1) * qk (sq a' b') (0 + 1) + qk (sq a' b') 0 = 2 := by
    rw [e, e', v1, v2]
    rfl
  rw [ex, ey] at bt
  refine ⟨fun z => ?_, fun h => ?_⟩
  · have := e 0
    rw [z.1, z.2, e' 0, v1, v2] at this
    omega
  · exact Btw.uniq g.pos (btwE_gt g' g bt.lt h).bt bt
end Sw
set_option Elab.async false
set_option linter.all false
set_option maxRecDepth 100000
set_option maxHeartbeats 1000000
namespace Sw
open PySem PySem.Spec PyProof.Rows L2
variable {P : Program} {w : World} {K : PySem.W.Frag} {mg : Str → Option Value} {base : Heap}
/-! _law_right -/
/-- the line at L behind the heap H9: three slopes -/
structure LI (K : PySem.W.Frag) (H9 : Hp) (L : Addr) (u v w : Sl) (H' : Hp) : Prop where
  sm : Same H9 H'
  ln : H' L = some (.lst [.ref u.p, .ref v.p, .ref w.p])
  su : SlA K H9 u
  sv : SlA K H9 v
  sw : SlA K H9 w
def spRight : Sp := fun vs H Q _ => ∃ a : Addr, vs = [.ref a] ∧ PailAt H a ∧ ∀ H', KeepX a H H' → Q (.bl true) H'
theorem sc_right : FnScope ["_law_pail_here", "_law_turn", "_law_pair_here", "_law_other_pair", "_law_mine", "_law_mate", "_law_third", "_law_last", "_law_line", "_law_k", "_law_j", "_law_sizes", "_law_size"] ["_law_pail_here"] (defScope sLawRight) := ⟨rfl, rfl, rfl, by decide +kernel, rfl, by decide +kernel, by decide +kernel⟩
theorem d_right (T : Tx K mg) : Def P w K mg base 9 "_law_right" ["_law_pail_here"] spRight := by
  refine mkDef T 8 39 rfl T.g_law_right sc_right (fun _ _ _ _ _ _ us hl => match us, hl with | [_], _ => rfl) (fun vs H Q E h => ?_) (fun cdv A outer s H vs Q E hr h => ?_)
  · obtain ⟨a, rfl, _⟩ := h
    rfl
  · obtain ⟨a, rfl, hp, k⟩ := h
    have nd := sc_right.nd
    have hr1 : Room 1 _ := hr.mono (by decide)
    have hr3 : Room 3 _ := hr.mono (by decide)
    have hr4 : Room 4 _ := hr.mono (by decide)
    have hr5 : Room 5 _ := hr.mono (by decide)
    refine ⟨_, pss_cons (ps_for PassesOwn.never rfl (pi_range1 (by rfl) T.f_range (pa_cons pe_int pa_nil)) (pg_name (i := 1) nd rfl (.inl rfl))
        (pss_cons (ps_set (i := 2) nd rfl (.inl rfl) (pe_cal (d_pair T) hr3 (by rfl) (pa_cons (pv 0) pa_nil)))
        (C8.pss_cut (ps_set (i := 3) nd rfl (.inl rfl) (pe_ifExp (pt_cmpR op_gt (pe_cal (d_pull T) hr1 (by rfl) (pa_cons (pv 0) (pa_cons pe_int pa_nil))) pe_int (nomark _)) (pe_cal (d_beside T) hr4 (by rfl) (pa_cons (pv 0) (pa_cons (pv 2) pa_nil))) (pe_cal (d_pair T) hr3 (by rfl) (pa_cons (pv 0) pa_nil))))
        (pss_cons (ps_par (i := 4) (j := 5) (by rfl) nd rfl rfl (by decide) rfl rfl (pa_cons (pe_mkSlope T hr5 (by rfl) (pa_cons (pe_ix ix_tup (pv 2) pe_int (fun _ _ => rfl)) (pa_cons (pe_ix ix_tup (pv 2) pe_int (fun _ _ => rfl)) pa_nil))) (pa_cons (pe_mkSlope T hr5 (by rfl) (pa_cons (pe_ix ix_tup (pv 3) pe_int (fun _ _ => rfl)) (pa_cons (pe_ix ix_tup (pv 3) pe_int (fun _ _ => rfl)) pa_nil))) pa_nil)) (by rfl))
        (C8.pss_cut (ps_if (pt_cmpR (op_slopeEq T hr1) (pv 4) (pv 5) (nomark _))
            (pss_one (ps_if (pt_cmpR op_notN (pe_cal (d_lb T) hr4 (by rfl) (pa_cons (pv 4) (pa_cons (pv 5) pa_nil))) pe_non (nomark _)) (pss_one (ps_ret pe_bl)) pss_nil))
            (pss_one (ps_if (pt_val (pe_cal (d_is_below T) hr3 (by rfl) (pa_cons (pv 4) (pa_cons (pv 5) pa_nil))))
              (pss_one (ps_if (pt_not (pt_val (pe_cal (d_br T) hr (by rfl) (pa_cons (pv 4) (pa_cons (pv 5) (pa_cons (pv 2) (pa_cons (pv 3) pa_nil))))))) (pss_one (ps_ret pe_bl)) pss_nil))
              (pss_one (ps_if (pt_not (pt_val (pe_cal (d_br T) hr (by rfl) (pa_cons (pv 5) (pa_cons (pv 4) (pa_cons (pv 3) (pa_cons (pv 2) pa_nil))))))) (pss_one (ps_ret pe_bl)) pss_nil)))))
        (pss_cons (ps_set (i := 6) nd rfl (.inl rfl) (pe_cal (d_pair T) hr3 (by rfl) (pa_cons (pv 0) pa_nil)))
        (pss_cons (ps_set (i := 7) nd rfl (.inl rfl) (pe_mkSlope T hr5 (by rfl) (pa_cons (pe_ix ix_tup (pv 6) pe_int (fun _ _ => rfl)) (pa_cons (pe_ix ix_tup (pv 6) pe_int (fun _ _ => rfl)) pa_nil))))
        (pss_cons (ps_set (i := 8) nd rfl (.inl rfl) (pe_lst (pa_cons (pv 4) (pa_cons (pv 5) (pa_cons (pv 7) pa_nil)))))
        (pss_cons (ps_for PassesOwn.never rfl (pi_range1 (by rfl) T.f_range (pa_cons pe_int pa_nil)) (pg_name (i := 9) nd rfl (.inl rfl))
          (pss_one (ps_for PassesOwn.never rfl (pi_range1 (by rfl) T.f_range (pa_cons pe_int pa_nil)) (pg_name (i := 10) nd rfl (.inl rfl))
            (pss_one (ps_if (pt_val (pe_cal (d_is_below T) hr3 (by rfl) (pa_cons (pe_ix ix_list (pv 8) (pe_op op_add (pv 10) pe_int) (fun _ _ => rfl)) (pa_cons (pe_ix ix_list (pv 8) (pv 10) (fun _ _ => rfl)) pa_nil))))
              (pss_one (ps_asg (pe_tup (pa_cons (pe_ix ix_list (pv 8) (pe_op op_add (pv 10) pe_int) (fun _ _ => rfl)) (pa_cons (pe_ix ix_list (pv 8) (pv 10) (fun _ _ => rfl)) pa_nil))) (pg_tup rfl (pgs_cons (pg_sub (pv 8) (pv 10) set_list) (pgs_cons (pg_sub (pv 8) (pe_op op_add (pv 10) pe_int) set_list) pgs_nil))))) pss_nil)))))
        (pss_cons (ps_set (i := 11) nd rfl (.inl rfl) (pe_lst (pa_cons (pe_cal (d_least2 T) hr5 (by rfl) (pa_cons (pe_ix ix_list (pv 8) pe_int (fun _ _ => rfl)) (pa_cons (pe_ix ix_list (pv 8) pe_int (fun _ _ => rfl)) pa_nil))) (pa_cons (pe_cal (d_least2 T) hr5 (by rfl) (pa_cons (pe_ix ix_list (pv 8) pe_int (fun _ _ => rfl)) (pa_cons (pe_ix ix_list (pv 8) pe_int (fun _ _ => rfl)) pa_nil))) (pa_cons (pe_cal (d_least2 T) hr5 (by rfl) (pa_cons (pe_ix ix_list (pv 8) pe_int (fun _ _ => rfl)) (pa_cons (pe_ix ix_list (pv 8) pe_int (fun _ _ => rfl)) pa_nil))) pa_nil)))))
        (pss_one (ps_if (PW.pt (pw_and (pt_cmpR op_ne (pe_ix ix_list (pv 11) pe_int (fun _ _ => rfl)) pe_int (nomark _)) (pw_and1 (pt_cmpR op_ne (pe_callB (cr_min rfl) (by rfl) T.f_min boot_min (pa_cons (pe_lc (own := [("_law_size", 12)]) (g := gName 12) rfl nd (pi_list (pe_slice sl_list (pv 11) po_none (po_some pe_int))) (blkOk_by (own := [("_law_size", 12)]) (N := ["_law_pail_here", "_law_turn", "_law_pair_here", "_law_other_pair", "_law_mine", "_law_mate", "_law_third", "_law_last", "_law_line", "_law_k", "_law_j", "_law_sizes", "_law_size"]) (sc := defScope sLawRight) (by decide +kernel)) (fun _ _ _ _ _ => pg_name (i := 12) nd rfl (Or.inl rfl)) (fun _ _ _ _ _ => pts_one (pt_cmpR op_gt (pv 12) pe_int (nomark _))) (fun _ _ _ _ _ => pv 12)) pa_nil)) (pe_ix ix_list (pv 11) pe_int (fun _ _ => rfl)) (nomark _))))) (pss_one (ps_ret pe_bl)) pss_nil))))))))))))
      (pss_one (ps_ret (pe_cmpR (op_eqD hr.units) (pe_cal (d_lb T) hr4 (by rfl) (pa_cons (pe_mkSlope T hr5 (by rfl) (pa_cons (pe_tup pa_nil) (pa_cons (pe_tup (pa_cons pe_int pa_nil)) pa_nil))) (pa_cons (pe_mkSlope T hr5 (by rfl) (pa_cons (pe_tup pa_nil) (pa_cons (pe_tup (pa_cons pe_int pa_nil)) pa_nil))) pa_nil))) (pe_tup (pa_cons pe_int (pa_cons pe_int pa_nil))) (nomark _)))), ?_⟩
    refine ⟨3, rfl, by decide, by decide, for_range (lo := 0) (n := 3) (fun i σ H' => (∃ x1 x2 x3 x4 x5 x6 x7 x8 x9 x10 x11 x12 : Option V, σ = [some (.ref a), x1, x2, x3, x4, x5, x6, x7, x8, x9, x10, x11, x12]) ∧ KeepX a H H' ∧ PailAt H' a) ⟨⟨none, none, none, none, none, none, none, none, none, none, none, none, rfl⟩, KeepX.refl, hp⟩ ?_ ?_⟩
    · rintro i σ H1 hi ⟨⟨x1, x2, x3, x4, x5, x6, x7, x8, x9, x10, x11, x12, rfl⟩, k1, p1⟩
      refine ⟨_, rfl, a, rfl, p1, fun H2 q2 la lb k2 p2 pr2 pla plb l3 m1 m4 => ?_⟩
      have neb : lb ≠ [] := fun z => by rw [z] at m1; exact absurd m1 (by decide)
      refine ⟨fun σ' H3 => ∃ q3 la' lb', σ' = [some (.ref a), some (.int (0 + ((i : Nat) : Int))), some (.ref q2), some (.ref q3), x4, x5, x6, x7, x8, x9, x10, x11, x12] ∧ KeepX a H2 H3 ∧ PailAt H3 a ∧ PairAt K H3 q3 la' lb' ∧ Parts la' ∧ Parts lb' ∧ la'.length ≤ 6 ∧ 1 ≤ lb'.length ∧ lb'.length ≤ 4, ?_, ?_⟩
      · refine ⟨_, rfl, a, 3, rfl, p2, by decide, by decide, fun H3 r k3 p3 r0 r3 => ?_⟩
        refine ⟨_, _, rfl, rfl, _, rfl, ?_⟩
        refine ite2 (fun _ => ?_) (fun _ => ?_)
        · refine ⟨_, rfl, _, rfl, a, q2, la, lb, rfl, p3, pair_x p2 k3 pr2, neb, pla, plb, fun H4 q3 la' lb' k4 p4 pr4 pla' plb' l6 m1' m4' => ?_⟩
          exact ⟨q3, la', lb', rfl, k3.trans k4, p4, pr4, pla', plb', l6, m1', m4'⟩
        · refine ⟨_, rfl, a, rfl, p3, fun H4 q3 la' lb' k4 p4 pr4 pla' plb' l3' m1' m4' => ?_⟩
          exact ⟨q3, la', lb', rfl, k3.trans k4, p4, pr4, pla', plb', by omega, m1', m4'⟩
      rintro σ' H3 ⟨q3, la', lb', rfl, k3, p3, pr3, pla', plb', l6', m1', m4'⟩
      have neb' : lb' ≠ [] := fun z => by rw [z] at m1'; exact absurd m1' (by decide)
      have pr2' := pair_x p2 k3 pr2
      obtain ⟨l2, r2, a2, b2, c2⟩ := id pr2'
      obtain ⟨l4, r4, a4, b4, c4⟩ := id pr3
      refine ⟨_, rfl, q2, _, _, _, rfl, rfl, a2, atI_nat (j := 0) rfl, _, rfl, q2, _, _, _, rfl, rfl, a2, atI_nat (j := 1) rfl, fun u du nu ndu _ => mk_read b2 c2 pla plb neb (by omega) m4 nu ndu (fun H5 ua ub s5 su gu eu => ⟨rfl, ?_⟩)⟩
      refine ⟨_, rfl, q3, _, _, _, rfl, rfl, SqT.ext a4 s5, atI_nat (j := 0) rfl, _, rfl, q3, _, _, _, rfl, rfl, SqT.ext a4 s5, atI_nat (j := 1) rfl, fun v dv nv ndv _ => mk_read (SqT.ext b4 s5) (SqT.ext c4 s5) pla' plb' neb' l6' m4' nv ndv (fun H6 va vb s6 sv gv ev => ⟨rfl, ?_⟩)⟩
      refine ⟨_, _, rfl, ?_⟩
      have su6 := su.ext s6
      have s56 := s5.trans s6
      have pr26 := pr2'.ext s56
      have pr36 := pr3.ext s56
      obtain ⟨dx, fs, iu⟩ := su6.ins
      obtain ⟨dy, gs, iv⟩ := sv.ins
      refine ⟨fun σ' H7 => σ' = [some (.ref a), some (.int (0 + ((i : Nat) : Int))), some (.ref q2), some (.ref q3), some (.ref u), some (.ref v), x6, x7, x8, x9, x10, x11, x12] ∧ Same H6 H7, ?_, ?_⟩
      · refine ⟨_, rfl, _, rfl, u, v, dx, dy, fs, gs, rfl, rfl, iu, iv, u, v, ua, ub, va, vb, rfl, su6, sv, ⟨_, rfl⟩, _, rfl, ?_⟩
        by_cases c : ua = va ∧ ub = vb
        · refine iteTk (decide_eq_true c) ?_
          refine ⟨_, rfl, _, rfl, u, v, ua, ub, va, vb, rfl, su6, sv, gu, gv, fun _ => ?_, fun z => absurd c z⟩
          exact ⟨rfl, _, rfl, iteFk rfl ⟨rfl, Same.refl _⟩⟩
        · refine iteFk (decide_eq_false c) ?_
          refine ⟨_, rfl, _, rfl, u, v, ua, ub, va, vb, rfl, su6, sv, gu, gv, fun r hr => ⟨r, rfl, ?_⟩⟩
          cases r with
          | true =>
            have lt := (hr.yes rfl).2
            exact iteT ⟨_, rfl, _, rfl, _, rfl, _, rfl, u, v, q2, q3, ua, ub, va, vb, la, lb, la', lb', rfl, su6, sv, gu, gv, c, lt, pr26, pr36, pla, plb, neb, pla', plb', neb', fun j => (eu j).symm, fun j => (ev j).symm, fun H7 s7 => ⟨true, rfl, iteF ⟨rfl, s7⟩⟩⟩
          | false =>
            have lt : SLt (sq va vb) (sq ua ub) := by
              rcases hr.no rfl with z | z
              · exact absurd z c
              · exact z.2
            exact iteF ⟨_, rfl, _, rfl, _, rfl, _, rfl, v, u, q3, q2, va, vb, ua, ub, la', lb', la, lb, rfl, sv, su6, gv, gu, fun z => c ⟨z.1.symm, z.2.symm⟩, lt, pr36, pr26, pla', plb', neb', pla, plb, neb, fun j => (ev j).symm, fun j => (eu j).symm, fun H7 s7 => ⟨true, rfl, iteF ⟨rfl, s7⟩⟩⟩
      rintro σ' H7 ⟨rfl, s7⟩
      have p7 : PailAt H7 a := (p3.ext s56).ext s7
      refine ⟨_, rfl, a, rfl, p7, fun H8 q8 lc ld k8 p8 pr8 plc pld l8 m8 m84 => ?_⟩
      have ned : ld ≠ [] := fun z => by rw [z] at m8; exact absurd m8 (by decide)
      have su8 := slope_x p7 k8 (su6.ext s7)
      have sv8 := slope_x p7 k8 (sv.ext s7)
      obtain ⟨l9, r9, a9, b9, c9⟩ := id pr8
      refine ⟨_, rfl, q8, _, _, _, rfl, rfl, a9, atI_nat (j := 0) rfl, _, rfl, q8, _, _, _, rfl, rfl, a9, atI_nat (j := 1) rfl, fun w' dw nw ndw _ => mk_read b9 c9 plc pld ned (by omega) m84 nw ndw (fun H9 wa wb s9 sw gw ew => ⟨rfl, ?_⟩)⟩
      refine ⟨_, rfl, _, rfl, _, rfl, by show 3 ≤ sizeLine; decide, fun L nL => ?_⟩
      have S0 : SlA K H9 ⟨u, ua, ub⟩ := ⟨su8.ext s9, gu⟩
      have S1 : SlA K H9 ⟨v, va, vb⟩ := ⟨sv8.ext s9, gv⟩
      have S2 : SlA K H9 ⟨w', wa, wb⟩ := ⟨sw, gw⟩
      have k09 : KeepX a H H9 := ((((k1.trans k2).trans k3).trans (KeepX.of (s56.trans s7))).trans k8).trans (KeepX.of s9)
      have p9 : PailAt H9 a := p8.ext s9
      refine ⟨2, rfl, by decide, by decide, for_range (lo := 0) (n := 2) (fun k' σ' H' => ∃ (y9 y10 : Option V) (e f g : Sl), σ' = [some (.ref a), some (.int (0 + ((i : Nat) : Int))), some (.ref q2), some (.ref q3), some (.ref u), some (.ref v), some (.ref q8), some (.ref w'), some (.ref L), y9, y10, x11, x12] ∧ LI K H9 L e f g H' ∧ Out k' e f g)
        ⟨x9, x10, ⟨u, ua, ub⟩, ⟨v, va, vb⟩, ⟨w', wa, wb⟩, rfl, ⟨same_new nL, upd_same, S0, S1, S2⟩, fun z => by omega, fun z => by omega⟩ ?_ ?_⟩
      · rintro k' σ' H' hk ⟨y9, y10, e, f, g, rfl, li, oo⟩
        refine ⟨2, rfl, by decide, by decide, for_range (lo := 0) (n := 2) (fun j' σ' H' => ∃ (y10 : Option V) (e f g : Sl), σ' = [some (.ref a), some (.int (0 + ((i : Nat) : Int))), some (.ref q2), some (.ref q3), some (.ref u), some (.ref v), some (.ref q8), some (.ref w'), some (.ref L), some (.int (0 + ((k' : Nat) : Int))), y10, x11, x12] ∧ LI K H9 L e f g H' ∧ Ord k' j' e f g)
          ⟨y10, e, f, g, rfl, li, out_in oo⟩ ?_ ?_⟩
        · rintro j' σ' H'' hj ⟨y10, e, f, g, rfl, ⟨sb, hL, se, sf, sg⟩, oo⟩
          have hj2 : j' = 0 ∨ j' = 1 := by omega
          rcases hj2 with rfl | rfl
          · refine ⟨_, rfl, _, rfl, _, _, rfl, rfl, L, _, _, _, rfl, rfl, SqL.of hL, at_of (j := 1) (by rfl) rfl, _, rfl, _, rfl, L, _, _, _, rfl, rfl, SqL.of hL, at_of (j := 0) (by rfl) rfl, f.p, e.p, f.a, f.b, e.a, e.b, rfl, sf.1.ext sb, se.1.ext sb, sf.2, se.2, fun r hr => ⟨r, rfl, ?_⟩⟩
            cases r with
            | false =>
              have le : Le e f := by
                rcases hr.no rfl with z | z
                · exact .inl ⟨z.1.symm, z.2.symm⟩
                · exact .inr z.2
              exact iteF ⟨_, e, f, g, rfl, ⟨sb, hL, se, sf, sg⟩, ord0_no oo le⟩
            | true =>
              have le : Le f e := .inr (hr.yes rfl).2
              refine iteT ⟨_, rfl, _, rfl, _, _, rfl, rfl, L, _, _, _, rfl, rfl, SqL.of hL, at_of (j := 1) (by rfl) rfl, _, rfl, _, rfl, L, _, _, _, rfl, rfl, SqL.of hL, at_of (j := 0) (by rfl) rfl, by show 2 ≤ sizeLine; decide, fun t nt => ?_⟩
              refine ⟨t, _, rfl, SqT.of upd_same, rfl, _, _, rfl, _, rfl, _, rfl, L, _, _, 0, rfl, rfl, same_new nt _ _ hL, rfl, _, _, rfl, _, rfl, _, rfl, _, _, rfl, rfl, L, _, _, 1, rfl, rfl, upd_same, rfl, rfl, ?_⟩
              exact ⟨_, f, e, g, rfl, ⟨same_lst nL (same_lst nL (sb.trans (same_new nt))), upd_same, sf, se, sg⟩, ord0_yes oo le⟩
          · refine ⟨_, rfl, _, rfl, _, _, rfl, rfl, L, _, _, _, rfl, rfl, SqL.of hL, at_of (j := 2) (by rfl) rfl, _, rfl, _, rfl, L, _, _, _, rfl, rfl, SqL.of hL, at_of (j := 1) (by rfl) rfl, g.p, f.p, g.a, g.b, f.a, f.b, rfl, sg.1.ext sb, sf.1.ext sb, sg.2, sf.2, fun r hr => ⟨r, rfl, ?_⟩⟩
            cases r with
            | false =>
              have le : Le f g := by
                rcases hr.no rfl with z | z
                · exact .inl ⟨z.1.symm, z.2.symm⟩
                · exact .inr z.2
              exact iteF ⟨_, e, f, g, rfl, ⟨sb, hL, se, sf, sg⟩, ord1_no se.2 sf.2 sg.2 oo le⟩
            | true =>
              have le : Le g f := .inr (hr.yes rfl).2
              refine iteT ⟨_, rfl, _, rfl, _, _, rfl, rfl, L, _, _, _, rfl, rfl, SqL.of hL, at_of (j := 2) (by rfl) rfl, _, rfl, _, rfl, L, _, _, _, rfl, rfl, SqL.of hL, at_of (j := 1) (by rfl) rfl, by show 2 ≤ sizeLine; decide, fun t nt => ?_⟩
              refine ⟨t, _, rfl, SqT.of upd_same, rfl, _, _, rfl, _, rfl, _, rfl, L, _, _, 1, rfl, rfl, same_new nt _ _ hL, rfl, _, _, rfl, _, rfl, _, rfl, _, _, rfl, rfl, L, _, _, 2, rfl, rfl, upd_same, rfl, rfl, ?_⟩
              exact ⟨_, e, g, f, rfl, ⟨same_lst nL (same_lst nL (sb.trans (same_new nt))), upd_same, se, sg, sf⟩, ord1_yes oo le⟩
        · rintro σ' H'' ⟨y10, e, f, g, rfl, li, oo⟩
          exact ⟨_, y10, e, f, g, rfl, li, in_out oo⟩
      rintro σ' H10 ⟨y9, y10, e, f, g, rfl, ⟨sb, hL, se, sf, sg⟩, oo⟩
      obtain ⟨hfg, heg⟩ := oo.1 (by decide)
      have hef := oo.2 (by decide)
      have E0 : SlA K H10 e := ⟨se.1.ext sb, se.2⟩
      have F0 : SlA K H10 f := ⟨sf.1.ext sb, sf.2⟩
      have G0 : SlA K H10 g := ⟨sg.1.ext sb, sg.2⟩
      refine ⟨_, rfl, L, _, _, _, rfl, rfl, SqL.of hL, atI_nat (j := 0) rfl, _, rfl, L, _, _, _, rfl, rfl, SqL.of hL, atI_nat (j := 1) rfl, e, f, rfl, E0, F0, fun H11 d1 s11 dd1 => ?_⟩
      refine ⟨_, rfl, L, _, _, _, rfl, rfl, SqL.of (s11 _ _ hL), atI_nat (j := 1) rfl, _, rfl, L, _, _, _, rfl, rfl, SqL.of (s11 _ _ hL), atI_nat (j := 2) rfl, f, g, rfl, ⟨F0.1.ext s11, F0.2⟩, ⟨G0.1.ext s11, G0.2⟩, fun H12 d2 s12 dd2 => ?_⟩
      have s1012 := s11.trans s12
      refine ⟨_, rfl, L, _, _, _, rfl, rfl, SqL.of (s1012 _ _ hL), atI_nat (j := 0) rfl, _, rfl, L, _, _, _, rfl, rfl, SqL.of (s1012 _ _ hL), atI_nat (j := 2) rfl, e, g, rfl, ⟨E0.1.ext s1012, E0.2⟩, ⟨G0.1.ext s1012, G0.2⟩, fun H13 d3 s13 dd3 => ?_⟩
      have s1013 := s1012.trans s13
      refine ⟨by show 3 ≤ sizeLine; decide, fun Z nZ => ?_⟩
      have s14 : Same H13 (upd H13 Z (.lst [.int d1, .int d2, .int d3])) := same_new nZ
      have hZ : (upd H13 Z (.lst [.int d1, .int d2, .int d3])) Z = some (.lst [.int d1, .int d2, .int d3]) := upd_same
      have k014 : KeepX a H (upd H13 Z (.lst [.int d1, .int d2, .int d3])) := k09.trans (KeepX.of ((sb.trans s1013).trans s14))
      have p14 : PailAt (upd H13 Z (.lst [.int d1, .int d2, .int d3])) a := p9.ext ((sb.trans s1013).trans s14)
      refine ⟨_, rfl, Z, _, _, _, rfl, rfl, SqL.of hZ, atI_nat (j := 2) rfl, rfl, _, rfl, ?_⟩
      by_cases c : d3 = 0
      · refine iteFk (by rw [veq c]; rfl) ?_
        refine iteF ?_
        exact ⟨⟨_, _, _, _, _, _, _, _, _, _, _, _, rfl⟩, k014, p14⟩
      · refine iteTk (by rw [vne c]; rfl) ?_
        have dm := dmin se.2 sf.2 sg.2 hef hfg heg dd1 dd2 dd3 c
        refine ⟨_, rfl, 2, rfl, Z, _, rfl, SqL.of hZ, fun Z2 nZ2 => ?_⟩
        have ec : cutV [V.int d1, V.int d2, V.int d3] none (some 2) = [d1, d2].map V.int := rfl
        have s15 : Same _ (upd (upd H13 Z (.lst [.int d1, .int d2, .int d3])) Z2 (.lst (cutV [V.int d1, V.int d2, V.int d3] none (some 2)))) := same_new nZ2
        refine ⟨Z2, rfl, ⟨_, SqL.of upd_same⟩, fun D nD => lc_list (K := K) (a := Z2) (xs := cutV [V.int d1, V.int d2, V.int d3] none (some 2))
          (fun j H' => Same (upd (upd H13 Z (.lst [.int d1, .int d2, .int d3])) Z2 (.lst (cutV [V.int d1, V.int d2, V.int d3] none (some 2)))) H' ∧ H' D = some (.lst ((([d1, d2].take j).filter fun x => decide (0 < x)).map V.int)))
          ⟨same_new nD, upd_same⟩ (fun j H' _ ⟨s, _⟩ => SqL.of (s _ _ upd_same)) ?_ ?_⟩
        · rintro j y H' hj ⟨s, hD⟩
          rw [ec] at hj
          obtain ⟨n, hn, rfl⟩ := map_at hj
          have hjl := (List.getElem?_eq_some_iff.mp hn).1
          have hjl : j < 2 := hjl
          refine ⟨rfl, _, rfl, _, _, rfl, rfl, _, rfl, ?_⟩
          by_cases c2 : 0 < n
          · refine iteTk (decide_eq_true c2) ?_
            refine ⟨_, rfl, _, hD, ?_, same_lst nD s, ?_⟩
            · rw [List.length_map]
              refine Nat.lt_of_le_of_lt (List.length_filter_le _ _) ?_
              rw [List.length_take]
              exact small1000 (by show min j 2 ≤ 1000; omega)
            · rw [upd_same, List.take_add_one, hn, List.filter_append, List.map_append]
              simp [c2]
          · refine iteFk (decide_eq_false c2) ?_
            refine ⟨s, ?_⟩
            rw [hD, List.take_add_one, hn, List.filter_append, List.map_append]
            simp [c2]
        · rintro H' ⟨s, hD⟩
          have hD2 : H' D = some (.lst ((([d1, d2].filter fun x => decide (0 < x))).map V.int)) := hD
          have s016 := s15.trans s
          refine ⟨D, _, rfl, SqL.of hD2, List.length_pos_iff.mpr dm.1, fun m hm hle => ?_⟩
          have em := dm.2 m hm hle
          refine ⟨_, rfl, Z, _, _, _, rfl, rfl, SqL.of (s016 _ _ hZ), atI_nat (j := 2) rfl, rfl, _, rfl, ?_⟩
          refine iteFk (by rw [veq em]; rfl) ?_
          exact ⟨⟨_, _, _, _, _, _, _, _, _, _, _, _, rfl⟩, k014.trans (KeepX.of s016), p14.ext s016⟩
    · rintro σ H1 ⟨⟨x1, x2, x3, x4, x5, x6, x7, x8, x9, x10, x11, x12, rfl⟩, k1, p1⟩
      refine ⟨Nat.zero_le _, fun e1 n1 => ⟨by show 1 ≤ sizeLine; decide, fun e2 n2 => ?_⟩⟩
      have s2 : Same H1 (upd H1 e1 (.tup [])) := same_new n1
      have s3 := s2.trans (same_new (o := .tup [.int 1]) n2)
      intro u du nu ndu _
      refine mk_read (l := e1) (r := e2) (la := []) (lb := [1]) (SqT.ext (SqT.of upd_same) (same_new n2)) (SqT.of upd_same) (fun x hx => by cases hx) (parts_by (by decide)) (by decide) (by decide) (by decide) nu ndu (fun H4 ua ub s4 su gu eu => ⟨rfl, ?_⟩)
      refine ⟨Nat.zero_le _, fun e3 n3 => ⟨by show 1 ≤ sizeLine; decide, fun e4 n4 => ?_⟩⟩
      have s5 : Same H4 (upd H4 e3 (.tup [])) := same_new n3
      have s6 := s5.trans (same_new (o := .tup [.int 2]) n4)
      intro v dv nv ndv _
      refine mk_read (l := e3) (r := e4) (la := []) (lb := [2]) (SqT.ext (SqT.of upd_same) (same_new n4)) (SqT.of upd_same) (fun x hx => by cases hx) (parts_by (by decide)) (by decide) (by decide) (by decide) nv ndv (fun H7 va vb s7 sv gv ev => ⟨rfl, ?_⟩)
      obtain ⟨ne, fin⟩ := gold_silver (x := 0) (y := 0) gu gv eu ev
      refine ⟨u, v, ua, ub, va, vb, rfl, su.ext (s6.trans s7), sv, gu, gv, fun z => absurd z ne, fun _ H8 t x y s8 ht bt => ?_⟩
      obtain ⟨ex, ey⟩ := (gold_silver gu gv eu ev).2 bt
      subst ex ey
      refine ⟨by show 2 ≤ sizeLine; decide, fun t2 n2' => ?_⟩
      have s9 : Same H8 (upd H8 t2 (.tup [.int 1, .int 2])) := same_new n2'
      refine ⟨DT [1, 2], DT [1, 2], dp_IT (SqT.ext ht s9), dp_IT (SqT.of upd_same), sh_DT _, sh_DT _, ?_⟩
      show Q (.bl (PyData.eqv (DT [1, 2]) (DT [1, 2]))) _
      rw [eqv_DT, decide_eq_true rfl]
      exact k _ (k1.trans (KeepX.of (((((s3.trans s4).trans s6).trans s7).trans s8).trans s9)))
end Sw
set_option Elab.async false
set_option linter.all false
set_option maxRecDepth 100000
set_option maxHeartbeats 1000000
namespace Sw
open PySem PySem.Spec PyProof.Rows L2
variable {P : Program} {w : World} {K : PySem.W.Frag} {mg : Str → Option Value} {base : Heap}
/-! law -/
def spLaw (K : PySem.W.Frag) : Sp := fun vs H Q _ => ∃ (c : Addr) (ns : List Int), vs = [.ref c] ∧ SqL K H c (ns.map V.int) ∧ ns.length ≤ 63 ∧ ∀ H', Q (.bl true) H'
theorem sc_law : FnScope ["_law_cells", "_law_k"] ["_law_cells"] (defScope sLaw) := ⟨rfl, rfl, rfl, by decide +kernel, rfl, by decide +kernel, by decide +kernel⟩
theorem law_ok (T : Tx K mg) {fd : FuncData} (F : FunD K "law" "law" (defArgs sLaw) (defBody sLaw) (defScope sLaw) [] [] (He.ga K "law") fd) : FnOk P w K mg base CX0 10 (He.ga K "law") fd ["_law_cells"] (spLaw K) := by
  refine funD_okN F sc_law (fun vs H Q E h => ?_) (fun cdv A outer s H vs Q E hr h => ?_)
  · obtain ⟨c, ns, rfl, _⟩ := h
    rfl
  · obtain ⟨c, ns, rfl, hS, hlen, k⟩ := h
    have nd := sc_law.nd
    refine ⟨_, pss_cons (ps_for PassesOwn.never rfl (pi_range1 (by rfl) T.f_range (pa_cons (pe_callB (call_max2 rfl) (by rfl) T.f_max boot_max (pa_cons pe_int (pa_cons (pe_callB (call_min2 rfl) (by rfl) T.f_min boot_min (pa_cons (pe_callB call_len_seq (by rfl) T.f_len PySem.boot_len (pa_cons (pv 0) pa_nil)) (pa_cons pe_int pa_nil))) pa_nil))) pa_nil)) (pg_name (i := 1) nd rfl (.inl rfl))
        (pss_one (ps_if (pt_not (pt_val (pe_cal (d_right T) hr (by rfl) (pa_cons (pe_cal (d_pail T) (hr.mono (by decide)) (by rfl) (pa_cons (pv 0) (pa_cons (pv 1) pa_nil))) pa_nil)))) (pss_one (ps_ret pe_bl)) pss_nil)))
      (pss_one (ps_ret pe_bl)), ?_⟩
    refine ⟨_, rfl, c, _, rfl, .inl hS, _, _, rfl, _, _, rfl, _, rfl, ?_, ?_, for_range (lo := 0) (fun i σ H' => ∃ x1, σ = [some (.ref c), x1] ∧ Same H H') ⟨none, rfl, Same.refl H⟩ ?_ ?_⟩
    · rw [List.length_map]
      split <;> split <;> omega
    · rw [List.length_map]
      split <;> split <;> omega
    · rintro i σ H1 hi ⟨x1, rfl, s1⟩
      refine ⟨_, rfl, _, rfl, c, ns, i, (by rw [Int.zero_add]; rfl), s1.seq hS, fun H2 a s2 p2 n2 => ?_⟩
      refine ⟨a, rfl, p2, fun H3 k3 => ⟨true, rfl, iteF ⟨_, rfl, fun b o e => ?_⟩⟩⟩
      have e1 := s1 _ _ e
      exact k3 _ _ (s2 _ _ e1) (ne_of_none e1 n2)
    · rintro σ H1 ⟨x1, rfl, s1⟩
      exact k _
end Sw
set_option Elab.async false
set_option linter.all false
set_option maxRecDepth 100000
set_option maxHeartbeats 0
namespace Sw
open PySem PySem.Spec PyProof.Rows L2
def nm0 : List PySem.Str := ["_wall", "WrongValue", "InvalidText", "InvalidNumber", "InvalidPoint", "NotASlope", "InvalidLead", "InvalidLoop", "DIGITS", "is_integer", "is_between", "number_in"]
def nm1 : List PySem.Str := ["integer_in", "MOST_PART", "MOST_LEAD", "MOST_LOOP", "MOST_NUMBER", "MOST_PARTS", "check_lead", "check_loop", "shortest_loop", "shortest", "listed", "numbers_in"]
def nm2 : List PySem.Str := ["Slope", "check_slope", "check_many", "part_at", "neighbours_past", "is_point", "check_point", "multiple_at", "whole_at", "sign_at", "less_slope", "whole_part"]
def nm3 : List PySem.Str := ["sign_of", "check_pair", "is_below", "check_bound", "side_of", "below_to", "above_to", "between_two", "neighbours_of_path", "greatest_below", "least_above", "least_between"]
def nm4 : List PySem.Str := ["_law_pail", "_law_pull", "_law_one_of", "_law_pair", "_law_at", "_law_near", "_law_whole", "_law_beside", "_law_between_right", "_law_least", "_law_right", "__name__"]
def names : List PySem.Str := nm0 ++ nm1 ++ nm2 ++ nm3 ++ nm4
abbrev R : PySem.W.OpenRow := PySem.W.OpenLaw.row PySem.Challenge.rw_slopeworld_k12_whole_fractions_between
/-- what isinstance asks of the class -/
def ex (K : PySem.W.Frag) : Bool := He.eqO (PySem.W.findIn K (.ref (He.ga K "Slope")) "__class__") (some (some (.builtin "object.__class__"))) && (He.eqO (PySem.W.specialIn K (.builtin "object.__class__") "__get__") (some (some (.builtin "getset_descriptor.__get__")))
  && (decide (PySem.W.takesIn K (.builtin "object.__class__") = some true) && decide (PySem.W.mroIn K (He.ga K "Slope") (.type "object") = some true)))
abbrev AlY : Type := He.AlD × Bool
def obsY (n : Nat) (g : Addr → Option Obj) : AlY := (He.obsD fas fns (He.frG g (He.asD g n)), ex (He.frG g (He.asD g n)))
def hookY (n : Nat) : PySem.W.Hook where
  α := AlY
  obs := fun s => obsY n s.heap.get?
  val := fun _ => (He.valD fns, true)
  says := fun _ h => ∃ K : PySem.W.Frag, K.In h ∧ He.SaysD fas fns K ∧ ex K = true
  of := fun _ _ e => ⟨_, He.frG_in, congrArg (fun z : AlY => z.1) e, congrArg (fun z : AlY => z.2) e⟩
  keeps := fun _ _ _ ⟨K, hK, c⟩ k => ⟨K, PySem.W.Frag.In.keeps hK k, c⟩
abbrev hk : PySem.W.Hook := hookY 5
def ob (s : PySem.W.SharedT) : AlY := obsY 5 (HandSHeadRun.getT s)
theorem ob_eq (s : PySem.W.SharedT) : ob s = hk.obs s.abs := by
  show obsY 5 (HandSHeadRun.getT s) = obsY 5 s.abs.heap.get?
  rw [show HandSHeadRun.getT s = s.abs.heap.get? from funext fun a => HandSHeadRun.getT_eq s a]
theorem run (w : World) : HandSHeadRun.RunEq R (PySem.W.view R.prog [65]) hk ob 6000 names w := by
  intro os
  kernel_rfl
end Sw
set_option Elab.async false
set_option linter.all false
set_option maxRecDepth 100000
set_option maxHeartbeats 0
namespace Sw
open PySem PySem.Spec PyProof.Rows L2
theorem tx_of {K : PySem.W.Frag} {h : Heap} {mg : Str → Option Value} (X : K.In h) (G : h.Ns mainGlobals mg) (c : He.SaysD fas fns K) (cx : ex K = true) : Tx K mg := by
  have x1 := He.ba cx
  have x2 := He.ba x1.2
  have x3 := He.ba x2.2
  have cl : Cls K (He.ga K "Slope") := He.cls_ok (c.fact 59 rfl)
  exact { gl := fun i x e => He.glo_ok X G (c.fact i e), fr := fun i x e => He.free_ok X G (c.fact i e), it := fun i x n e => He.int_ok X G (c.fact i e), fn := fun i d e => c.def_ i e, cl := cl,
          nH := He.noat_ok (c.fact 60 rfl), nW := He.noat_ok (c.fact 61 rfl), mkr := He.mkr_ok (c.fact 62 rfl), me := He.meth_ok (c.fact 63 rfl),
          isC := ⟨cl, He.eqO_ok x1.1, He.eqO_ok x2.1, of_decide_eq_true x3.1, of_decide_eq_true x3.2, by unfold PySem.W.kitOne; rw [if_pos (beq_self_eq_true _)]⟩ }
theorem facts {P : Program} {w : World} {K : PySem.W.Frag} {h : Heap} {mg : Str → Option Value} {f : Addr} (X : K.In h) (G : h.Ns mainGlobals mg) (hfa : mg ("law" : Str) = some (.ref f)) (c : He.SaysD fas fns K) (cx : ex K = true) :
    ∃ fd : FuncData, (∀ (s : Shared) (v : Value), BindsTo s fd ⟨[v], []⟩ [("_law_cells", v)]) ∧ ∀ base : Heap, K.In base → base.Ns mainGlobals mg → FnOk P w K mg base CX0 10 f fd ["_law_cells"] (spLaw K) := by
  have T := tx_of X G c cx
  obtain ⟨fd, F⟩ := T.fn 40 _ rfl
  have F' : FunD K "law" "law" (defArgs sLaw) (defBody sLaw) (defScope sLaw) [] [] (He.ga K "law") fd := F
  have e := hfa.symm.trans T.g_law
  cases e
  have b := FunD.bindsA (ps := ["_law_cells"]) F' fun _ _ _ _ _ _ us hl => match us, hl with | [_], _ => rfl
  exact ⟨fd, fun s v => b s [v] rfl, fun base _ _ => law_ok T F'⟩
end Sw
open PySem PySem.W PySem.Calls PyProof.Rows
set_option maxRecDepth 100000 in
set_option maxHeartbeats 0 in
theorem PySem.Challenge.cw_slopeworld_k12_whole_fractions_between_holds : PySem.Challenge.rw_slopeworld_k12_whole_fractions_between.Holds := by
  w_on; o_law
  refine HandSHeadRun.head_any (r := OpenLaw.row PySem.Challenge.rw_slopeworld_k12_whole_fractions_between) (q := view (OpenLaw.row PySem.Challenge.rw_slopeworld_k12_whole_fractions_between).prog [65]) (H := Sw.hk) (ob := Sw.ob) (M := 6000) (loose := Sw.names) (d := HandSHeadRun.topDef (OpenLaw.row PySem.Challenge.rw_slopeworld_k12_whole_fractions_between).prog 65) (kwd := []) Sw.ob_eq
    (by kernel_rfl) (fun s => by kernel_rfl) Sw.run (by kernel_rfl) (by kernel_rfl) (by kernel_rfl) (by rfl) (by first | assumption | decide +kernel) (by decide +kernel) ⟨rfl, rfl, rfl, rfl, rfl, by decide +kernel⟩ ?hw ?hc
  case hw => w_witness2
  case hc =>
    refine L2.walk_ofE (l := PySem.Challenge.rw_slopeworld_k12_whole_fractions_between) (n := 63) (k := 10) (x := "_law_cells") (CX := L2.CX0) rfl (by decide) (by kernel_rfl) ⟨rfl, by decide, by decide⟩ ?F (fun _ _ _ _ z => z)
    intro w mg fa h Y G hmg0
    obtain ⟨K, KX, c, cx⟩ := Y
    have hmg : mg ("law" : PySem.Str) = some (.ref fa) := by
      have e : (HandSHeadRun.topDef (OpenLaw.row PySem.Challenge.rw_slopeworld_k12_whole_fractions_between).prog 65).name = ("law" : PySem.Str) := by kernel_rfl
      rw [← e]
      exact hmg0
    obtain ⟨fd, hb, hF⟩ := Sw.facts (P := (PySem.Challenge.rw_slopeworld_k12_whole_fractions_between).prog) (w := w) KX G hmg c cx
    exact ⟨K, fd, Sw.spLaw K, KX, hb, fun H a ns hl _ hS => ⟨a, ns, rfl, hS, hl, fun _ => rfl⟩, hF⟩

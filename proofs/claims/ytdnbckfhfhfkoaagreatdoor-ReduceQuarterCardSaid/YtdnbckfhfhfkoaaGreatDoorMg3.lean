/-
Numbers told as limits of sums of rational numbers: finite sums, limits, products of sums. Plain.
Products of sums that fall off by halves. Plain.
Sine and cosine as limits: the sums of divided powers, sums of angles. Plain.
Sine and cosine as limits, second part: sums of angles, the circle, the mirror; enclosures of products. Plain.
Sine and cosine as alternating sums of the powers of the square. Plain.
Numbers in so many bits with a bound of their error. Plain.
Numbers in so many bits with their error: packages series and ulpref09.
Package ival: the words of its functions that reckon with nothing but their arguments.
Package ival: the words of all its functions.
Package ulpref06.
Package series: Sum, of the terms of a sine.
The sums of a sine's terms in so many bits: how great they are, what they enclose. Plain.
How far a rounding lies from what is rounded; narrow intervals. Plain.
Numbers in so many bits with their error: package ulpref09.
Intervals as rational numbers: what is reckoned of what lies in them lies in the answer; of parts, within; with more bits, within. Plain.
Intervals as rational numbers, second part: quotients, roots; what the statements of ulplaw06 ask. Plain.
Whole parts, numbers from intervals, squares; what is few enough. Plain.
Package ulpref06: sums and products.
Package sincore.
Package ulpref13.
Sines and cosines: what the intervals enclose, how narrow they are, that they have room. Plain.
The whole number next to a number, its rest by 4; one form. Plain.
Package raw: powers of 2, the nearest whole number, its rest by 4.
The references' naturals (ulpref03): Div, plain part.
The references' naturals (ulpref03): Div.
The references' quotient of two numbers is the program's. Plain.
The references: whole numbers, quotients.
Symbolic execution, eighteenth part: words of functions that may write a box of their caller, told by patterns.
Sums of terms that fall by twelfths, in fixed point: inverse tangents, plain and hyperbolic. Plain.
The inverse tangents of 1 / n, plain and hyperbolic, in fixed point. Plain.
Sizes of the inverse tangents' sums; pi by Machin. Plain.
The document's inverse tangents of 1 / n in fixed point; its pi. Plain.
Package consts: the inverse tangents' terms: a closure that writes its maker's box; series.Sum with it.
-/
import Derived.Test.YtdnbckfhfhfkoaaGreatDoorMg2
import Derived.Test.YtdnbckfhfhfkoaaGreatDoorMg1
import Derived.Test.YtdnbckfhfhfkoaaGreatDoorMg0
namespace Go.Proofs.YtdnbckfhfhfkoaaGreatDoor
open Go.RowKit
/-- The sum of the first n. -/
def sumTo (a : Nat → Rat) : Nat → Rat
  | 0 => 0
  | n + 1 => sumTo a n + a n
/-- x lies, in the end, between lo and hi as nearly as one likes. -/
def Enc (s : Nat → Rat) (lo hi : Rat) : Prop := ∀ e : Rat, 0 < e → ∃ N, ∀ n, N ≤ n → lo - e ≤ s n ∧ s n ≤ hi + e
theorem Enc.wide {s : Nat → Rat} {lo hi lo' hi' : Rat} (h : Enc s lo hi) (h1 : lo' ≤ lo) (h2 : hi ≤ hi') : Enc s lo' hi' := fun e he => by
  obtain ⟨N, k⟩ := h e he
  exact ⟨N, fun n hn => by have := k n hn; exact ⟨by grind, by grind⟩⟩
/-- What two enclosures of one number tell of one another. -/
theorem Enc.meets {s : Nat → Rat} {a b c d : Rat} (h : Enc s a b) (k : Enc s c d) : a ≤ d := by
  rcases (show a ≤ d ∨ d < a by grind) with h0 | h0
  · exact h0
  · obtain ⟨N, h1⟩ := h ((a - d) / 3) (by grind)
    obtain ⟨M, k1⟩ := k ((a - d) / 3) (by grind)
    have p := (h1 (max N M) (by omega)).1
    have q := (k1 (max N M) (by omega)).2
    grind
theorem Enc.self {s : Nat → Rat} {a b : Rat} (h : Enc s a b) : a ≤ b := h.meets h
/-- Two sequences that come as near to one another as one likes. -/
def Near (s t : Nat → Rat) : Prop := ∀ e : Rat, 0 < e → ∃ N, ∀ n, N ≤ n → s n - t n ≤ e ∧ t n - s n ≤ e
theorem Near.refl (s : Nat → Rat) : Near s s := fun e he => ⟨0, fun n _ => ⟨by grind, by grind⟩⟩
theorem Near.symm {s t : Nat → Rat} (h : Near s t) : Near t s := fun e he => by
  obtain ⟨N, k⟩ := h e he
  exact ⟨N, fun n hn => ⟨(k n hn).2, (k n hn).1⟩⟩
theorem Near.trans {s t u : Nat → Rat} (h : Near s t) (k : Near t u) : Near s u := fun e he => by
  obtain ⟨N, h1⟩ := h (e / 2) (by grind)
  obtain ⟨M, k1⟩ := k (e / 2) (by grind)
  exact ⟨max N M, fun n hn => by
    have p := h1 n (by omega)
    have q := k1 n (by omega)
    exact ⟨by grind, by grind⟩⟩
theorem Near.add {s t s' t' : Nat → Rat} (h : Near s t) (k : Near s' t') : Near (fun n => s n + s' n) (fun n => t n + t' n) := fun e he => by
  obtain ⟨N, h1⟩ := h (e / 2) (by grind)
  obtain ⟨M, k1⟩ := k (e / 2) (by grind)
  exact ⟨max N M, fun n hn => by
    have p := h1 n (by omega)
    have q := k1 n (by omega)
    exact ⟨by grind, by grind⟩⟩
theorem Near.neg {s t : Nat → Rat} (h : Near s t) : Near (fun n => -s n) (fun n => -t n) := fun e he => by
  obtain ⟨N, h1⟩ := h e he
  exact ⟨N, fun n hn => by have p := h1 n hn; exact ⟨by grind, by grind⟩⟩
theorem Enc.near {s t : Nat → Rat} {lo hi : Rat} (h : Enc s lo hi) (k : Near s t) : Enc t lo hi := fun e he => by
  obtain ⟨N, h1⟩ := h (e / 2) (by grind)
  obtain ⟨M, k1⟩ := k (e / 2) (by grind)
  exact ⟨max N M, fun n hn => by
    have p := h1 n (by omega)
    have q := k1 n (by omega)
    exact ⟨by grind, by grind⟩⟩
theorem Enc.const (c : Rat) : Enc (fun _ => c) c c := fun e he => ⟨0, fun n _ => ⟨by grind, by grind⟩⟩
theorem Enc.add {s t : Nat → Rat} {a b c d : Rat} (h : Enc s a b) (k : Enc t c d) : Enc (fun n => s n + t n) (a + c) (b + d) := fun e he => by
  obtain ⟨N, h1⟩ := h (e / 2) (by grind)
  obtain ⟨M, k1⟩ := k (e / 2) (by grind)
  exact ⟨max N M, fun n hn => by
    have p := h1 n (by omega)
    have q := k1 n (by omega)
    exact ⟨by grind, by grind⟩⟩
theorem Enc.neg {s : Nat → Rat} {a b : Rat} (h : Enc s a b) : Enc (fun n => -s n) (-b) (-a) := fun e he => by
  obtain ⟨N, h1⟩ := h e he
  exact ⟨N, fun n hn => by have p := h1 n hn; exact ⟨by grind, by grind⟩⟩
end Go.Proofs.YtdnbckfhfhfkoaaGreatDoor

namespace Go.Proofs.YtdnbckfhfhfkoaaGreatDoor
open Go.RowKit
/-- 1 over 2 to the power of k. -/
def hf (k : Nat) : Rat := p2 (-(k : Int))
theorem hf_zero : hf 0 = 1 := p2_zero
theorem hf_succ (k : Nat) : hf k = 2 * hf (k + 1) := by
  unfold hf
  rw [show -(k : Int) = -((k + 1 : Nat) : Int) + 1 by omega, two_p2]
/-- It falls off as the powers of a half. -/
def Dec (A : Rat) (a : Nat → Rat) : Prop := ∀ i, -(A * hf i) ≤ a i ∧ a i ≤ A * hf i
theorem Dec.nonneg {A : Rat} {a : Nat → Rat} (h : Dec A a) : 0 ≤ A := by
  have h0 := h 0
  rw [hf_zero] at h0; grind
theorem Dec.tail {B : Rat} {b : Nat → Rat} (h : Dec B b) (k : Nat) : ∀ d, sumTo b (k + d) - sumTo b k ≤ 2 * B * hf k - 2 * B * hf (k + d) ∧ -(2 * B * hf k - 2 * B * hf (k + d)) ≤ sumTo b (k + d) - sumTo b k
  | 0 => by constructor <;> grind
  | d + 1 => by
    have ih := h.tail k d
    have hd := h (k + d)
    have e : B * hf (k + d) = 2 * (B * hf (k + (d + 1))) := by rw [hf_succ (k + d), Nat.add_assoc]; grind
    have e2 : sumTo b (k + (d + 1)) = sumTo b (k + d) + b (k + d) := rfl
    rw [e2]
    generalize sumTo b (k + d) = S at *
    constructor <;> grind
/-- The parts of a product of sums whose numbers add up to m. -/
def conv (a b : Nat → Rat) (m : Nat) : Rat := sumTo (fun i => a i * b (m - i)) (m + 1)
end Go.Proofs.YtdnbckfhfhfkoaaGreatDoor

namespace Go.Proofs.YtdnbckfhfhfkoaaGreatDoor
open Go.RowKit
/-- 1 at even numbers, -1 at odd ones. -/
def alt (i : Nat) : Rat := if i % 2 = 0 then 1 else -1
/-! ### They fall off. -/
end Go.Proofs.YtdnbckfhfhfkoaaGreatDoor

namespace Go.Proofs.YtdnbckfhfhfkoaaGreatDoor
open Go.RowKit
theorem Near.sub {s t s' t' : Nat → Rat} (h : Near s t) (k : Near s' t') : Near (fun n => s n - s' n) (fun n => t n - t' n) := by
  have := h.add k.neg
  simpa only [← Rat.sub_eq_add_neg] using this
/-! ### Enclosures of products. -/
theorem Enc.mul {s t : Nat → Rat} {a b c d L H : Rat} (h : Enc s a b) (k : Enc t c d) (hc : ∀ x y, (x = a ∨ x = b) → (y = c ∨ y = d) → L ≤ x * y ∧ x * y ≤ H) : Enc (fun n => s n * t n) L H := fun e he => by
  obtain ⟨M, hM⟩ : ∃ M : Rat, 1 ≤ M ∧ ∀ x, (x = a ∨ x = b ∨ x = c ∨ x = d) → -M ≤ x ∧ x ≤ M := by
    refine ⟨1 + a * a + b * b + c * c + d * d, ?_, fun x hx => ?_⟩
    · have h1 : ∀ z : Rat, 0 ≤ z * z := fun z => by
        rcases (show 0 ≤ z ∨ 0 ≤ -z by grind) with q | q
        · exact Rat.mul_nonneg q q
        · have := Rat.mul_nonneg q q; grind
      have := h1 a; have := h1 b; have := h1 c; have := h1 d; grind
    · have h1 : ∀ z : Rat, 0 ≤ z * z ∧ z ≤ 1 + z * z ∧ -z ≤ 1 + z * z := fun z => by
        have sq : ∀ y : Rat, 0 ≤ y * y := fun y => by
          rcases (show 0 ≤ y ∨ 0 ≤ -y by grind) with q | q
          · exact Rat.mul_nonneg q q
          · have := Rat.mul_nonneg q q; grind
        have q0 := sq z
        have q1 := sq (z - 1)
        have q2 := sq (z + 1)
        refine ⟨q0, by grind, by grind⟩
      have := h1 a; have := h1 b; have := h1 c; have := h1 d
      rcases hx with rfl | rfl | rfl | rfl <;> constructor <;> grind
  have ip : 0 < (2 * M + 1)⁻¹ := Rat.inv_pos.2 (by grind)
  have im := Rat.inv_mul_cancel (2 * M + 1) (by grind)
  -- as near as this
  obtain ⟨δ, d0, d1, d2⟩ : ∃ δ : Rat, 0 < δ ∧ δ ≤ 1 ∧ δ * (2 * M + 1) ≤ e := by
    by_cases hq : e * (2 * M + 1)⁻¹ ≤ 1
    · exact ⟨e * (2 * M + 1)⁻¹, Rat.mul_pos he ip, hq, by rw [Rat.mul_assoc, im, Rat.mul_one]; exact Rat.le_refl⟩
    · refine ⟨1, by grind, by grind, ?_⟩
      have := (Rat.mul_lt_mul_right (show 0 < 2 * M + 1 by grind)).2 (show 1 < e * (2 * M + 1)⁻¹ by grind)
      rw [Rat.mul_assoc, im] at this; grind
  obtain ⟨N, h1⟩ := h δ d0
  obtain ⟨N', k1⟩ := k δ d0
  -- a corner moved by δ
  have near : ∀ x y x' y', (x = a ∨ x = b) → (y = c ∨ y = d) → (x' = x - δ ∨ x' = x + δ) → (y' = y - δ ∨ y' = y + δ) → L - e ≤ x' * y' ∧ x' * y' ≤ H + e := by
    intro x y x' y' hx hy hx' hy'
    have q := hc x y hx hy
    have m1 := hM.2 x (by rcases hx with h | h <;> simp [h])
    have m2 := hM.2 y (by rcases hy with h | h <;> simp [h])
    have z1 := Rat.mul_nonneg (Rat.le_of_lt d0) (show 0 ≤ M - x by grind)
    have z2 := Rat.mul_nonneg (Rat.le_of_lt d0) (show 0 ≤ M + x by grind)
    have z3 := Rat.mul_nonneg (Rat.le_of_lt d0) (show 0 ≤ M - y by grind)
    have z4 := Rat.mul_nonneg (Rat.le_of_lt d0) (show 0 ≤ M + y by grind)
    have z5 := Rat.mul_nonneg (Rat.le_of_lt d0) (show 0 ≤ 1 - δ by grind)
    have z6 := Rat.mul_nonneg (Rat.le_of_lt d0) (Rat.le_of_lt d0)
    rcases hx' with rfl | rfl <;> rcases hy' with rfl | rfl <;> constructor <;> grind
  refine ⟨max N N', fun n hn => ?_⟩
  have p := h1 n (by omega)
  have q := k1 n (by omega)
  obtain ⟨x0, y0, l1, l2, l3⟩ := corner_le p.1 p.2 q.1 q.2
  obtain ⟨x1, y1, m1, m2, m3⟩ := corner_ge p.1 p.2 q.1 q.2
  have r1 : L - e ≤ x0 * y0 := by
    rcases l1 with rfl | rfl <;> rcases l2 with rfl | rfl
    · exact (near a c _ _ (.inl rfl) (.inl rfl) (.inl rfl) (.inl rfl)).1
    · exact (near a d _ _ (.inl rfl) (.inr rfl) (.inl rfl) (.inr rfl)).1
    · exact (near b c _ _ (.inr rfl) (.inl rfl) (.inr rfl) (.inl rfl)).1
    · exact (near b d _ _ (.inr rfl) (.inr rfl) (.inr rfl) (.inr rfl)).1
  have r2 : x1 * y1 ≤ H + e := by
    rcases m1 with rfl | rfl <;> rcases m2 with rfl | rfl
    · exact (near a c _ _ (.inl rfl) (.inl rfl) (.inl rfl) (.inl rfl)).2
    · exact (near a d _ _ (.inl rfl) (.inr rfl) (.inl rfl) (.inr rfl)).2
    · exact (near b c _ _ (.inr rfl) (.inl rfl) (.inr rfl) (.inl rfl)).2
    · exact (near b d _ _ (.inr rfl) (.inr rfl) (.inr rfl) (.inr rfl)).2
  exact ⟨by grind, by grind⟩
end Go.Proofs.YtdnbckfhfhfkoaaGreatDoor

namespace Go.Proofs.YtdnbckfhfhfkoaaGreatDoor
open Go.RowKit
/-- x to the power of k over f * (f + 1) * .. * (f + 2 k - 1). -/
def tmf (f : Nat) (x : Rat) : Nat → Rat
  | 0 => 1
  | k + 1 => tmf f x k * x * ((f + 2 * k : Nat) : Rat)⁻¹ * ((f + 2 * k + 1 : Nat) : Rat)⁻¹
def altS (f : Nat) (x : Rat) (n : Nat) : Rat := sumTo (fun k => alt k * tmf f x k) n
section
variable {f : Nat} {x : Rat} (hf1 : 1 ≤ f) (x0 : 0 ≤ x) (x1 : x ≤ 1)
include hf1 x0 x1
end
end Go.Proofs.YtdnbckfhfhfkoaaGreatDoor

namespace Go.Proofs.YtdnbckfhfhfkoaaGreatDoor
open Go.RowKit
/-- From a to a + e, times 2 to the power of -w. -/
structure Fx where
  a : Int
  e : Int
def InF (w : Int) (x : Fx) (r : Rat) : Prop := 0 ≤ x.a ∧ 0 ≤ x.e ∧ (x.a : Rat) ≤ r * p2 w ∧ r * p2 w ≤ ((x.a + x.e : Int) : Rat)
def shortF (x : Fx) (d : Int) : Fx := ⟨x.a / d, x.e / d + 2⟩
def addF (x y : Fx) : Fx := ⟨x.a + y.a, x.e + y.e⟩
def widerF (x : Fx) (n : Int) : Fx := ⟨x.a, x.e + n⟩
def subF (x y : Fx) : Fx := ⟨x.a - (y.a + y.e), x.e + y.e⟩
/-- Rounded up. -/
def upI (n : Int) (k : Nat) : Int := n / 2 ^ k + if n % 2 ^ k = 0 then 0 else 1
def mulF (x y : Fx) (w : Int) : Fx := ⟨x.a * y.a / 2 ^ w.toNat, upI ((x.a + x.e) * (y.a + y.e)) w.toNat - x.a * y.a / 2 ^ w.toNat⟩
theorem upI_le {n : Int} {k : Nat} : upI n k * 2 ^ k < n + 2 ^ k ∧ n ≤ upI n k * 2 ^ k := by
  have p := two_pow_pos k
  have h := Int.mul_ediv_add_emod n (2 ^ k)
  have h1 := Int.emod_nonneg n (show (2 : Int) ^ k ≠ 0 by omega)
  have h2 := Int.emod_lt_of_pos n p
  unfold upI
  rw [Int.add_mul, Int.mul_comm (n / 2 ^ k)]
  split
  · rw [Int.zero_mul]; omega
  · rw [Int.one_mul]; omega
theorem InF.add {w : Int} {x y : Fx} {r s : Rat} (h : InF w x r) (k : InF w y s) : InF w (addF x y) (r + s) := by
  obtain ⟨h1, h2, h3, h4⟩ := h
  obtain ⟨k1, k2, k3, k4⟩ := k
  refine ⟨show 0 ≤ x.a + y.a by omega, show 0 ≤ x.e + y.e by omega, ?_, ?_⟩
  · show ((x.a + y.a : Int) : Rat) ≤ _
    rw [Rat.intCast_add]; grind
  · show _ ≤ ((x.a + y.a + (x.e + y.e) : Int) : Rat)
    rw [show x.a + y.a + (x.e + y.e) = (x.a + x.e) + (y.a + y.e) by omega, Rat.intCast_add]; grind
theorem InF.short {w : Int} {x : Fx} {r : Rat} (h : InF w x r) {d : Int} (hd : 0 < d) : InF w (shortF x d) (r * (d : Rat)⁻¹) := by
  obtain ⟨h1, h2, h3, h4⟩ := h
  have dp := cast_ne hd
  have iv := Rat.inv_mul_cancel (d : Rat) (by grind)
  have a1 := Int.mul_ediv_add_emod x.a d
  have a2 := Int.emod_nonneg x.a (show d ≠ 0 by omega)
  have a3 := Int.emod_lt_of_pos x.a hd
  have b1 := Int.mul_ediv_add_emod x.e d
  have b2 := Int.emod_nonneg x.e (show d ≠ 0 by omega)
  have b3 := Int.emod_lt_of_pos x.e hd
  have e1 : r * (d : Rat)⁻¹ * p2 w * (d : Rat) = r * p2 w := by
    have : r * (d : Rat)⁻¹ * p2 w * (d : Rat) = r * p2 w * ((d : Rat)⁻¹ * (d : Rat)) := by grind
    rw [this, iv, Rat.mul_one]
  refine ⟨show 0 ≤ x.a / d from Int.ediv_nonneg h1 (by omega), show 0 ≤ x.e / d + 2 by have := Int.ediv_nonneg h2 (show 0 ≤ d by omega); omega, ?_, ?_⟩
  · show ((x.a / d : Int) : Rat) ≤ _
    rw [← Rat.not_lt, ← Rat.mul_lt_mul_right dp, e1, ← Rat.intCast_mul]
    have : ((x.a / d * d : Int) : Rat) ≤ (x.a : Rat) := cast_le.2 (by rw [Int.mul_comm]; omega)
    grind
  · show _ ≤ ((x.a / d + (x.e / d + 2) : Int) : Rat)
    rw [← Rat.not_lt, ← Rat.mul_lt_mul_right dp, e1, ← Rat.intCast_mul]
    have : ((x.a + x.e : Int) : Rat) ≤ (((x.a / d + (x.e / d + 2)) * d : Int) : Rat) := cast_le.2 (by
      have : (x.a / d + (x.e / d + 2)) * d = d * (x.a / d) + d * (x.e / d) + 2 * d := by rw [Int.add_mul, Int.add_mul, Int.mul_comm (x.a / d), Int.mul_comm (x.e / d)]; omega
      omega)
    grind
theorem InF.mul {w : Int} {x y : Fx} {r s : Rat} (hw : 0 ≤ w) (h : InF w x r) (k : InF w y s) : InF w (mulF x y w) (r * s) := by
  obtain ⟨h1, h2, h3, h4⟩ := h
  obtain ⟨k1, k2, k3, k4⟩ := k
  have pp := two_pow_pos w.toNat
  have pw : p2 w = ((2 ^ w.toNat : Int) : Rat) := p2_toNat hw
  have pr := p2_pos w
  have u := upI_le (n := (x.a + x.e) * (y.a + y.e)) (k := w.toNat)
  have d1 := Int.mul_ediv_add_emod (x.a * y.a) (2 ^ w.toNat)
  have d2 := Int.emod_nonneg (x.a * y.a) (show (2 : Int) ^ w.toNat ≠ 0 by omega)
  have hle : x.a * y.a ≤ (x.a + x.e) * (y.a + y.e) := Int.mul_le_mul (by omega) (by omega) k1 (by omega)
  have q0 : 0 ≤ x.a * y.a := Int.mul_nonneg h1 k1
  have lo : x.a * y.a / 2 ^ w.toNat ≤ upI ((x.a + x.e) * (y.a + y.e)) w.toNat := by
    have : x.a * y.a / 2 ^ w.toNat * 2 ^ w.toNat ≤ upI ((x.a + x.e) * (y.a + y.e)) w.toNat * 2 ^ w.toNat := by rw [Int.mul_comm]; omega
    exact Int.le_of_mul_le_mul_right this pp
  have a0 : (0 : Rat) ≤ (x.a : Rat) := cast_le.2 h1
  have b0 : (0 : Rat) ≤ (y.a : Rat) := cast_le.2 k1
  have m1 := Rat.mul_le_mul_of_nonneg_left k3 a0
  have m2 := Rat.mul_le_mul_of_nonneg_right h3 (show 0 ≤ s * p2 w by grind)
  have m3 := Rat.mul_le_mul_of_nonneg_left k4 (show 0 ≤ r * p2 w by grind)
  have m4 := Rat.mul_le_mul_of_nonneg_right h4 (show (0 : Rat) ≤ ((y.a + y.e : Int) : Rat) by grind)
  refine ⟨Int.ediv_nonneg q0 (by omega), show 0 ≤ upI ((x.a + x.e) * (y.a + y.e)) w.toNat - x.a * y.a / 2 ^ w.toNat by omega, ?_, ?_⟩
  · show ((x.a * y.a / 2 ^ w.toNat : Int) : Rat) ≤ _
    rw [← mul_p2_le w]
    have e : ((x.a * y.a / 2 ^ w.toNat : Int) : Rat) * p2 w = ((x.a * y.a / 2 ^ w.toNat * 2 ^ w.toNat : Int) : Rat) := by rw [pw, Rat.intCast_mul]
    have g : ((x.a * y.a / 2 ^ w.toNat * 2 ^ w.toNat : Int) : Rat) ≤ ((x.a * y.a : Int) : Rat) := cast_le.2 (by rw [Int.mul_comm]; omega)
    rw [Rat.intCast_mul x.a] at g
    rw [e]; grind
  · show _ ≤ ((x.a * y.a / 2 ^ w.toNat + (upI ((x.a + x.e) * (y.a + y.e)) w.toNat - x.a * y.a / 2 ^ w.toNat) : Int) : Rat)
    rw [show x.a * y.a / 2 ^ w.toNat + (upI ((x.a + x.e) * (y.a + y.e)) w.toNat - x.a * y.a / 2 ^ w.toNat) = upI ((x.a + x.e) * (y.a + y.e)) w.toNat by omega, ← mul_p2_le w]
    have e : ((upI ((x.a + x.e) * (y.a + y.e)) w.toNat : Int) : Rat) * p2 w = ((upI ((x.a + x.e) * (y.a + y.e)) w.toNat * 2 ^ w.toNat : Int) : Rat) := by rw [pw, Rat.intCast_mul]
    have g : (((x.a + x.e) * (y.a + y.e) : Int) : Rat) ≤ ((upI ((x.a + x.e) * (y.a + y.e)) w.toNat * 2 ^ w.toNat : Int) : Rat) := cast_le.2 u.2
    rw [Rat.intCast_mul (x.a + x.e)] at g
    rw [e]; grind
end Go.Proofs.YtdnbckfhfhfkoaaGreatDoor

namespace Go.Proofs.YtdnbckfhfhfkoaaGreatDoor
open Go.RowKit
def tyFx : TyRow := ⟨102, 2, true, [.words true [], .int .u64 0], .struct [(0, 1, false), (1, 1, false)]⟩
def tyF9 : TyRow := ⟨90, 2, true, [.words true [], .int .u64 0], .struct [(0, 1, false), (1, 1, false)]⟩
def tys3 : List TyRow := [tyFx, tyF9] ++ tys
theorem tys3_ok : RowsOk Tryz.prog tys3 := ⟨by kernel_rfl, by kernel_rfl, tys_ok⟩
/-- As a number with its error; back. -/
def Fw.f (x : Fw) : Fx := ⟨val x.xs, x.e⟩
def fw (z : Fx) : Fw := ⟨ws z.a, z.e⟩
abbrev fxT (z : Fx) : Tv := .sv (.agg (fwL false (fw z)))
theorem fw_f {z : Fx} (h : 0 ≤ z.a) : (fw z).f = z := by
  show (⟨val (ws z.a), z.e⟩ : Fx) = z
  rw [val_ws h]
/-- Of no great size. -/
def Fw.Ok (x : Fw) : Prop := x.xs.length ≤ 1073741824 ∧ 0 ≤ x.e ∧ x.e ≤ 1099511627776
def Fx.Ok (z : Fx) : Prop := 0 ≤ z.a ∧ blen z.a ≤ 68719476736 ∧ 0 ≤ z.e ∧ z.e ≤ 1099511627776
theorem Fx.Ok.w {z : Fx} (h : z.Ok) : (fw z).Ok := ⟨ws_blen h.1 (by have := h.2.1; omega), h.2.2⟩
theorem wrap_w {n : Int} (h : Word n) : IntKind.u64.wrap n = n := by rw [wrap_lo]; exact Int.emod_eq_of_lt h.1 h.2
/-! ### Package series -/
def seOne : Spec := specK [.i .i64] fun (q : Int) => (some (0 ≤ q ∧ q ≤ 16777216), fxT ⟨2 ^ q.toNat, 0⟩)
theorem seOne_vc (q : Int) (Q : Tv → Prop) : execF ⟨tys3, sLimbs⟩ (fun _ => none) 0 Tryz.f155 [.one (.int .i64 q)] Q = (Word (1 : Int) ∧ ((0 : Int) ≤ q ∧ q ≤ (1099511627776 : Int) ∧ List.length (ws (val (ws (1 : Int)))) ≤ (8796093022208 : Nat)) ∧ Q (Tv.sv (Sv.agg [At.words true (ws (val (ws (1 : Int)) * (2 : Int) ^ Int.toNat q)), At.int .u64 0]))) := by kernel_rfl
theorem seOne_ok : SpecOk Tryz.prog 155 seOne :=
  specKW_ok (envOk tys3_ok sLimbs_ok) mixed Tryz.func155 rfl (by decide) (by decide) fun (q : Int) _ hp => ⟨fun _ => none, 0, by
    obtain ⟨h0, h1⟩ : 0 ≤ q ∧ q ≤ 16777216 := hp
    refine (seOne_vc q _).mpr ?_
    rw [val_ws_one, Int.one_mul]
    exact ⟨word_one, ⟨h0, by omega, by simp [ws_one]⟩, .inr rfl⟩⟩
def seAdd : Spec := specK [.fx, .fx] fun (x : Fw) (y : Fw) => (some (x.Ok ∧ y.Ok), fxT (addF x.f y.f))
theorem seAdd_vc (x y : Fw) (Q : Tv → Prop) : execF ⟨tys3, sLimbs⟩ (fun _ => none) 0 Tryz.f153 [.agg (fwL false x), .agg (fwL false y)] Q = ((List.length x.xs ≤ (17592186044414 : Nat) ∧ List.length y.xs ≤ (17592186044414 : Nat)) ∧ true = true ∧ Q (Tv.sv (Sv.agg [At.words true (ws (val x.xs + val y.xs)), At.int .u64 (IntKind.wrap IntKind.u64 (x.e + y.e))]))) := by kernel_rfl
theorem seAdd_ok : SpecOk Tryz.prog 153 seAdd :=
  specKW_ok (envOk tys3_ok sLimbs_ok) mixed Tryz.func153 rfl (by decide) (by decide) fun (x : Fw) _ (y : Fw) _ hp => ⟨fun _ => none, 0, by
    obtain ⟨⟨a1, a2, a3⟩, b1, b2, b3⟩ : x.Ok ∧ y.Ok := hp
    refine (seAdd_vc x y _).mpr ?_
    rw [wrap_w ⟨by omega, by omega⟩]
    exact ⟨⟨by omega, by omega⟩, rfl, .inr rfl⟩⟩
def seHigh : Spec := specK [.fx] fun (x : Fw) => (some x.Ok, wT (ws (x.f.a + x.f.e)))
theorem seHigh_vc (x : Fw) (Q : Tv → Prop) : execF ⟨tys3, sLimbs⟩ (fun _ => none) 0 Tryz.f138 [.agg (fwL false x)] Q = (Word x.e ∧ (List.length x.xs ≤ (17592186044414 : Nat) ∧ List.length (ws x.e) ≤ (17592186044414 : Nat)) ∧ true = true ∧ Q (Tv.sv (Sv.one (At.words true (ws (val x.xs + val (ws x.e))))))) := by kernel_rfl
theorem ws_small {n : Int} (h : n ≤ 1099511627776) : (ws n).length ≤ 1 := by
  by_cases h0 : 0 ≤ n
  · exact ws_length_le (by have : wpow 1 = 18446744073709551616 := rfl; omega)
  · rw [ws_nonpos (by omega)]; simp
theorem seHigh_ok : SpecOk Tryz.prog 138 seHigh :=
  specK_ok (envOk tys3_ok sLimbs_ok) mixed Tryz.func138 rfl (by decide) (by decide) fun (x : Fw) _ hp => ⟨fun _ => none, 0, by
    obtain ⟨a1, a2, a3⟩ : x.Ok := hp
    refine (seHigh_vc x _).mpr ?_
    have := ws_small a3
    rw [val_ws a2]
    exact ⟨⟨a2, by omega⟩, ⟨by omega, by omega⟩, rfl, rfl⟩⟩
def seWid : Spec := specK [.fx, .i .u64] fun (x : Fw) (n : Int) => (some (x.Ok ∧ 0 ≤ n ∧ n ≤ 1099511627776 ∧ x.xs = ws (val x.xs)), fxT (widerF x.f n))
theorem seWid_vc (x : Fw) (n : Int) (Q : Tv → Prop) : execF ⟨tys3, sLimbs⟩ (fun _ => none) 0 Tryz.f164 [.agg (fwL false x), .one (.int .u64 n)] Q = (Q (Tv.sv (Sv.agg [At.words false x.xs, At.int .u64 (IntKind.wrap IntKind.u64 (x.e + n))]))) := by kernel_rfl
theorem seWid_ok : SpecOk Tryz.prog 164 seWid :=
  specKW_ok (envOk tys3_ok sLimbs_ok) mixed Tryz.func164 rfl (by decide) (by decide) fun (x : Fw) _ (n : Int) _ hp => ⟨fun _ => none, 0, by
    obtain ⟨⟨a1, a2, a3⟩, b1, b2, b3⟩ : x.Ok ∧ 0 ≤ n ∧ n ≤ 1099511627776 ∧ x.xs = ws (val x.xs) := hp
    refine (seWid_vc x n _).mpr ?_
    rw [wrap_w ⟨by omega, by omega⟩, b3]
    exact .inl rfl⟩
def seShort : Spec := specK [.fx, .i .u64] fun (x : Fw) (d : Int) => (some (0 ≤ x.e ∧ x.e ≤ 1099511627776 ∧ 0 < d ∧ d < 18446744073709551616), fxT (shortF x.f d))
theorem seShort_vc (x : Fw) (d : Int) (Q : Tv → Prop) : execF ⟨tys3, sLimbs⟩ (fun _ => none) 0 Tryz.f157 [.agg (fwL false x), .one (.int .u64 d)] Q = ((Word d ∧ (0 : Int) < d) ∧ d ≠ (0 : Int) ∧ Q (Tv.sv (Sv.agg [At.words true (ws (val x.xs / d)), At.int .u64 (IntKind.wrap IntKind.u64 (IntKind.wrap IntKind.u64 (Int.tdiv x.e d) + (2 : Int)))]))) := by kernel_rfl
theorem seShort_ok : SpecOk Tryz.prog 157 seShort :=
  specKW_ok (envOk tys3_ok sLimbs_ok) mixed Tryz.func157 rfl (by decide) (by decide) fun (x : Fw) _ (d : Int) _ hp => ⟨fun _ => none, 0, by
    obtain ⟨h0, h1, h2, h3⟩ : 0 ≤ x.e ∧ x.e ≤ 1099511627776 ∧ 0 < d ∧ d < 18446744073709551616 := hp
    have q0 := Int.ediv_nonneg h0 (show 0 ≤ d by omega)
    have q1 := Int.ediv_le_self d h0
    refine (seShort_vc x d _).mpr ?_
    rw [Int.tdiv_eq_ediv_of_nonneg h0, wrap_w (n := x.e / d) ⟨q0, by omega⟩, wrap_w ⟨by omega, by omega⟩]
    exact ⟨⟨⟨by omega, h3⟩, h2⟩, by omega, .inr rfl⟩⟩
def sSer1 : List (FuncId × Spec) := [(155, seOne), (153, seAdd), (138, seHigh), (164, seWid), (157, seShort)] ++ sLimbs
theorem sSer1_ok : SpecsOk Tryz.prog sSer1 := ⟨seOne_ok, seAdd_ok, seHigh_ok, seWid_ok, seShort_ok, sLimbs_ok⟩
def floorD (d : Dx) : Dx := if 0 ≤ (oneD d).e then oneD d else mkD (oneD d).neg ((oneD d).m / 2 ^ (-(oneD d).e).toNat + if (lostB (oneD d).m (-(oneD d).e).toNat && (oneD d).neg) = true then 1 else 0) 0
def rFloor : Spec := specK [.d] fun (d : Dx) => (some (d.Sm 68719476736), dT (floorD d))
theorem rFloor_vc (d : Dx) (Q : Tv → Prop) : execF ⟨tys, sRaw2⟩ (fun _ => none) 0 Tryz.f100 [.agg (dyL false d)] Q = (((-4611686018427387904 : Int) ≤ d.e ∧ d.e ≤ (4611686018427387904 : Int)) ∧ br (leI (0 : Int) (oneD d).e) (Q (Tv.sv (Sv.agg (dyL true (oneD d))))) (inR ((0 : Int) - (oneD d).e) ∧ ((0 : Int) ≤ (0 : Int) - (oneD d).e ∧ (0 : Int) - (oneD d).e ≤ (9007199254740992 : Int)) ∧ br (lostB (val (oneD d).xs) (Int.toNat ((0 : Int) - (oneD d).e))) (br (oneD d).neg (Word (1 : Int) ∧ (List.length (ws (val (oneD d).xs / (2 : Int) ^ Int.toNat ((0 : Int) - (oneD d).e))) ≤ (17592186044414 : Nat) ∧ List.length (ws (1 : Int)) ≤ (17592186044414 : Nat)) ∧ ((-4611686018427387904 : Int) ≤ (0 : Int) ∧ (0 : Int) ≤ (4611686018427387904 : Int)) ∧ Q (Tv.sv (Sv.agg (dyL true (mkD (oneD d).neg (val (ws (val (ws (val (oneD d).xs / (2 : Int) ^ Int.toNat ((0 : Int) - (oneD d).e))) + val (ws (1 : Int))))) (0 : Int)))))) (((-4611686018427387904 : Int) ≤ (0 : Int) ∧ (0 : Int) ≤ (4611686018427387904 : Int)) ∧ Q (Tv.sv (Sv.agg (dyL true (mkD (oneD d).neg (val (ws (val (oneD d).xs / (2 : Int) ^ Int.toNat ((0 : Int) - (oneD d).e)))) (0 : Int))))))) (((-4611686018427387904 : Int) ≤ (0 : Int) ∧ (0 : Int) ≤ (4611686018427387904 : Int)) ∧ Q (Tv.sv (Sv.agg (dyL true (mkD (oneD d).neg (val (ws (val (oneD d).xs / (2 : Int) ^ Int.toNat ((0 : Int) - (oneD d).e)))) (0 : Int)))))))) := by kernel_rfl
theorem rFloor_ok : SpecOk Tryz.prog 100 rFloor :=
  specK_ok (envOk tys_ok sRaw2_ok) mixed Tryz.func100 rfl (by decide) (by decide) fun (d : Dx) hd hp => ⟨fun _ => none, 0, by
    obtain ⟨s1, s2, s3⟩ : d.Sm 68719476736 := hp
    have m1 := one_m0 (Dx.Wf.m0 hd)
    obtain ⟨z1, z2, z3⟩ := one_sm (Dx.Wf.m0 hd) ⟨s1, s2, s3⟩
    have p0 := two_pow_pos (-(oneD d).e).toNat
    have hq : 0 ≤ (oneD d).m / 2 ^ (-(oneD d).e).toNat := Int.ediv_nonneg m1 (by omega)
    have hql : (ws ((oneD d).m / 2 ^ (-(oneD d).e).toNat)).length ≤ 17592186044414 := ws_blen hq (by
      have := blen_mono (m := (oneD d).m / 2 ^ (-(oneD d).e).toNat) (n := (oneD d).m) (Int.ediv_le_self _ m1); omega)
    show execF _ _ _ _ _ (fun t => t = dT (floorD d))
    refine (rFloor_vc d _).mpr ⟨⟨by omega, by omega⟩, br_intro (fun h => ?_) fun h => ?_⟩
    · rw [floorD, if_pos (leI_true.1 h)]
    · have h := leI_false.1 h
      rw [floorD, if_neg h, Int.zero_sub, val_ws_one]
      unfold Dx.m at hq hql ⊢
      rw [val_ws hq]
      refine ⟨⟨by omega, by omega⟩, ⟨by omega, by omega⟩, br_intro (fun h1 => br_intro (fun h2 => ?_) fun h2 => ?_) fun h1 => ?_⟩
      · rw [h1, h2, val_ws (by omega)]
        exact ⟨word_one, ⟨by omega, by simp [ws_one]⟩, ⟨by omega, by omega⟩, rfl⟩
      · rw [h1, h2]
        exact ⟨⟨by omega, by omega⟩, by rw [if_neg (by simp), Int.add_zero]⟩
      · rw [h1]
        exact ⟨⟨by omega, by omega⟩, by rw [if_neg (by simp), Int.add_zero]⟩⟩
def rInt : Spec := specK [.i .i64] fun (n : Int) => (some (inR n), dT (mkS n 0))
theorem rInt_vc (n : Int) (Q : Tv → Prop) : execF ⟨tys, sRaw2⟩ (fun _ => none) 0 Tryz.f84 [.one (.int .i64 n)] Q = (br (ltI n (0 : Int)) (Word (IntKind.wrap IntKind.u64 ((0 : Int) - IntKind.wrap IntKind.u64 n)) ∧ ((-4611686018427387904 : Int) ≤ (0 : Int) ∧ (0 : Int) ≤ (4611686018427387904 : Int)) ∧ Q (Tv.sv (Sv.agg (dyL true (mkD (ltI n (0 : Int)) (val (ws (IntKind.wrap IntKind.u64 ((0 : Int) - IntKind.wrap IntKind.u64 n)))) (0 : Int)))))) (Word (IntKind.wrap IntKind.u64 n) ∧ ((-4611686018427387904 : Int) ≤ (0 : Int) ∧ (0 : Int) ≤ (4611686018427387904 : Int)) ∧ Q (Tv.sv (Sv.agg (dyL true (mkD (ltI n (0 : Int)) (val (ws (IntKind.wrap IntKind.u64 n))) (0 : Int))))))) := by kernel_rfl
theorem rInt_ok : SpecOk Tryz.prog 84 rInt :=
  specK_ok (envOk tys_ok sRaw2_ok) mixed Tryz.func84 rfl (by decide) (by decide) fun (n : Int) _ hp => ⟨fun _ => none, 0, by
    obtain ⟨h0, h1⟩ : inR n := hp
    have w1 : IntKind.u64.wrap n = n % 18446744073709551616 := wrap_lo n
    have w2 : IntKind.u64.wrap (0 - IntKind.u64.wrap n) = (0 - n % 18446744073709551616) % 18446744073709551616 := by rw [w1]; exact wrap_lo _
    show execF _ _ _ _ _ (fun t => t = dT (mkS n 0))
    refine (rInt_vc n _).mpr (br_intro (fun h => ?_) fun h => ?_)
    · have h' := ltI_true.1 h
      rw [w2, mkS, show (0 - n % 18446744073709551616) % 18446744073709551616 = (n.natAbs : Int) by omega, val_ws (by omega)]
      exact ⟨⟨by omega, by omega⟩, ⟨by omega, by omega⟩, by rw [h, decide_eq_true h']⟩
    · have h' := ltI_false.1 h
      rw [w1, mkS, show n % 18446744073709551616 = (n.natAbs : Int) by omega, val_ws (by omega)]
      exact ⟨⟨by omega, by omega⟩, ⟨by omega, by omega⟩, by rw [h, decide_eq_false h']⟩⟩
theorem Fw.f_a (x : Fw) : x.f.a = val x.xs := rfl
theorem Fw.f_e (x : Fw) : x.f.e = x.e := rfl
def seSub : Spec := specK [.fx, .fx] fun (x : Fw) (y : Fw) => (some (x.Ok ∧ y.Ok ∧ y.f.a + y.f.e ≤ x.f.a), fxT (subF x.f y.f))
theorem seSub_vc (x y : Fw) (Q : Tv → Prop) : execF ⟨tys3, sSer1⟩ (fun _ => none) 0 Tryz.f152 [.agg (fwL false x), .agg (fwL false y)] Q = (Fw.Ok y ∧ val (ws ((Fw.f y).a + (Fw.f y).e)) ≤ val x.xs ∧ true = true ∧ Q (Tv.sv (Sv.agg [At.words true (ws (val x.xs - val (ws ((Fw.f y).a + (Fw.f y).e)))), At.int .u64 (IntKind.wrap IntKind.u64 (x.e + y.e))]))) := by kernel_rfl
theorem seSub_ok : SpecOk Tryz.prog 152 seSub :=
  specKW_ok (envOk tys3_ok sSer1_ok) mixed Tryz.func152 rfl (by decide) (by decide) fun (x : Fw) _ (y : Fw) hy hp => ⟨fun _ => none, 0, by
    obtain ⟨⟨a1, a2, a3⟩, yo, h⟩ : x.Ok ∧ y.Ok ∧ y.f.a + y.f.e ≤ x.f.a := hp
    have y0 := WfW.val0 (xs := y.xs) hy
    have yo2 := yo.2
    refine (seSub_vc x y _).mpr ?_
    rw [val_ws (by rw [y.f_a, y.f_e]; omega), wrap_w ⟨by omega, by omega⟩]
    exact ⟨yo, h, rfl, .inr rfl⟩⟩
theorem Fw.Ok.len {x : Fw} (h : x.Ok) (hw : WfW x.xs) : 0 ≤ x.f.a ∧ 0 ≤ x.f.a + x.f.e ∧ (ws x.f.a).length ≤ 1073741824 ∧ (ws (x.f.a + x.f.e)).length ≤ 1073741825 := by
  have h0 := WfW.val0 hw
  obtain ⟨h1, h2, h3⟩ := h
  have h4 := small_len hw
  refine ⟨h0, by rw [x.f_a, x.f_e]; omega, by rw [x.f_a]; omega, ?_⟩
  refine ws_length_le ?_
  have a1 := lt_wpow_ws h0
  have a2 := wpow_le (show (ws (val x.xs)).length ≤ 1073741824 by omega)
  rw [wpow_succ, x.f_a, x.f_e]
  have := wpow_pos 1073741824
  generalize wpow 1073741824 = W at *
  omega
def sSer2 : List (FuncId × Spec) := [(87, rForm)] ++ sSer1
theorem sSer2_ok : SpecsOk Tryz.prog sSer2 := ⟨rForm_ok, sSer1_ok⟩
def ivF (x : Fx) (q : Int) : Vx := ⟨mkD false x.a (-q), mkD false (x.a + x.e) (-q)⟩
def seIval : Spec := specK [.fx, .i .i64] fun (x : Fw) (q : Int) => (some (x.Ok ∧ 0 ≤ q ∧ q ≤ 16777216), vT (ivF x.f q))
theorem seIval_vc (x : Fw) (q : Int) (Q : Tv → Prop) : execF ⟨tys3, sSer2⟩ (fun _ => none) 0 Tryz.f107 [.agg (fwL false x), .one (.int .i64 q)] Q = (inR ((0 : Int) - q) ∧ ((-4611686018427387904 : Int) ≤ (0 : Int) - q ∧ (0 : Int) - q ≤ (4611686018427387904 : Int)) ∧ Fw.Ok x ∧ inR ((0 : Int) - q) ∧ ((-4611686018427387904 : Int) ≤ (0 : Int) - q ∧ (0 : Int) - q ≤ (4611686018427387904 : Int)) ∧ true = true ∧ Q (Tv.sv (Sv.agg (ivL true (Vx.mk (mkD false (val x.xs) ((0 : Int) - q)) (mkD false (val (ws ((Fw.f x).a + (Fw.f x).e))) ((0 : Int) - q))))))) := by kernel_rfl
theorem seIval_ok : SpecOk Tryz.prog 107 seIval :=
  specK_ok (envOk tys3_ok sSer2_ok) mixed Tryz.func107 rfl (by decide) (by decide) fun (x : Fw) hx (q : Int) _ hp => ⟨fun _ => none, 0, by
    obtain ⟨xo, q0, q1⟩ : x.Ok ∧ 0 ≤ q ∧ q ≤ 16777216 := hp
    refine (seIval_vc x q _).mpr ?_
    rw [val_ws (xo.len hx).2.1, Int.zero_sub]
    exact ⟨⟨by omega, by omega⟩, ⟨by omega, by omega⟩, xo, ⟨by omega, by omega⟩, ⟨by omega, by omega⟩, rfl, rfl⟩⟩
theorem mkD_e0 {neg : Bool} {m e : Int} (h : 0 ≤ e) : 0 ≤ (mkD neg m e).e := by
  unfold mkD; split
  · exact Int.le_refl _
  · show 0 ≤ e + (tz m : Int); omega
theorem floorD_p {d : Dx} : 0 ≤ (floorD d).m := by unfold floorD; split; exact oneD_p; exact mkD_p
theorem floorD_e {d : Dx} : 0 ≤ (floorD d).e := by
  unfold floorD; split
  · assumption
  · exact mkD_e0 (Int.le_refl _)
theorem floorD_sm {d : Dx} {N : Nat} (hd : 0 ≤ d.m) (h : d.Sm N) : (floorD d).Sm (N + N + 2) := by
  have z := one_sm hd h
  unfold floorD; split
  · exact z.mono (by omega)
  · have p0 := two_pow_pos (-(oneD d).e).toNat
    have m0 : 0 ≤ (oneD d).m := oneD_p
    have hq : 0 ≤ (oneD d).m / 2 ^ (-(oneD d).e).toNat := Int.ediv_nonneg m0 (by omega)
    have hl : (oneD d).m / 2 ^ (-(oneD d).e).toNat ≤ (oneD d).m := Int.ediv_le_self _ m0
    have hb : blen ((oneD d).m / 2 ^ (-(oneD d).e).toNat + if (lostB (oneD d).m (-(oneD d).e).toNat && (oneD d).neg) = true then 1 else 0) ≤ N + N + 1 := by
      refine blen_le ?_
      have h1 := blen_lt (oneD d).m
      have h2 := two_pow_le (j := blen (oneD d).m) (k := N + N) z.1
      have h3 := two_pow_pos (N + N)
      rw [Int.pow_succ]
      split <;> omega
    exact (mkD_sm (N := N + N + 1) (M := 0) (by split <;> omega) hb (by omega) (by omega)).mono (by omega)
end Go.Proofs.YtdnbckfhfhfkoaaGreatDoor

namespace Go.Proofs.YtdnbckfhfhfkoaaGreatDoor
open Go.RowKit
def tyF3 : TyRow := ⟨51, 1, false, [.lit .nilFunc], .func⟩
def tys2 : List TyRow := [tyF3] ++ tys
theorem tys2_ok : RowsOk Tryz.prog tys2 := ⟨by kernel_rfl, tys_ok⟩
@[match_pattern] abbrev cD (n : Bool) (xs : List Int) (e : Int) : List At := [.bool n, .words false xs, .int .i64 e]
@[match_pattern] abbrev cV (n : Bool) (xs : List Int) (e : Int) (n' : Bool) (xs' : List Int) (e' : Int) : List At := [.bool n, .words false xs, .int .i64 e, .bool n', .words false xs', .int .i64 e']
def zeroIv : Vx := ⟨⟨false, [], 0⟩, ⟨false, [], 0⟩⟩
/-- An answer, if it has room. -/
def roomR (v : Vx) : Vx × Int := if (v.lo.fitsB && v.hi.fitsB) = true then (v, 0) else (zeroIv, 3)
/-- An answer, if it may be asked. -/
def whenR (c : Bool) (r : Vx × Int) : Vx × Int := if c = true then r else (zeroIv, 2)
def reT (r : Vx × Int) : Tv := .tup [.agg (ivL false r.1), .one (.int .i64 r.2)]
def vRoom : Spec := specK [.v] fun (v : Vx) => (none, reT (roomR v))
theorem vRoom_vc (v : Vx) (Q : Tv → Prop) : execF ⟨tys2, sRaw8⟩ (fun _ => none) 0 Tryz.f139 [.agg (ivL false v)] Q = (br (!Dx.fitsB v.lo) (Q (Tv.tup [Sv.agg [At.bool false, At.words true [], At.int IntKind.i64 (0 : Int), At.bool false, At.words true [], At.int IntKind.i64 (0 : Int)], Sv.one (At.int IntKind.i64 (3 : Int))])) (br (!Dx.fitsB v.hi) (Q (Tv.tup [Sv.agg [At.bool false, At.words true [], At.int IntKind.i64 (0 : Int), At.bool false, At.words true [], At.int IntKind.i64 (0 : Int)], Sv.one (At.int IntKind.i64 (3 : Int))])) (Q (Tv.tup [Sv.agg (ivL false v), Sv.one (At.int IntKind.i64 (0 : Int))])))) := by kernel_rfl
theorem not_true {b : Bool} (h : (!b) = true) : b = false := by cases b <;> simp_all
theorem not_false' {b : Bool} (h : (!b) = false) : b = true := by cases b <;> simp_all
theorem vRoom_ok : SpecOk Tryz.prog 139 vRoom :=
  specKW_ok (envOk tys2_ok sRaw8_ok) mixed Tryz.func139 rfl (by decide) (by decide) fun (v : Vx) _ _ => ⟨fun _ => none, 0, by
    show execF _ _ _ _ _ (fun t => t = reT (roomR v) ∨ fgT t = reT (roomR v))
    refine (vRoom_vc v _).mpr (br_intro (fun h => ?_) fun h => br_intro (fun h1 => ?_) fun h1 => ?_)
    · right; rw [roomR, not_true h]; rfl
    · right; rw [roomR, not_true h1, Bool.and_false]; rfl
    · left; rw [roomR, not_false' h, not_false' h1]; rfl⟩
theorem right_fits {v : Vx} (h : rightV v = true) : v.lo.fitsB = true ∧ v.hi.fitsB = true ∧ cmpD v.lo v.hi ≤ 0 := by
  unfold rightV at h; simpa using h
theorem right_sm {v : Vx} (h : rightV v = true) : v.Sm 65536 := ⟨fits_sm (right_fits h).1, fits_sm (right_fits h).2.1⟩
def narrowB (v : Vx) (p : Int) : Bool := leI 0 p && (rightV v && narrowV v p)
def sIv1 : List (FuncId × Spec) := [(139, vRoom)] ++ sRaw8
theorem sIv1_ok : SpecsOk Tryz.prog sIv1 := ⟨vRoom_ok, sRaw8_ok⟩
/-! What is handed on as a function. -/
def canonV (v : Vx) : Vx := ⟨oneD v.lo, oneD v.hi⟩
def vT1 : Spec := fun l => match l with
  | [.one (.ref (cV n xs e n' xs' e')), .one (.ref [.int .i64 k])] => (some (Vx.Sm 65536 ⟨⟨n, xs, e⟩, ⟨n', xs', e'⟩⟩ ∧ 1 ≤ k ∧ k ≤ 8192), vT (trimV ⟨⟨n, xs, e⟩, ⟨n', xs', e'⟩⟩ k))
  | _ => noSpec
theorem vT1_vc (v : Vx) (n : Int) (Q : Tv → Prop) : execF ⟨tys2, sRaw8⟩ (fun _ => none) 0 Tryz.f110 [.one (.ref (ivL false v)), .one (.ref [.int .i64 n])] Q = ((Vx.Sm (34359738368 : Nat) v ∧ (0 : Int) ≤ n ∧ n ≤ (1099511627776 : Int)) ∧ Q (Tv.sv (Sv.agg (ivL true (trimV v n))))) := by kernel_rfl
theorem vT1_ok : SpecOk Tryz.prog 110 vT1 :=
  specOk_pat (envOk tys2_ok sRaw8_ok) mixed Tryz.func110 rfl (by decide) 2 (by decide) fun l p t hw e hp => by
    unfold vT1 at e
    split at e
    · rename_i n xs e n' xs' e' k
      cases e
      obtain ⟨s, k0, k1⟩ := hp
      exact ⟨Nat.le_refl 2, fun _ => none, 0, (vT1_vc ⟨⟨n, xs, e⟩, ⟨n', xs', e'⟩⟩ k _).mpr ⟨⟨s.mono (by omega), by omega, by omega⟩, Or.inl rfl⟩⟩
    · cases e; exact hp.elim
def sIv2 : List (FuncId × Spec) := [(110, vT1)] ++ sIv1
theorem sIv2_ok : SpecsOk Tryz.prog sIv2 := ⟨vT1_ok, sIv1_ok⟩
end Go.Proofs.YtdnbckfhfhfkoaaGreatDoor

namespace Go.Proofs.YtdnbckfhfhfkoaaGreatDoor
open Go.RowKit
def Qw (r : Vx × Int) (t : Tv) : Prop := t = reT r ∨ fgT t = reT r
abbrev zT (n : Int) : Tv := .tup [.agg zV, .one (.int .i64 n)]
theorem lt_not {a b : Int} (h : ltI a b = true) : leI b a = false := by rw [leI_false]; have := ltI_true.1 h; omega
theorem nlt_le {a b : Int} (h : ltI a b = false) : leI b a = true := by rw [leI_true]; have := ltI_false.1 h; omega
theorem oT_vc (ok : Bool) (v u : Vx) (k : Int) (Q : Tv → Prop) : execF ⟨tys2, sIv2⟩ (fun _ => none) 4 Tryz.f109 [.one (.bool ok), .one (.fn 110 [.ref (ivL false v), .ref [.int .i64 k]]), .one (.rows false 6 1 (ivL false u))] Q = (((0 : Int) ≤ (0 : Int) ∧ (0 : Int) < (↑(1 : Nat) : Int)) ∧ br ok (inR ((0 : Int) + (1 : Int)) ∧ br (!rightV u) (Q (Tv.tup [Sv.agg [At.bool false, At.words true [], At.int IntKind.i64 (0 : Int), At.bool false, At.words true [], At.int IntKind.i64 (0 : Int)], Sv.one (At.int IntKind.i64 (2 : Int))])) ((Vx.Sm (65536 : Nat) v ∧ (1 : Int) ≤ k ∧ k ≤ (8192 : Int)) ∧ Q (Tv.tup [Sv.agg (ivL false (roomR (trimV v k)).fst), Sv.one (At.int IntKind.i64 (roomR (trimV v k)).snd)]))) (inR ((0 : Int) + (1 : Int)) ∧ Q (Tv.tup [Sv.agg [At.bool false, At.words true [], At.int IntKind.i64 (0 : Int), At.bool false, At.words true [], At.int IntKind.i64 (0 : Int)], Sv.one (At.int IntKind.i64 (2 : Int))]))) := by kernel_rfl
theorem when_false {r : Vx × Int} {c : Bool} (h : c = false) : Qw (whenR c r) (zT 2) := by subst h; exact Or.inr rfl
theorem when_true {r : Vx × Int} {c : Bool} (h : c = true) : Qw (whenR c r) (reT r) := by subst h; exact Or.inl rfl
theorem of1_br {ok : Bool} {u : Vx} {r : Vx × Int} {R : Prop} (_ : ok = true → rightV u = true → R ∧ Qw (whenR (ok && rightV u) r) (reT r) → R ∧ Qw (whenR (ok && rightV u) r) (reT r)) (hR : ok = true → rightV u = true → R) :
    ((0 : Int) ≤ 0 ∧ (0 : Int) < ((1 : Nat) : Int)) ∧ br ok (inR (0 + 1) ∧ br (!rightV u) (Qw (whenR (ok && rightV u) r) (zT 2)) (R ∧ Qw (whenR (ok && rightV u) r) (reT r))) (inR (0 + 1) ∧ Qw (whenR (ok && rightV u) r) (zT 2)) := by
  refine ⟨⟨by omega, by omega⟩, br_intro (fun h1 => ⟨⟨by omega, by omega⟩, br_intro (fun h2 => ?_) fun h2 => ⟨hR h1 (not_false' h2), ?_⟩⟩) fun h1 => ⟨⟨by omega, by omega⟩, ?_⟩⟩
  · exact when_false (by rw [not_true h2, Bool.and_false])
  · exact when_true (by rw [h1, not_false' h2]; rfl)
  · exact when_false (by rw [h1]; rfl)
def ofT (g : Nat) (ok : Bool) (v u : Vx) (k : Int) : Option Prop × Tv :=
  match Nat.beq g 110 with
  | true => (some ((ok = true → 1 ≤ k ∧ k ≤ 8192) ∧ (rightV u = true → Vx.Sm 65536 v)), reT (whenR (ok && rightV u) (roomR (trimV v k))))
  | false => noSpec
def vOfT : Spec := fun l => match l with
  | [.one (.bool ok), .one (.fn g [.ref (cV n xs e n' xs' e'), .ref [.int .i64 k]]), .one (.rows false 6 1 (cV m ys i m' ys' i'))] => ofT g ok ⟨⟨n, xs, e⟩, ⟨n', xs', e'⟩⟩ ⟨⟨m, ys, i⟩, ⟨m', ys', i'⟩⟩ k
  | _ => noSpec
theorem ofT_ok {g : Nat} {ok : Bool} {v u : Vx} {k : Int} {q : Option Prop} {t : Tv} (hp : match q with | none => True | some q => q) (e : ofT g ok v u k = (q, t)) :
    execF ⟨tys2, sIv2⟩ (fun _ => none) 4 Tryz.f109 [.one (.bool ok), .one (.fn g [.ref (ivL false v), .ref [.int .i64 k]]), .one (.rows false 6 1 (ivL false u))] (fun x => x = t ∨ fgT x = t) := by
  unfold ofT at e
  split at e
  · rename_i hb
    obtain rfl := Nat.eq_of_beq_eq_true hb
    cases e
    exact (oT_vc ok v u k _).mpr (of1_br (fun _ _ h => h) fun h1 h2 => ⟨hp.2 h2, hp.1 h1⟩)
  · cases e; exact hp.elim
theorem vOfT_ok : SpecOk Tryz.prog 109 vOfT :=
  specOk_pat (envOk tys2_ok sIv2_ok) mixed Tryz.func109 rfl (by decide) 3 (by decide) fun l q t hw he hp => by
    unfold vOfT at he
    split at he
    · rename_i ok g n xs e n' xs' e' k m ys i m' ys' i'
      exact ⟨Nat.le_refl 3, fun _ => none, 4, ofT_ok (v := ⟨⟨n, xs, e⟩, ⟨n', xs', e'⟩⟩) (u := ⟨⟨m, ys, i⟩, ⟨m', ys', i'⟩⟩) hp he⟩
    · cases he; exact hp.elim
def sIvT : List (FuncId × Spec) := [(109, vOfT)] ++ sIv2
theorem sIvT_ok : SpecsOk Tryz.prog sIvT := ⟨vOfT_ok, sIv2_ok⟩
/-! What others ask. -/
def ivCut (v : Vx) (p : Int) : Vx × Int := whenR ((leI 1 p && leI p 8192) && rightV v) (roomR (trimV v p))
def vXCut : Spec := specK [.v, .i .i64] fun (v : Vx) (p : Int) => (none, reT (ivCut v p))
theorem vXCut_vc (v : Vx) (p : Int) (Q : Tv → Prop) : execF ⟨tys2, sIvT⟩ (fun _ => none) 0 Tryz.f74 [.agg (ivL false v), .one (.int .i64 p)] Q = (br (leI (1 : Int) p) (((leI p (8192 : Int) = true → (1 : Int) ≤ p ∧ p ≤ (8192 : Int)) ∧ (rightV v = true → Vx.Sm (65536 : Nat) v)) ∧ Q (Tv.tup [Sv.agg (ivL false (whenR (leI p (8192 : Int) && rightV v) (roomR (trimV v p))).fst), Sv.one (At.int IntKind.i64 (whenR (leI p (8192 : Int) && rightV v) (roomR (trimV v p))).snd)])) (((false = true → (1 : Int) ≤ p ∧ p ≤ (8192 : Int)) ∧ (rightV v = true → Vx.Sm (65536 : Nat) v)) ∧ Q (Tv.tup [Sv.agg (ivL false (whenR (false && rightV v) (roomR (trimV v p))).fst), Sv.one (At.int IntKind.i64 (whenR (false && rightV v) (roomR (trimV v p))).snd)]))) := by kernel_rfl
theorem vXCut_ok : SpecOk Tryz.prog 74 vXCut :=
  specK_ok (envOk tys2_ok sIvT_ok) mixed Tryz.func74 rfl (by decide) (by decide) fun (v : Vx) _ (p : Int) _ _ => ⟨fun _ => none, 0, by
    show execF _ _ _ _ _ (fun t => t = reT (ivCut v p))
    refine (vXCut_vc v p _).mpr (br_intro (fun h => ⟨⟨fun k => ⟨leI_true.1 h, leI_true.1 k⟩, right_sm⟩, ?_⟩) fun h => ⟨⟨fun k => by simp at k, right_sm⟩, ?_⟩)
    · unfold ivCut; rw [h]; rfl
    · unfold ivCut; rw [h]; rfl⟩
end Go.Proofs.YtdnbckfhfhfkoaaGreatDoor

namespace Go.Proofs.YtdnbckfhfhfkoaaGreatDoor
open Go.RowKit
def gRight : Spec := specK [.v] fun (v : Vx) => (none, bT (rightV v))
theorem gRight_vc (v : Vx) (Q : Tv → Prop) : execF ⟨tys2, sRef4⟩ (fun _ => none) 0 Tryz.f28 [.agg (ivL false v)] Q = (br (Dx.fitsB v.lo) (br (Dx.fitsB v.hi) ((Dx.Sm (34359738368 : Nat) v.lo ∧ Dx.Sm (34359738368 : Nat) v.hi) ∧ Q (Tv.sv (Sv.one (At.bool (leI (cmpD v.lo v.hi) (0 : Int)))))) (Q (Tv.sv (Sv.one (At.bool false))))) (Q (Tv.sv (Sv.one (At.bool false))))) := by kernel_rfl
theorem gRight_ok : SpecOk Tryz.prog 28 gRight :=
  specK_ok (envOk tys2_ok sRef4_ok) mixed Tryz.func28 rfl (by decide) (by decide) fun (v : Vx) _ _ => ⟨fun _ => none, 0, by
    refine (gRight_vc v _).mpr (br_intro (fun h1 => br_intro (fun h2 => ⟨⟨(fits_sm h1).mono (by omega), (fits_sm h2).mono (by omega)⟩, ?_⟩) fun h2 => ?_) fun h1 => ?_)
    · show _ = bT (rightV v); rw [rightV, h1, h2]; rfl
    · show _ = bT (rightV v); rw [rightV, h1, h2]; rfl
    · show _ = bT (rightV v); rw [rightV, h1]; rfl⟩
def gOne : Spec := specK [.v] fun (v : Vx) => (some (v.Sm 65536), vT (canonV v))
theorem gOne_vc (v : Vx) (Q : Tv → Prop) : execF ⟨tys2, sRef4⟩ (fun _ => none) 0 Tryz.f60 [.agg (ivL false v)] Q = (eB (4611686018427387904 : Int) v.lo ∧ eB (4611686018427387904 : Int) v.hi ∧ true = true ∧ Q (Tv.sv (Sv.agg (ivL true (Vx.mk (oneD v.lo) (oneD v.hi)))))) := by kernel_rfl
theorem gOne_ok : SpecOk Tryz.prog 60 gOne :=
  specK_ok (envOk tys2_ok sRef4_ok) mixed Tryz.func60 rfl (by decide) (by decide) fun (v : Vx) _ hp => ⟨fun _ => none, 0, (gOne_vc v _).mpr ⟨hp.1.eB (by omega), hp.2.eB (by omega), rfl, rfl⟩⟩
def gPoint : Spec := specK [.d] fun (d : Dx) => (some (eB 4611686018427387904 d), vT (pointV d))
theorem gPoint_vc (d : Dx) (Q : Tv → Prop) : execF ⟨tys2, sRef4⟩ (fun _ => none) 0 Tryz.f31 [.agg (dyL false d)] Q = (eB (4611686018427387904 : Int) d ∧ Q (Tv.sv (Sv.agg (ivL true (Vx.mk (oneD d) (oneD d)))))) := by kernel_rfl
theorem gPoint_ok : SpecOk Tryz.prog 31 gPoint :=
  specK_ok (envOk tys2_ok sRef4_ok) mixed Tryz.func31 rfl (by decide) (by decide) fun (d : Dx) _ hp => ⟨fun _ => none, 0, (gPoint_vc d _).mpr ⟨hp, rfl⟩⟩
def gTrim : Spec := specK [.v, .i .i64] fun (v : Vx) (p : Int) => (some (v.Sm 34359738368 ∧ 0 ≤ p ∧ p ≤ 1099511627776), vT (trimV v p))
theorem gTrim_vc (v : Vx) (p : Int) (Q : Tv → Prop) : execF ⟨tys2, sRef4⟩ (fun _ => none) 0 Tryz.f76 [.agg (ivL false v), .one (.int .i64 p)] Q = ((Dx.Sm (34359738368 : Nat) v.lo ∧ (0 : Int) ≤ p ∧ p ≤ (1099511627776 : Int)) ∧ (Dx.Sm (34359738368 : Nat) v.hi ∧ (0 : Int) ≤ p ∧ p ≤ (1099511627776 : Int)) ∧ true = true ∧ Q (Tv.sv (Sv.agg (ivL true (Vx.mk (cutD v.lo p false) (cutD v.hi p true)))))) := by kernel_rfl
theorem gTrim_ok : SpecOk Tryz.prog 76 gTrim :=
  specK_ok (envOk tys2_ok sRef4_ok) mixed Tryz.func76 rfl (by decide) (by decide) fun (v : Vx) _ (p : Int) _ hp => ⟨fun _ => none, 0, (gTrim_vc v p _).mpr ⟨⟨hp.1.1, hp.2⟩, ⟨hp.1.2, hp.2⟩, rfl, rfl⟩⟩
def gNeg : Spec := specK [.v] fun (v : Vx) => (some (eB 4611686018427387904 v.lo ∧ eB 4611686018427387904 v.hi), vT (turnV v))
theorem gNeg_vc (v : Vx) (Q : Tv → Prop) : execF ⟨tys2, sRef4⟩ (fun _ => none) 0 Tryz.f23 [.agg (ivL false v)] Q = (eB (4611686018427387904 : Int) v.hi ∧ eB (4611686018427387904 : Int) v.lo ∧ true = true ∧ Q (Tv.sv (Sv.agg (ivL true (Vx.mk (negD v.hi) (negD v.lo)))))) := by kernel_rfl
theorem gNeg_ok : SpecOk Tryz.prog 23 gNeg :=
  specK_ok (envOk tys2_ok sRef4_ok) mixed Tryz.func23 rfl (by decide) (by decide) fun (v : Vx) _ hp => ⟨fun _ => none, 0, (gNeg_vc v _).mpr ⟨hp.2, hp.1, rfl, rfl⟩⟩
def gScale : Spec := specK [.v, .i .i64] fun (v : Vx) (n : Int) => (some (eB 2305843009213693952 v.lo ∧ eB 2305843009213693952 v.hi ∧ -2305843009213693952 ≤ n ∧ n ≤ 2305843009213693952), vT (scaleV v n))
theorem gScale_vc (v : Vx) (n : Int) (Q : Tv → Prop) : execF ⟨tys2, sRef4⟩ (fun _ => none) 0 Tryz.f29 [.agg (ivL false v), .one (.int .i64 n)] Q = ((eB (2305843009213693952 : Int) v.lo ∧ (-2305843009213693952 : Int) ≤ n ∧ n ≤ (2305843009213693952 : Int)) ∧ (eB (2305843009213693952 : Int) v.hi ∧ (-2305843009213693952 : Int) ≤ n ∧ n ≤ (2305843009213693952 : Int)) ∧ true = true ∧ Q (Tv.sv (Sv.agg (ivL true (Vx.mk (shiftD v.lo n) (shiftD v.hi n)))))) := by kernel_rfl
theorem gScale_ok : SpecOk Tryz.prog 29 gScale :=
  specK_ok (envOk tys2_ok sRef4_ok) mixed Tryz.func29 rfl (by decide) (by decide) fun (v : Vx) _ (n : Int) _ hp => ⟨fun _ => none, 0, by
    obtain ⟨h1, h2, h3⟩ : eB 2305843009213693952 v.lo ∧ eB 2305843009213693952 v.hi ∧ -2305843009213693952 ≤ n ∧ n ≤ 2305843009213693952 := hp
    exact (gScale_vc v n _).mpr ⟨⟨h1, h3⟩, ⟨h2, h3⟩, rfl, rfl⟩⟩
def sameV (v u : Vx) : Bool := sameD v.lo u.lo && sameD v.hi u.hi
def gSame : Spec := specK [.v, .v] fun (v : Vx) (u : Vx) => (none, bT (sameV v u))
theorem gSame_vc (v u : Vx) (Q : Tv → Prop) : execF ⟨tys2, sRef4⟩ (fun _ => none) 0 Tryz.f15 [.agg (ivL false v), .agg (ivL false u)] Q = (br (sameD v.lo u.lo) (Q (Tv.sv (Sv.one (At.bool (sameD v.hi u.hi))))) (Q (Tv.sv (Sv.one (At.bool false))))) := by kernel_rfl
theorem gSame_ok : SpecOk Tryz.prog 15 gSame :=
  specK_ok (envOk tys2_ok sRef4_ok) mixed Tryz.func15 rfl (by decide) (by decide) fun (v : Vx) _ (u : Vx) _ _ => ⟨fun _ => none, 0, by
    show execF _ _ _ _ _ (fun t => t = bT (sameV v u))
    refine (gSame_vc v u _).mpr (br_intro (fun h => ?_) fun h => ?_) <;> rw [sameV, h] <;> rfl⟩
def sG1 : List (FuncId × Spec) := [(28, gRight), (60, gOne), (31, gPoint), (76, gTrim), (23, gNeg), (29, gScale), (15, gSame)] ++ sRef4
theorem sG1_ok : SpecsOk Tryz.prog sG1 := ⟨gRight_ok, gOne_ok, gPoint_ok, gTrim_ok, gNeg_ok, gScale_ok, gSame_ok, sRef4_ok⟩
theorem right_le {v : Vx} (h : rightV v = true) : v.lo.rv ≤ v.hi.rv := cmpD_le.1 (right_fits h).2.2
def gNarrow : Spec := specK [.v, .i .i64] fun (v : Vx) (p : Int) => (none, bT (narrowB v p))
theorem gNarrow_vc (v : Vx) (p : Int) (Q : Tv → Prop) : execF ⟨tys2, sG1⟩ (fun _ => none) 0 Tryz.f18 [.agg (ivL false v), .one (.int .i64 p)] Q = (br (!rightV v) (Q (Tv.sv (Sv.one (At.bool false)))) (br (ltI p (0 : Int)) (Q (Tv.sv (Sv.one (At.bool false)))) (true = true ∧ br (neI (Dx.sgn v.lo) (Dx.sgn v.hi)) (Q (Tv.sv (Sv.one (At.bool (eqI (Dx.sgn v.lo) (Dx.sgn v.hi)))))) (br (eqI (Dx.sgn v.lo) (0 : Int)) (Q (Tv.sv (Sv.one (At.bool (eqI (Dx.sgn v.lo) (Dx.sgn v.hi)))))) (br (ltI (Dx.sgn v.lo) (0 : Int)) (eB (4611686018427387904 : Int) v.hi ∧ (Dx.Sm (34359738368 : Nat) v.hi ∧ Dx.Sm (34359738368 : Nat) v.lo) ∧ br (Dx.zeroB (lessD v.hi v.lo)) (Q (Tv.sv (Sv.one (At.bool true)))) (br (ltI (196608 : Int) p) (Q (Tv.sv (Sv.one (At.bool false)))) ((eB (2305843009213693952 : Int) (lessD v.hi v.lo) ∧ (-2305843009213693952 : Int) ≤ p ∧ p ≤ (2305843009213693952 : Int)) ∧ (Dx.Sm (34359738368 : Nat) (shiftD (lessD v.hi v.lo) p) ∧ Dx.Sm (34359738368 : Nat) (negD v.hi)) ∧ true = true ∧ Q (Tv.sv (Sv.one (At.bool (leI (cmpD (shiftD (lessD v.hi v.lo) p) (negD v.hi)) (0 : Int)))))))) ((Dx.Sm (34359738368 : Nat) v.hi ∧ Dx.Sm (34359738368 : Nat) v.lo) ∧ br (Dx.zeroB (lessD v.hi v.lo)) (Q (Tv.sv (Sv.one (At.bool true)))) (br (ltI (196608 : Int) p) (Q (Tv.sv (Sv.one (At.bool false)))) ((eB (2305843009213693952 : Int) (lessD v.hi v.lo) ∧ (-2305843009213693952 : Int) ≤ p ∧ p ≤ (2305843009213693952 : Int)) ∧ (Dx.Sm (34359738368 : Nat) (shiftD (lessD v.hi v.lo) p) ∧ Dx.Sm (34359738368 : Nat) v.lo) ∧ true = true ∧ Q (Tv.sv (Sv.one (At.bool (leI (cmpD (shiftD (lessD v.hi v.lo) p) v.lo) (0 : Int))))))))))))) := by kernel_rfl
theorem wide_ge {v : Vx} (hv : v.P) (hr : rightV v = true) (hz : (lessD v.hi v.lo).zeroB = false) : p2 (-32768) ≤ (lessD v.hi v.lo).rv := by
  have h := rv_less hv.2 hv.1
  have f := right_fits hr
  have hm := (rv_mul2 (fits_e f.2.1).1).sub (rv_mul2 (fits_e f.1).1)
  rw [← h] at hm
  refine hm.pos ?_
  have := right_le hr
  have : (lessD v.hi v.lo).rv ≠ 0 := fun e => by rw [(zeroB_rv lessD_p).2 e] at hz; simp at hz
  grind
theorem narrow_part {w l l' : Dx} {p : Int} {r : Bool} (w0 : 0 ≤ w.m) (l0 : 0 ≤ l.m) (hw : p2 (-32768) ≤ w.rv) (hl : l.rv < p2 98304) (e : l'.rv = l.rv) (p0 : 0 ≤ p) (sw : w.Sm 4294967296) (sl : l'.Sm 4294967296) (hr : r = narrowX w l p) :
    br (ltI 196608 p) (Tv.sv (Sv.one (At.bool false)) = bT r) ((eB 2305843009213693952 w ∧ (-2305843009213693952 : Int) ≤ p ∧ p ≤ (2305843009213693952 : Int)) ∧ (Dx.Sm 34359738368 (shiftD w p) ∧ Dx.Sm 34359738368 l') ∧ true = true ∧ Tv.sv (Sv.one (At.bool (leI (cmpD (shiftD w p) l') 0))) = bT r) := by
  rw [hr, narrowX_eq w0 l0 hw hl]
  refine br_intro (fun h => ?_) fun h => ?_
  · rw [decide_eq_false]
    intro k
    have := narrow_p hw hl k
    have := ltI_true.1 h
    omega
  · have h := ltI_false.1 h
    refine ⟨⟨sw.eB (by omega), by omega, by omega⟩, ⟨(shiftD_sm (N := 4294967296) (M := 196608) w0 sw (by omega) (by omega)).mono (by omega), sl.mono (by omega)⟩, rfl, ?_⟩
    have : leI (cmpD (shiftD w p) l') 0 = decide (w.rv * p2 p ≤ l.rv) := by
      unfold leI; rw [← e, ← decide_eq_decide.2 (cmp_shift (l := l') w0)]
    rw [this]
theorem gNarrow_ok : SpecOk Tryz.prog 18 gNarrow :=
  specK_ok (envOk tys2_ok sG1_ok) mixed Tryz.func18 rfl (by decide) (by decide) fun (v : Vx) hv (p : Int) _ _ => ⟨fun _ => none, 0, by
    have hv := Vx.Wf.p hv
    show execF _ _ _ _ _ (fun t => t = bT (narrowB v p))
    refine (gNarrow_vc v p _).mpr (br_intro (fun h => ?_) fun h => br_intro (fun h1 => ?_) fun h1 => ⟨rfl, br_intro (fun h2 => ?_) fun h2 => br_intro (fun h3 => ?_) fun h3 => ?_⟩)
    · rw [narrowB, not_true h, Bool.false_and, Bool.and_false]
    · rw [narrowB, lt_not h1, Bool.false_and]
    · have h2 := neI_true.1 h2
      rw [narrowB, nlt_le h1, not_false' h, narrowV, if_pos h2, show eqI v.lo.sgn v.hi.sgn = false from eqI_false.2 h2]; rfl
    · have h2 := neI_false.1 h2
      rw [narrowB, nlt_le h1, not_false' h, narrowV, if_neg (by omega), if_pos (eqI_true.1 h3), show eqI v.lo.sgn v.hi.sgn = true from eqI_true.2 h2]; rfl
    · have hr := not_false' h
      have h2 := neI_false.1 h2
      have h3 := eqI_false.1 h3
      have sv := right_sm hr
      have fv := right_fits hr
      have p0 := leI_true.1 (nlt_le h1)
      have sl := lessD_sm hv.2 hv.1 sv.2 sv.1
      have key : narrowB v p = if (lessD v.hi v.lo).zeroB then true else narrowX (lessD v.hi v.lo) (if v.lo.sgn < 0 then absD v.hi else absD v.lo) p := by
        rw [narrowB, nlt_le h1, hr, narrowV, if_neg (by omega), if_neg h3]; rfl
      rw [key]
      refine br_intro (fun h4 => ⟨sv.2.eB (by omega), ⟨sv.2.mono (by omega), sv.1.mono (by omega)⟩, br_intro (fun h5 => ?_) fun h5 => ?_⟩) fun h4 => ⟨⟨sv.2.mono (by omega), sv.1.mono (by omega)⟩, br_intro (fun h5 => ?_) fun h5 => ?_⟩
      · rw [h5]; rfl
      · have h4 := ltI_true.1 h4
        have hneg : v.hi.rv < 0 := by
          rcases sgn_rv hv.2 with ⟨a, b⟩ | ⟨a, b⟩ | ⟨a, b⟩ <;> first | exact b | omega
        rw [h5, if_pos h4]
        refine narrow_part lessD_p absD_p (wide_ge hv hr h5) ?_ ?_ p0 (sl.mono (by omega)) ((negD_sm sv.2 hv.2).mono (by omega)) rfl
        · rw [rv_abs hv.2]; exact fits_lt fv.2.1
        · rw [rv_abs hv.2, rv_neg hv.2, (rv_amt hv.2).2 (by grind)]
      · rw [h5]; rfl
      · have h4 := ltI_false.1 h4
        have hpos : 0 < v.lo.rv := by
          rcases sgn_rv hv.1 with ⟨a, b⟩ | ⟨a, b⟩ | ⟨a, b⟩ <;> first | exact b | omega
        rw [h5, if_neg h4]
        refine narrow_part lessD_p absD_p (wide_ge hv hr h5) ?_ ?_ p0 (sl.mono (by omega)) (sv.1.mono (by omega)) rfl
        · rw [rv_abs hv.1]; exact fits_lt fv.1
        · rw [rv_abs hv.1, (rv_amt hv.1).1 (by grind)]⟩
def sG2 : List (FuncId × Spec) := [(18, gNarrow)] ++ sG1
theorem sG2_ok : SpecsOk Tryz.prog sG2 := ⟨gNarrow_ok, sG1_ok⟩
end Go.Proofs.YtdnbckfhfhfkoaaGreatDoor

namespace Go.Proofs.YtdnbckfhfhfkoaaGreatDoor
open Go.RowKit
def findK (P : Nat → Bool) : Nat → Nat → Nat
  | 0, k => k
  | n + 1, k => match P k with | true => k | false => findK P n (k + 1)
/-! ### The terms of a sine, of a cosine. -/
theorem Fx.Ok.wf {z : Fx} (h : z.Ok) : WfW (ws z.a) := ⟨words_ws _, by have := h.w.1; have e : (fw z).xs = ws z.a := rfl; rw [e] at this; omega⟩
theorem shortF_e0 {x : Fx} {d : Int} (ha : 0 ≤ x.a) (he : 0 ≤ x.e) (hd : 0 < d) : 0 ≤ (shortF x d).a ∧ 2 ≤ (shortF x d).e ∧ (shortF x d).e ≤ x.e + 2 := by
  have q0 := Int.ediv_nonneg he (show 0 ≤ d by omega)
  have q1 := Int.ediv_le_self d he
  exact ⟨Int.ediv_nonneg ha (by omega), show 2 ≤ x.e / d + 2 by omega, show x.e / d + 2 ≤ x.e + 2 by omega⟩
def tyFx2 : TyRow := ⟨142, 4, true, [.words true [], .int .u64 0, .words true [], .int .u64 0], .array 2 2 true⟩
def tys4 : List TyRow := tyFx2 :: tys3
theorem tys4_ok : RowsOk Tryz.prog tys4 := ⟨by kernel_rfl, tys3_ok⟩
def clX (b o : Nat) (nw : Bool) (x : Fw) : List (Nat × Nat × At) := [(b, o, .words nw x.xs), (b, o + 1, .int .u64 x.e)]
theorem tmod2 (k : Nat) : Int.tmod (k : Int) 2 = ((k % 2 : Nat) : Int) := by rw [Int.tmod_eq_emod_of_nonneg (by omega)]; omega
end Go.Proofs.YtdnbckfhfhfkoaaGreatDoor

namespace Go.Proofs.YtdnbckfhfhfkoaaGreatDoor
open Go.RowKit
theorem findK_spec {P : Nat → Bool} : ∀ (n k j : Nat), k ≤ j → j < k + n → P j = true → k ≤ findK P n k ∧ findK P n k ≤ j ∧ P (findK P n k) = true ∧ ∀ i, k ≤ i → i < findK P n k → P i = false
  | 0, k, j, h1, h2, _ => by omega
  | n + 1, k, j, h1, h2, h3 => by
    unfold findK
    cases hk : P k with
    | true => exact ⟨Nat.le_refl _, h1, hk, fun i a b => by have b : i < k := b; omega⟩
    | false =>
      have hne : k ≠ j := fun e => by rw [e, h3] at hk; cases hk
      obtain ⟨a, b, c, d⟩ := findK_spec n (k + 1) j (by omega) (by omega) h3
      show k ≤ findK P n (k + 1) ∧ findK P n (k + 1) ≤ j ∧ P (findK P n (k + 1)) = true ∧ ∀ i, k ≤ i → i < findK P n (k + 1) → P i = false
      refine ⟨by omega, b, c, fun i x y => ?_⟩
      by_cases e : i = k
      · rw [e]; exact hk
      · exact d i (by omega) y
/-- The terms of a sine in w bits. -/
structure Alt (f : Nat) (sq : Fx) (w : Int) (x : Rat) : Prop where
  f1 : 1 ≤ f
  f2 : f ≤ 2
  w0 : 32 ≤ w
  w1 : w ≤ 65536
  hsq : InF w sq x
  he : sq.e ≤ 16
  x0 : 0 ≤ x
  x1 : x ≤ 1
theorem div_anti {m a b : Int} (h : 0 ≤ m) (ha : 0 < a) (hab : a ≤ b) : m / b ≤ m / a := by
  refine Int.le_ediv_of_mul_le ha ?_
  have q := Int.ediv_nonneg h (show 0 ≤ b by omega)
  have := Int.mul_le_mul_of_nonneg_left hab q
  have := Int.ediv_mul_le m (show b ≠ 0 by omega)
  omega
section
variable {f : Nat} {sq : Fx} {w : Int} {x : Rat}
theorem InF.one {w : Int} (h : 0 ≤ w) : InF w ⟨2 ^ w.toNat, 0⟩ 1 := by
  have p := two_pow_pos w.toNat
  have e := p2_toNat h
  refine ⟨show 0 ≤ 2 ^ w.toNat by omega, Int.le_refl _, ?_, ?_⟩
  · show ((2 ^ w.toNat : Int) : Rat) ≤ _; rw [← e]; grind
  · show _ ≤ ((2 ^ w.toNat + 0 : Int) : Rat); rw [Int.add_zero, ← e]; grind
theorem InF.a0 {z : Fx} {r : Rat} (h : InF w z r) : 0 ≤ z.a := h.1
theorem InF.e0 {z : Fx} {r : Rat} (h : InF w z r) : 0 ≤ z.e := h.2.1
theorem InF.zero (w : Int) : InF w ⟨0, 0⟩ 0 := ⟨Int.le_refl _, Int.le_refl _, by rw [Rat.zero_mul]; exact Rat.le_refl, by rw [Rat.zero_mul]; exact Rat.le_refl⟩
theorem div_p2 (n : Int) (w : Int) : (n : Rat) * p2 (-w) * p2 w = (n : Rat) := by rw [Rat.mul_assoc, p2_neg, Rat.mul_one]
theorem le_div_p2 {n w : Int} {r : Rat} (h : (n : Rat) ≤ r * p2 w) : (n : Rat) * p2 (-w) ≤ r := by
  rw [← mul_p2_le w, div_p2]; exact h
theorem div_p2_le {n w : Int} {r : Rat} (h : r * p2 w ≤ (n : Rat)) : r ≤ (n : Rat) * p2 (-w) := by
  rw [← mul_p2_le w, div_p2]; exact h
/-! ### What the sum's word asks. -/
theorem blen_pow_le {n : Int} {k : Nat} (h : n ≤ 2 ^ k) : blen n ≤ k + 1 := blen_le (Int.lt_of_le_of_lt h (two_pow_lt (by omega)))
end
end Go.Proofs.YtdnbckfhfhfkoaaGreatDoor

namespace Go.Proofs.YtdnbckfhfhfkoaaGreatDoor
open Go.RowKit
theorem log2_up : ∀ (n : Nat) (e : Int) (q : Rat), p2 e ≤ q → q < p2 (e + (n : Int) + 1) → ∃ k : Int, p2 k ≤ q ∧ q < p2 (k + 1)
  | 0, e, q, h1, h2 => ⟨e, h1, by rwa [show e + ((0 : Nat) : Int) + 1 = e + 1 by omega] at h2⟩
  | n + 1, e, q, h1, h2 => by
    rcases (show q < p2 (e + 1) ∨ p2 (e + 1) ≤ q by grind) with h | h
    · exact ⟨e, h1, h⟩
    · exact log2_up n (e + 1) q h (by rwa [show e + 1 + (n : Int) + 1 = e + ((n + 1 : Nat) : Int) + 1 by omega])
theorem log2_ex {q : Rat} (h : 0 < q) : ∃ k : Int, p2 k ≤ q ∧ q < p2 (k + 1) := by
  have hn : 0 < q.num := by have := (Rat.lt_iff 0 q).1 h; simpa using this
  have hd : (0 : Rat) < ((q.den : Int) : Rat) := cast_ne (by have := q.den_pos; omega)
  have e : q * ((q.den : Int) : Rat) = (q.num : Rat) := by
    have h1 := Rat.mkRat_self q
    rw [Rat.mkRat_eq_div, Rat.div_def, ← Rat.intCast_natCast] at h1
    have h2 := Rat.inv_mul_cancel ((q.den : Int) : Rat) (by grind)
    conv => lhs; lhs; rw [← h1]
    rw [Rat.mul_assoc, h2, Rat.mul_one]
  have a1 := amt_lt (m := q.num) (e := 0)
  have a2 := amt_ge (m := q.num) (e := 0) hn
  have b1 := amt_lt (m := (q.den : Int)) (e := 0)
  rw [p2_zero, Rat.mul_one] at a1 a2 b1
  have d1 : (1 : Rat) ≤ ((q.den : Int) : Rat) := by
    have := cast_le.2 (show (1 : Int) ≤ (q.den : Int) by have := q.den_pos; omega)
    exact this
  have u : q < p2 (0 + (blen q.num : Int)) := by
    have := Rat.mul_le_mul_of_nonneg_left d1 (Rat.le_of_lt h)
    grind
  have l : p2 (-(0 + (blen (q.den : Int) : Int))) ≤ q := by
    have p := p2_pos (0 + (blen (q.den : Int) : Int))
    rw [← Rat.not_lt, ← Rat.mul_lt_mul_right p, p2_neg]
    have h1 : (1 : Rat) ≤ (q.num : Rat) := cast_le.2 (show (1 : Int) ≤ q.num by omega)
    have := Rat.mul_le_mul_of_nonneg_left (Rat.le_of_lt b1) (Rat.le_of_lt h)
    grind
  exact log2_up (blen q.num + blen (q.den : Int)) _ q l (by have := p2_le (show (0 : Int) + (blen q.num : Int) ≤ -(0 + (blen (q.den : Int) : Int)) + ((blen q.num + blen (q.den : Int) : Nat) : Int) + 1 by omega); grind)
/-- One part in 2 to the power of p - 1. -/
def eps (p : Int) : Rat := p2 (1 - p)
theorem eps_pos (p : Int) : 0 < eps p := p2_pos _
theorem rat_floor {q : Rat} (hq : 0 ≤ q) (j : Int) : ∃ k : Int, 0 ≤ k ∧ (k : Rat) * p2 j ≤ q ∧ q < ((k + 1 : Int) : Rat) * p2 j := by
  refine ⟨(q * p2 (-j)).floor, ?_, ?_, ?_⟩
  · have := Rat.mul_nonneg hq (Rat.le_of_lt (p2_pos (-j)))
    exact Rat.le_floor_iff.2 (by simpa using this)
  · have h := Rat.mul_le_mul_of_nonneg_right (Rat.floor_le (q * p2 (-j))) (Rat.le_of_lt (p2_pos j))
    rwa [Rat.mul_assoc, p2_neg, Rat.mul_one] at h
  · have h := (mul_p2_lt j).2 (Rat.lt_floor_add_one (q * p2 (-j)))
    rw [Rat.mul_assoc, p2_neg, Rat.mul_one] at h
    exact h
theorem Dn.rel {p : Int} {q r : Rat} (h : Dn p q r) (hp : 1 ≤ p) (hq : 0 < q) : q - eps p * q ≤ r ∧ 0 < r := by
  obtain ⟨k, k1, k2⟩ := log2_ex hq
  obtain ⟨n, n0, n1, n2⟩ := rat_floor (Rat.le_of_lt hq) (k + 1 - p)
  have hP : (2 : Int) ^ (p - 1).toNat ≤ n := by
    have e : p2 (p - 1) * p2 (k + 1 - p) = p2 k := by rw [← p2_add]; congr 1; omega
    have : p2 (p - 1) < ((n + 1 : Int) : Rat) := by
      rw [← mul_p2_lt (k + 1 - p), e]; grind
    rw [p2_toNat (by omega)] at this
    have := cast_lt.1 this
    omega
  have r1 : (n : Rat) * p2 (k + 1 - p) ≤ r := by
    refine h.2.2 _ ?_ n1
    refine ⟨n, _, rfl, ?_, ?_⟩
    · have e : p2 p * p2 (k + 1 - p) = p2 (k + 1) := by rw [← p2_add]; congr 1; omega
      rw [← mul_p2_lt (k + 1 - p), e]; grind
    · have := p2_pos p
      have : (0 : Rat) ≤ (n : Rat) := cast_le.2 n0
      grind
  have e1 : p2 (k + 1 - p) = eps p * p2 k := by unfold eps; rw [← p2_add]; congr 1; omega
  have g1 := Rat.mul_le_mul_of_nonneg_left k1 (Rat.le_of_lt (eps_pos p))
  have e2 : ((n + 1 : Int) : Rat) * p2 (k + 1 - p) = (n : Rat) * p2 (k + 1 - p) + p2 (k + 1 - p) := by
    rw [Rat.intCast_add]; show ((n : Rat) + 1) * _ = _; grind
  have np : (0 : Rat) < (n : Rat) := cast_ne (by have := two_pow_pos (p - 1).toNat; omega)
  have := Rat.mul_pos np (p2_pos (k + 1 - p))
  exact ⟨by grind, by grind⟩
theorem Up.rel {p : Int} {q r : Rat} (h : Up p q r) (hp : 1 ≤ p) (hq : 0 < q) : r ≤ q + eps p * q := by
  obtain ⟨k, k1, k2⟩ := log2_ex hq
  obtain ⟨n, n0, n1, n2⟩ := rat_floor (Rat.le_of_lt hq) (k + 1 - p)
  have e1 : p2 (k + 1 - p) = eps p * p2 k := by unfold eps; rw [← p2_add]; congr 1; omega
  have g1 := Rat.mul_le_mul_of_nonneg_left k1 (Rat.le_of_lt (eps_pos p))
  have e2 : ((n + 1 : Int) : Rat) * p2 (k + 1 - p) = (n : Rat) * p2 (k + 1 - p) + p2 (k + 1 - p) := by
    rw [Rat.intCast_add]; show ((n : Rat) + 1) * _ = _; grind
  have e : p2 p * p2 (k + 1 - p) = p2 (k + 1) := by rw [← p2_add]; congr 1; omega
  have hn : (n : Rat) < p2 p := by rw [← mul_p2_lt (k + 1 - p), e]; grind
  have nn : (0 : Rat) ≤ (n : Rat) := cast_le.2 n0
  rcases (show (((n + 1 : Int) : Rat) < p2 p) ∨ p2 p ≤ ((n + 1 : Int) : Rat) by grind) with hl | hl
  · have r1 : r ≤ ((n + 1 : Int) : Rat) * p2 (k + 1 - p) := by
      refine h.2.2 _ ⟨n + 1, _, rfl, hl, ?_⟩ (Rat.le_of_lt n2)
      have := p2_pos p
      have : (0 : Rat) ≤ ((n + 1 : Int) : Rat) := cast_le.2 (show (0 : Int) ≤ n + 1 by omega)
      grind
    grind
  · -- n + 1 is a power of 2
    have r1 : r ≤ p2 (k + 1) := by
      refine h.2.2 _ ⟨1, k + 1, ?_, ?_, ?_⟩ (Rat.le_of_lt k2)
      · show _ = (1 : Rat) * _; rw [Rat.one_mul]
      · have := p2_lt (show (0 : Int) < p by omega); rw [p2_zero] at this; exact this
      · have := p2_pos p; show -(p2 p) < (1 : Rat); grind
    have g := Rat.mul_le_mul_of_nonneg_right hl (Rat.le_of_lt (p2_pos (k + 1 - p)))
    rw [e] at g
    grind
/-- A narrow interval above 0. -/
def Nar (δ a b : Rat) : Prop := 0 < a ∧ a ≤ b ∧ b ≤ a + δ * a
theorem Nar.mono {δ η a b : Rat} (h : Nar δ a b) (k : δ ≤ η) : Nar η a b := by
  have := Rat.mul_le_mul_of_nonneg_right k (Rat.le_of_lt h.1)
  exact ⟨h.1, h.2.1, by have := h.2.2; grind⟩
theorem Nar.self {a : Rat} (h : 0 < a) : Nar 0 a a := ⟨h, Rat.le_refl, by grind⟩
theorem Nar.trim {δ a b a' b' : Rat} {p : Int} (h : Nar δ a b) (d0 : 0 ≤ δ) (hp : 1 ≤ p) (he : 4 * eps p ≤ 1) (ha : Dn p a a') (hb : Up p b b') : Nar (2 * δ + 4 * eps p) a' b' := by
  obtain ⟨a0, h1, h2⟩ := h
  have r1 := ha.rel hp a0
  have r2 := hb.rel hp (show 0 < b by grind)
  have e0 := eps_pos p
  have l1 := ha.2.1
  have l2 := hb.2.1
  refine ⟨r1.2, by grind, ?_⟩
  generalize eps p = ε at *
  -- b' <= a (1 + δ) (1 + ε), a <= a' (1 + 2 ε)
  have s1 : a ≤ a' + 2 * ε * a' := by
    have m1 := Rat.mul_le_mul_of_nonneg_left r1.1 (show (0 : Rat) ≤ 1 + 2 * ε by grind)
    have m2 := Rat.mul_le_mul_of_nonneg_left (show 2 * ε ≤ 1 by grind) (Rat.mul_nonneg (Rat.le_of_lt e0) (Rat.le_of_lt a0))
    grind
  have s2 : b + ε * b ≤ (1 + δ) * (1 + ε) * a := by
    have := Rat.mul_le_mul_of_nonneg_left h2 (show (0 : Rat) ≤ 1 + ε by grind)
    grind
  have s3 := Rat.mul_le_mul_of_nonneg_left s1 (Rat.mul_nonneg (show (0 : Rat) ≤ 1 + δ by grind) (show (0 : Rat) ≤ 1 + ε by grind))
  have q1 : (1 + ε) * (1 + 2 * ε) ≤ 1 + 4 * ε := by
    have := Rat.mul_le_mul_of_nonneg_left (show 2 * ε ≤ 1 by grind) (Rat.le_of_lt e0)
    grind
  have q2 : (1 + δ) * (1 + 4 * ε) ≤ 1 + (2 * δ + 4 * ε) := by
    have := Rat.mul_le_mul_of_nonneg_left he d0
    grind
  have q3 := Rat.mul_le_mul_of_nonneg_left q1 (show (0 : Rat) ≤ 1 + δ by grind)
  have q4 := Rat.mul_le_mul_of_nonneg_right (show (1 + δ) * ((1 + ε) * (1 + 2 * ε)) ≤ 1 + (2 * δ + 4 * ε) by grind) (Rat.le_of_lt r1.2)
  have e5 : (1 + δ) * (1 + ε) * (a' + 2 * ε * a') = (1 + δ) * ((1 + ε) * (1 + 2 * ε)) * a' := by grind
  grind
theorem Nar.mul {δ η a b c d : Rat} (h : Nar δ a b) (k : Nar η c d) (d0 : 0 ≤ δ) (_ : 0 ≤ η) : Nar (δ + η + δ * η) (a * c) (b * d) := by
  obtain ⟨a0, h1, h2⟩ := h
  obtain ⟨c0, k1, k2⟩ := k
  have m1 := Rat.mul_le_mul_of_nonneg_right h1 (Rat.le_of_lt c0)
  have m2 := Rat.mul_le_mul_of_nonneg_left k1 (show 0 ≤ b by grind)
  have m3 := Rat.mul_le_mul_of_nonneg_right h2 (show 0 ≤ d by grind)
  have g := Rat.mul_nonneg d0 (Rat.le_of_lt a0)
  have m4 := Rat.mul_le_mul_of_nonneg_left k2 (show 0 ≤ a + δ * a by grind)
  exact ⟨Rat.mul_pos a0 c0, by grind, by grind⟩
end Go.Proofs.YtdnbckfhfhfkoaaGreatDoor

namespace Go.Proofs.YtdnbckfhfhfkoaaGreatDoor
open Go.RowKit
def nShortU : Spec := specK [.w, .i .u64] fun (xs : List Int) (d : Int) => (some (0 < d ∧ d ≤ 4294967296), wT (ws (val xs / d)))
theorem nShortU_ok : SpecOk Tryz.prog 162 nShortU :=
  handK_ok Tryz.func162 rfl (by decide) fun _ _ hC hX _ => fun _ _ _ h d _ v h' hp => by
    obtain rfl := repS_int h'
    have h0 : 0 < d := hp.1
    have h1 : d ≤ 4294967296 := hp.2
    exact nat_back hC hX (short3u_calls (rep_natAt h) ⟨by omega, by omega⟩ h0 h1)
def sN9 : List (FuncId × Spec) := (162, nShortU) :: sRef3
theorem sN9_ok : SpecsOk Tryz.prog sN9 := ⟨nShortU_ok, sRef3_ok⟩
def niOne : Spec := specK [.i .i64] fun (q : Int) => (some (0 ≤ q ∧ q ≤ 16777216), fxT ⟨2 ^ q.toNat, 0⟩)
theorem niOne_vc (q : Int) (Q : Tv → Prop) : execF ⟨tys3, sN9⟩ (fun _ => none) 0 Tryz.f147 [.one (.int .i64 q)] Q = (Word (1 : Int) ∧ ((0 : Int) ≤ q ∧ q ≤ (1099511627776 : Int) ∧ List.length (ws (1 : Int)) ≤ (8796093022208 : Nat)) ∧ Q (Tv.sv (Sv.agg [At.words true (ws (val (ws (1 : Int)) * (2 : Int) ^ Int.toNat q)), At.int .u64 0]))) := by kernel_rfl
theorem niOne_ok : SpecOk Tryz.prog 147 niOne :=
  specKW_ok (envOk tys3_ok sN9_ok) mixed Tryz.func147 rfl (by decide) (by decide) fun (q : Int) _ hp => ⟨fun _ => none, 0, by
    obtain ⟨h0, h1⟩ : 0 ≤ q ∧ q ≤ 16777216 := hp
    refine (niOne_vc q _).mpr ?_
    rw [val_ws_one, Int.one_mul]
    exact ⟨word_one, ⟨h0, by omega, by simp [ws_one]⟩, .inr rfl⟩⟩
def niAdd : Spec := specK [.fx, .fx] fun (x : Fw) (y : Fw) => (some (x.Ok ∧ y.Ok), fxT (addF x.f y.f))
theorem niAdd_vc (x y : Fw) (Q : Tv → Prop) : execF ⟨tys3, sN9⟩ (fun _ => none) 0 Tryz.f148 [.agg (fwL false x), .agg (fwL false y)] Q = ((List.length x.xs ≤ (17592186044414 : Nat) ∧ List.length y.xs ≤ (17592186044414 : Nat)) ∧ true = true ∧ Q (Tv.sv (Sv.agg [At.words true (ws (val x.xs + val y.xs)), At.int .u64 (IntKind.wrap IntKind.u64 (x.e + y.e))]))) := by kernel_rfl
theorem niAdd_ok : SpecOk Tryz.prog 148 niAdd :=
  specKW_ok (envOk tys3_ok sN9_ok) mixed Tryz.func148 rfl (by decide) (by decide) fun (x : Fw) _ (y : Fw) _ hp => ⟨fun _ => none, 0, by
    obtain ⟨⟨a1, a2, a3⟩, b1, b2, b3⟩ : x.Ok ∧ y.Ok := hp
    refine (niAdd_vc x y _).mpr ?_
    rw [wrap_w ⟨by omega, by omega⟩]
    exact ⟨⟨by omega, by omega⟩, rfl, .inr rfl⟩⟩
def niSub : Spec := specK [.fx, .fx] fun (x : Fw) (y : Fw) => (some (x.Ok ∧ y.Ok ∧ y.f.a + y.f.e ≤ x.f.a), fxT (subF x.f y.f))
theorem niSub_vc (x y : Fw) (Q : Tv → Prop) : execF ⟨tys3, sN9⟩ (fun _ => none) 0 Tryz.f126 [.agg (fwL false x), .agg (fwL false y)] Q = (Word y.e ∧ (List.length y.xs ≤ (17592186044414 : Nat) ∧ List.length (ws y.e) ≤ (17592186044414 : Nat)) ∧ (val (ws (val y.xs + val (ws y.e))) ≤ val x.xs ∧ List.length x.xs ≤ (17592186044414 : Nat) ∧ List.length (ws (val y.xs + val (ws y.e))) ≤ (17592186044414 : Nat)) ∧ true = true ∧ Q (Tv.sv (Sv.agg [At.words true (ws (val x.xs - val (ws (val y.xs + val (ws y.e))))), At.int .u64 (IntKind.wrap IntKind.u64 (x.e + y.e))]))) := by kernel_rfl
theorem niSub_ok : SpecOk Tryz.prog 126 niSub :=
  specKW_ok (envOk tys3_ok sN9_ok) mixed Tryz.func126 rfl (by decide) (by decide) fun (x : Fw) hx (y : Fw) hy hp => ⟨fun _ => none, 0, by
    obtain ⟨⟨a1, a2, a3⟩, yo, h⟩ : x.Ok ∧ y.Ok ∧ y.f.a + y.f.e ≤ x.f.a := hp
    have yl := yo.len hy
    obtain ⟨b1, b2, b3⟩ := yo
    have := ws_small b3
    refine (niSub_vc x y _).mpr ?_
    rw [val_ws b2, ← y.f_a, ← y.f_e, val_ws yl.2.1, wrap_w ⟨by rw [y.f_e]; omega, by rw [y.f_e]; omega⟩, y.f_e]
    exact ⟨⟨b2, by omega⟩, ⟨by omega, by omega⟩, ⟨h, by omega, by rw [← y.f_e]; omega⟩, rfl, .inr rfl⟩⟩
def niHigh : Spec := specK [.fx] fun (x : Fw) => (some x.Ok, wT (ws (x.f.a + x.f.e)))
theorem niHigh_vc (x : Fw) (Q : Tv → Prop) : execF ⟨tys3, sN9⟩ (fun _ => none) 0 Tryz.f125 [.agg (fwL false x)] Q = (Word x.e ∧ (List.length x.xs ≤ (17592186044414 : Nat) ∧ List.length (ws x.e) ≤ (17592186044414 : Nat)) ∧ true = true ∧ Q (Tv.sv (Sv.one (At.words true (ws (val x.xs + val (ws x.e))))))) := by kernel_rfl
theorem niHigh_ok : SpecOk Tryz.prog 125 niHigh :=
  specK_ok (envOk tys3_ok sN9_ok) mixed Tryz.func125 rfl (by decide) (by decide) fun (x : Fw) _ hp => ⟨fun _ => none, 0, by
    obtain ⟨a1, a2, a3⟩ : x.Ok := hp
    refine (niHigh_vc x _).mpr ?_
    have := ws_small a3
    rw [val_ws a2]
    exact ⟨⟨a2, by omega⟩, ⟨by omega, by omega⟩, rfl, rfl⟩⟩
def niSmall : Spec := specK [.fx, .i .u64] fun (x : Fw) (d : Int) => (some (0 ≤ x.e ∧ x.e ≤ 1099511627776 ∧ 0 < d ∧ d ≤ 4294967296), fxT (shortF x.f d))
theorem niSmall_vc (x : Fw) (d : Int) (Q : Tv → Prop) : execF ⟨tys3, sN9⟩ (fun _ => none) 0 Tryz.f146 [.agg (fwL false x), .one (.int .u64 d)] Q = (((0 : Int) < d ∧ d ≤ (4294967296 : Int)) ∧ d ≠ (0 : Int) ∧ true = true ∧ Q (Tv.sv (Sv.agg [At.words true (ws (val x.xs / d)), At.int .u64 (IntKind.wrap IntKind.u64 (IntKind.wrap IntKind.u64 (Int.tdiv x.e d) + (2 : Int)))]))) := by kernel_rfl
theorem niSmall_ok : SpecOk Tryz.prog 146 niSmall :=
  specKW_ok (envOk tys3_ok sN9_ok) mixed Tryz.func146 rfl (by decide) (by decide) fun (x : Fw) _ (d : Int) _ hp => ⟨fun _ => none, 0, by
    obtain ⟨h0, h1, h2, h3⟩ : 0 ≤ x.e ∧ x.e ≤ 1099511627776 ∧ 0 < d ∧ d ≤ 4294967296 := hp
    have q0 := Int.ediv_nonneg h0 (show 0 ≤ d by omega)
    have q1 := Int.ediv_le_self d h0
    refine (niSmall_vc x d _).mpr ?_
    rw [Int.tdiv_eq_ediv_of_nonneg h0, wrap_w (n := x.e / d) ⟨q0, by omega⟩, wrap_w ⟨by omega, by omega⟩]
    exact ⟨⟨h2, h3⟩, by omega, rfl, .inr rfl⟩⟩
def sNi1 : List (FuncId × Spec) := [(147, niOne), (148, niAdd), (126, niSub), (125, niHigh), (146, niSmall)] ++ sRef3
theorem sNi1_ok : SpecsOk Tryz.prog sNi1 := ⟨niOne_ok, niAdd_ok, niSub_ok, niHigh_ok, niSmall_ok, sRef3_ok⟩
def sNi2 : List (FuncId × Spec) := [(66, fForm)] ++ sNi1
theorem sNi2_ok : SpecsOk Tryz.prog sNi2 := ⟨fForm_ok, sNi1_ok⟩
def niIval : Spec := specK [.fx, .i .i64] fun (x : Fw) (q : Int) => (some (x.Ok ∧ 0 ≤ q ∧ q ≤ 16777216), vT (ivF x.f q))
theorem niIval_vc (x : Fw) (q : Int) (Q : Tv → Prop) : execF ⟨tys3, sNi2⟩ (fun _ => none) 0 Tryz.f95 [.agg (fwL false x), .one (.int .i64 q)] Q = (inR ((0 : Int) - q) ∧ ((-4611686018427387904 : Int) ≤ (0 : Int) - q ∧ (0 : Int) - q ≤ (4611686018427387904 : Int)) ∧ Fw.Ok x ∧ inR ((0 : Int) - q) ∧ ((-4611686018427387904 : Int) ≤ (0 : Int) - q ∧ (0 : Int) - q ≤ (4611686018427387904 : Int)) ∧ true = true ∧ Q (Tv.sv (Sv.agg (ivL true (Vx.mk (mkD false (val x.xs) ((0 : Int) - q)) (mkD false (val (ws ((Fw.f x).a + (Fw.f x).e))) ((0 : Int) - q))))))) := by kernel_rfl
theorem niIval_ok : SpecOk Tryz.prog 95 niIval :=
  specK_ok (envOk tys3_ok sNi2_ok) mixed Tryz.func95 rfl (by decide) (by decide) fun (x : Fw) hx (q : Int) _ hp => ⟨fun _ => none, 0, by
    obtain ⟨xo, q0, q1⟩ : x.Ok ∧ 0 ≤ q ∧ q ≤ 16777216 := hp
    refine (niIval_vc x q _).mpr ?_
    rw [val_ws (xo.len hx).2.1, Int.zero_sub]
    exact ⟨⟨by omega, by omega⟩, ⟨by omega, by omega⟩, xo, ⟨by omega, by omega⟩, ⟨by omega, by omega⟩, rfl, rfl⟩⟩
def sNi : List (FuncId × Spec) := [(95, niIval)] ++ sNi2
theorem sNi_ok : SpecsOk Tryz.prog sNi := ⟨niIval_ok, sNi2_ok⟩
end Go.Proofs.YtdnbckfhfhfkoaaGreatDoor

namespace Go.Proofs.YtdnbckfhfhfkoaaGreatDoor
open Go.RowKit
/-- The number lies in the interval. -/
def InV (v : Vx) (x : Rat) : Prop := v.lo.rv ≤ x ∧ x ≤ v.hi.rv
theorem right_of {x : Vx} (h1 : x.lo.fitsB = true) (h2 : x.hi.fitsB = true) (h : x.lo.rv ≤ x.hi.rv) : rightV x = true := by
  rw [rightV, h1, h2, decide_eq_true (cmpD_le.2 h)]; rfl
/-! ### The least and the greatest of some. -/
theorem spanS_rv (v : Vx) (d : Dx) : (spanS v d).lo.rv ≤ v.lo.rv ∧ (spanS v d).lo.rv ≤ d.rv ∧ ((spanS v d).lo = v.lo ∨ (spanS v d).lo = d) ∧ v.hi.rv ≤ (spanS v d).hi.rv ∧ d.rv ≤ (spanS v d).hi.rv ∧ ((spanS v d).hi = v.hi ∨ (spanS v d).hi = d) := by
  unfold spanS
  have a : (if cmpD d v.lo < 0 then d else v.lo).rv ≤ v.lo.rv ∧ (if cmpD d v.lo < 0 then d else v.lo).rv ≤ d.rv ∧ ((if cmpD d v.lo < 0 then d else v.lo) = v.lo ∨ (if cmpD d v.lo < 0 then d else v.lo) = d) := by
    by_cases h : cmpD d v.lo < 0
    · rw [if_pos h]; have := cmpD_lt0.1 h; exact ⟨by grind, by grind, .inr rfl⟩
    · rw [if_neg h]; have : ¬ d.rv < v.lo.rv := fun k => h (cmpD_lt0.2 k); exact ⟨by grind, by grind, .inl rfl⟩
  have b : v.hi.rv ≤ (if 0 < cmpD d v.hi then d else v.hi).rv ∧ d.rv ≤ (if 0 < cmpD d v.hi then d else v.hi).rv ∧ ((if 0 < cmpD d v.hi then d else v.hi) = v.hi ∨ (if 0 < cmpD d v.hi then d else v.hi) = d) := by
    by_cases h : 0 < cmpD d v.hi
    · rw [if_pos h]; have := cmpD_gt0.1 h; exact ⟨by grind, by grind, .inr rfl⟩
    · rw [if_neg h]; have : ¬ v.hi.rv < d.rv := fun k => h (cmpD_gt0.2 k); exact ⟨by grind, by grind, .inl rfl⟩
  exact ⟨a.1, a.2.1, a.2.2, b.1, b.2.1, b.2.2⟩
theorem span4_lo (a b c d : Dx) : (spanL a [b, c, d]).lo.rv ≤ a.rv ∧ (spanL a [b, c, d]).lo.rv ≤ b.rv ∧ (spanL a [b, c, d]).lo.rv ≤ c.rv ∧ (spanL a [b, c, d]).lo.rv ≤ d.rv ∧
    ((spanL a [b, c, d]).lo = a ∨ (spanL a [b, c, d]).lo = b ∨ (spanL a [b, c, d]).lo = c ∨ (spanL a [b, c, d]).lo = d) := by
  have h1 := spanS_rv ⟨a, a⟩ b
  have h2 := spanS_rv (spanS ⟨a, a⟩ b) c
  have h3 := spanS_rv (spanS (spanS ⟨a, a⟩ b) c) d
  rw [show spanL a [b, c, d] = spanS (spanS (spanS ⟨a, a⟩ b) c) d from rfl]
  have a1 := h1.1; have a2 := h1.2.1; have a3 := h2.1; have a4 := h2.2.1; have a5 := h3.1; have a6 := h3.2.1
  simp only at a1
  refine ⟨by grind, by grind, by grind, a6, ?_⟩
  rcases h3.2.2.1 with k | k <;> rw [k]
  · rcases h2.2.2.1 with k | k <;> rw [k]
    · rcases h1.2.2.1 with k | k <;> rw [k]
      · exact .inl rfl
      · exact .inr (.inl rfl)
    · exact .inr (.inr (.inl rfl))
  · exact .inr (.inr (.inr rfl))
theorem span4_hi (a b c d : Dx) : a.rv ≤ (spanL a [b, c, d]).hi.rv ∧ b.rv ≤ (spanL a [b, c, d]).hi.rv ∧ c.rv ≤ (spanL a [b, c, d]).hi.rv ∧ d.rv ≤ (spanL a [b, c, d]).hi.rv ∧
    ((spanL a [b, c, d]).hi = a ∨ (spanL a [b, c, d]).hi = b ∨ (spanL a [b, c, d]).hi = c ∨ (spanL a [b, c, d]).hi = d) := by
  have h1 := spanS_rv ⟨a, a⟩ b
  have h2 := spanS_rv (spanS ⟨a, a⟩ b) c
  have h3 := spanS_rv (spanS (spanS ⟨a, a⟩ b) c) d
  rw [show spanL a [b, c, d] = spanS (spanS (spanS ⟨a, a⟩ b) c) d from rfl]
  have a1 := h1.2.2.2.1; have a2 := h1.2.2.2.2.1; have a3 := h2.2.2.2.1; have a4 := h2.2.2.2.2.1; have a5 := h3.2.2.2.1; have a6 := h3.2.2.2.2.1
  simp only at a1
  refine ⟨by grind, by grind, by grind, a6, ?_⟩
  rcases h3.2.2.2.2.2 with k | k <;> rw [k]
  · rcases h2.2.2.2.2.2 with k | k <;> rw [k]
    · rcases h1.2.2.2.2.2 with k | k <;> rw [k]
      · exact .inl rfl
      · exact .inr (.inl rfl)
    · exact .inr (.inr (.inl rfl))
  · exact .inr (.inr (.inr rfl))
/-! ### Sums and differences. -/
theorem trim_best {w : Vx} {p : Int} (hw : w.P) (hp : 1 ≤ p) : Dn p w.lo.rv (trimV w p).lo.rv ∧ Up p w.hi.rv (trimV w p).hi.rv := ⟨(cutD_best hw.1 hp).1, (cutD_best hw.2 hp).2⟩
theorem plus_best {v u : Vx} {p : Int} (hv : v.P) (hu : u.P) (hp : 1 ≤ p) : Dn p (v.lo.rv + u.lo.rv) (plusV v u p).lo.rv ∧ Up p (v.hi.rv + u.hi.rv) (plusV v u p).hi.rv := by
  have := trim_best (w := sumV v u) ⟨plusD_p, plusD_p⟩ hp
  rw [show (sumV v u).lo.rv = v.lo.rv + u.lo.rv from rv_plus hv.1 hu.1, show (sumV v u).hi.rv = v.hi.rv + u.hi.rv from rv_plus hv.2 hu.2] at this
  exact this
theorem less_best {v u : Vx} {p : Int} (hv : v.P) (hu : u.P) (hp : 1 ≤ p) : Dn p (v.lo.rv - u.hi.rv) (lessV v u p).lo.rv ∧ Up p (v.hi.rv - u.lo.rv) (lessV v u p).hi.rv := by
  have := plus_best (v := v) (u := turnV u) hv ⟨negD_p, negD_p⟩ hp
  rw [show (turnV u).lo.rv = -u.hi.rv from rv_neg hu.2, show (turnV u).hi.rv = -u.lo.rv from rv_neg hu.1, ← Rat.sub_eq_add_neg, ← Rat.sub_eq_add_neg] at this
  exact this
/-! ### Products. -/
theorem prod_lo {v u : Vx} (hv : v.P) (hu : u.P) : (∀ x0 y0, (x0 = v.lo.rv ∨ x0 = v.hi.rv) → (y0 = u.lo.rv ∨ y0 = u.hi.rv) → (prodV v u).lo.rv ≤ x0 * y0 ∧ x0 * y0 ≤ (prodV v u).hi.rv) := by
  obtain ⟨a1, a2, a3, a4, _⟩ := span4_lo (timesD v.lo u.lo) (timesD v.lo u.hi) (timesD v.hi u.lo) (timesD v.hi u.hi)
  obtain ⟨b1, b2, b3, b4, _⟩ := span4_hi (timesD v.lo u.lo) (timesD v.lo u.hi) (timesD v.hi u.lo) (timesD v.hi u.hi)
  rw [rv_times hv.1 hu.1] at a1 b1
  rw [rv_times hv.1 hu.2] at a2 b2
  rw [rv_times hv.2 hu.1] at a3 b3
  rw [rv_times hv.2 hu.2] at a4 b4
  intro x0 y0 hx hy
  rcases hx with rfl | rfl <;> rcases hy with rfl | rfl
  · exact ⟨a1, b1⟩
  · exact ⟨a2, b2⟩
  · exact ⟨a3, b3⟩
  · exact ⟨a4, b4⟩
theorem prod_at {v u : Vx} (hv : v.P) (hu : u.P) : (∃ x0 y0, (x0 = v.lo.rv ∨ x0 = v.hi.rv) ∧ (y0 = u.lo.rv ∨ y0 = u.hi.rv) ∧ (prodV v u).lo.rv = x0 * y0) ∧ (∃ x0 y0, (x0 = v.lo.rv ∨ x0 = v.hi.rv) ∧ (y0 = u.lo.rv ∨ y0 = u.hi.rv) ∧ (prodV v u).hi.rv = x0 * y0) := by
  obtain ⟨_, _, _, _, a⟩ := span4_lo (timesD v.lo u.lo) (timesD v.lo u.hi) (timesD v.hi u.lo) (timesD v.hi u.hi)
  obtain ⟨_, _, _, _, b⟩ := span4_hi (timesD v.lo u.lo) (timesD v.lo u.hi) (timesD v.hi u.lo) (timesD v.hi u.hi)
  constructor
  · show ∃ x0 y0, _ ∧ _ ∧ (spanL (timesD v.lo u.lo) [timesD v.lo u.hi, timesD v.hi u.lo, timesD v.hi u.hi]).lo.rv = _
    rcases a with a | a | a | a <;> rw [a]
    · exact ⟨_, _, .inl rfl, .inl rfl, rv_times hv.1 hu.1⟩
    · exact ⟨_, _, .inl rfl, .inr rfl, rv_times hv.1 hu.2⟩
    · exact ⟨_, _, .inr rfl, .inl rfl, rv_times hv.2 hu.1⟩
    · exact ⟨_, _, .inr rfl, .inr rfl, rv_times hv.2 hu.2⟩
  · show ∃ x0 y0, _ ∧ _ ∧ (spanL (timesD v.lo u.lo) [timesD v.lo u.hi, timesD v.hi u.lo, timesD v.hi u.hi]).hi.rv = _
    rcases b with b | b | b | b <;> rw [b]
    · exact ⟨_, _, .inl rfl, .inl rfl, rv_times hv.1 hu.1⟩
    · exact ⟨_, _, .inl rfl, .inr rfl, rv_times hv.1 hu.2⟩
    · exact ⟨_, _, .inr rfl, .inl rfl, rv_times hv.2 hu.1⟩
    · exact ⟨_, _, .inr rfl, .inr rfl, rv_times hv.2 hu.2⟩
theorem prod_in {v u : Vx} {x y : Rat} (hv : v.P) (hu : u.P) (hx : InV v x) (hy : InV u y) : (prodV v u).lo.rv ≤ x * y ∧ x * y ≤ (prodV v u).hi.rv := by
  have h := prod_lo hv hu
  obtain ⟨x0, y0, k1, k2, k3⟩ := corner_le hx.1 hx.2 hy.1 hy.2
  obtain ⟨x1, y1, l1, l2, l3⟩ := corner_ge hx.1 hx.2 hy.1 hy.2
  have h1 := h x0 y0 k1 k2
  have h2 := h x1 y1 l1 l2
  constructor <;> grind
theorem times_best {v u : Vx} {p : Int} (hp : 1 ≤ p) (hv : v.P) (hu : u.P) : Dn p (prodV v u).lo.rv (timesV v u p).lo.rv ∧ Up p (prodV v u).hi.rv (timesV v u p).hi.rv := by
  have _ := hv
  have _ := hu
  exact trim_best (prodV_p v u) hp
/-! ### Quotients. -/
/-- Of y between c and d, 0 not among them, the inverses lie between theirs. -/
theorem inv_between {c d y : Rat} (h1 : c ≤ y) (h2 : y ≤ d) (h : 0 < c ∨ d < 0) : d⁻¹ ≤ y⁻¹ ∧ y⁻¹ ≤ c⁻¹ := by
  have key : ∀ {a b : Rat}, a ≤ b → (0 < a ∨ b < 0) → b⁻¹ ≤ a⁻¹ := by
    intro a b hab h0
    have ha : a ≠ 0 := by grind
    have hb : b ≠ 0 := by grind
    have e1 : a⁻¹ * a = 1 := Rat.inv_mul_cancel a ha
    have e2 : b⁻¹ * b = 1 := Rat.inv_mul_cancel b hb
    have e3 : (a⁻¹ - b⁻¹) * (a * b) = b - a := by grind
    have hab0 : 0 < a * b := by
      rcases h0 with h0 | h0
      · exact Rat.mul_pos h0 (by grind)
      · have := Rat.mul_pos (show 0 < -a by grind) (show 0 < -b by grind); grind
    rcases (show b⁻¹ ≤ a⁻¹ ∨ a⁻¹ < b⁻¹ by grind) with h | h
    · exact h
    · have := Rat.mul_pos (show 0 < b⁻¹ - a⁻¹ by grind) hab0
      grind
  exact ⟨key h2 (by grind), key h1 (by grind)⟩
end Go.Proofs.YtdnbckfhfhfkoaaGreatDoor

namespace Go.Proofs.YtdnbckfhfhfkoaaGreatDoor
open Go.RowKit
/-- 0 does not lie in it. -/
def Off0 (u : Vx) : Prop := 0 < u.lo.rv ∨ u.hi.rv < 0
theorem rv_ne {d : Dx} (h : d.rv ≠ 0) : d.m ≠ 0 := fun e => h (rv_zero e)
theorem over_corner {a b : Dx} {p : Int} (ha : 0 ≤ a.m) (hb : 0 ≤ b.m) (hb0 : b.rv ≠ 0) (hp : 1 ≤ p) : Dn p (a.rv * b.rv⁻¹) (overD a b p false).rv ∧ Up p (a.rv * b.rv⁻¹) (overD a b p true).rv :=
  over_best ha hb (rv_ne hb0) hp (by rw [Rat.mul_assoc, Rat.inv_mul_cancel _ hb0, Rat.mul_one])
/-- The corners of a quotient. -/
def Cor (v u : Vx) (a b : Dx) : Prop := (a = v.lo ∨ a = v.hi) ∧ (b = u.lo ∨ b = u.hi)
theorem div_lo (v u : Vx) (p : Int) {a b : Dx} (h : Cor v u a b) : (divV v u p).lo.rv ≤ (overD a b p false).rv ∧ (overD a b p true).rv ≤ (divV v u p).hi.rv := by
  obtain ⟨a1, a2, a3, a4, _⟩ := span4_lo (overD v.lo u.lo p false) (overD v.lo u.hi p false) (overD v.hi u.lo p false) (overD v.hi u.hi p false)
  obtain ⟨b1, b2, b3, b4, _⟩ := span4_hi (overD v.lo u.lo p true) (overD v.lo u.hi p true) (overD v.hi u.lo p true) (overD v.hi u.hi p true)
  obtain ⟨h1, h2⟩ := h
  rcases h1 with rfl | rfl <;> rcases h2 with rfl | rfl
  · exact ⟨a1, b1⟩
  · exact ⟨a2, b2⟩
  · exact ⟨a3, b3⟩
  · exact ⟨a4, b4⟩
theorem div_at (v u : Vx) (p : Int) : (∃ a b, Cor v u a b ∧ (divV v u p).lo = overD a b p false) ∧ ∃ a b, Cor v u a b ∧ (divV v u p).hi = overD a b p true := by
  obtain ⟨_, _, _, _, a⟩ := span4_lo (overD v.lo u.lo p false) (overD v.lo u.hi p false) (overD v.hi u.lo p false) (overD v.hi u.hi p false)
  obtain ⟨_, _, _, _, b⟩ := span4_hi (overD v.lo u.lo p true) (overD v.lo u.hi p true) (overD v.hi u.lo p true) (overD v.hi u.hi p true)
  constructor
  · rcases a with a | a | a | a
    · exact ⟨_, _, ⟨.inl rfl, .inl rfl⟩, a⟩
    · exact ⟨_, _, ⟨.inl rfl, .inr rfl⟩, a⟩
    · exact ⟨_, _, ⟨.inr rfl, .inl rfl⟩, a⟩
    · exact ⟨_, _, ⟨.inr rfl, .inr rfl⟩, a⟩
  · rcases b with a | a | a | a
    · exact ⟨_, _, ⟨.inl rfl, .inl rfl⟩, a⟩
    · exact ⟨_, _, ⟨.inl rfl, .inr rfl⟩, a⟩
    · exact ⟨_, _, ⟨.inr rfl, .inl rfl⟩, a⟩
    · exact ⟨_, _, ⟨.inr rfl, .inr rfl⟩, a⟩
theorem Cor.best {v u : Vx} {a b : Dx} {p : Int} (h : Cor v u a b) (hv : v.P) (hu : u.P) (h0 : Off0 u) (hle : u.lo.rv ≤ u.hi.rv) (hp : 1 ≤ p) : b.rv ≠ 0 ∧ Dn p (a.rv * b.rv⁻¹) (overD a b p false).rv ∧ Up p (a.rv * b.rv⁻¹) (overD a b p true).rv := by
  obtain ⟨h1, h2⟩ := h
  have hb : b.rv ≠ 0 := by
    rcases h2 with rfl | rfl <;> unfold Off0 at h0 <;> grind
  have ha : 0 ≤ a.m := by rcases h1 with rfl | rfl; exact hv.1; exact hv.2
  have hbm : 0 ≤ b.m := by rcases h2 with rfl | rfl; exact hu.1; exact hu.2
  exact ⟨hb, over_corner ha hbm hb hp⟩
/-- Of a number of v over one of u: a corner of no greater quotient, and one of no lesser. -/
theorem quo_corner {v u : Vx} {x y : Rat} (h0 : Off0 u) (hx : InV v x) (hy : InV u y) : (∃ a b, Cor v u a b ∧ a.rv * b.rv⁻¹ ≤ x * y⁻¹) ∧ ∃ a b, Cor v u a b ∧ x * y⁻¹ ≤ a.rv * b.rv⁻¹ := by
  obtain ⟨i1, i2⟩ := inv_between hy.1 hy.2 h0
  constructor
  · obtain ⟨x0, y0, k1, k2, k3⟩ := corner_le hx.1 hx.2 i1 i2
    rcases k1 with rfl | rfl <;> rcases k2 with rfl | rfl
    · exact ⟨_, _, ⟨.inl rfl, .inr rfl⟩, k3⟩
    · exact ⟨_, _, ⟨.inl rfl, .inl rfl⟩, k3⟩
    · exact ⟨_, _, ⟨.inr rfl, .inr rfl⟩, k3⟩
    · exact ⟨_, _, ⟨.inr rfl, .inl rfl⟩, k3⟩
  · obtain ⟨x0, y0, k1, k2, k3⟩ := corner_ge hx.1 hx.2 i1 i2
    rcases k1 with rfl | rfl <;> rcases k2 with rfl | rfl
    · exact ⟨_, _, ⟨.inl rfl, .inr rfl⟩, k3⟩
    · exact ⟨_, _, ⟨.inl rfl, .inl rfl⟩, k3⟩
    · exact ⟨_, _, ⟨.inr rfl, .inr rfl⟩, k3⟩
    · exact ⟨_, _, ⟨.inr rfl, .inl rfl⟩, k3⟩
theorem div_in {v u : Vx} {x y : Rat} {p : Int} (hv : v.P) (hu : u.P) (h0 : Off0 u) (hp : 1 ≤ p) (hx : InV v x) (hy : InV u y) : InV (divV v u p) (x * y⁻¹) := by
  have hle : u.lo.rv ≤ u.hi.rv := by have := hy.1; have := hy.2; grind
  obtain ⟨⟨a, b, k1, k2⟩, c, d, k3, k4⟩ := quo_corner h0 hx hy
  have b1 := (k1.best hv hu h0 hle hp).2.1.2.1
  have b2 := (k3.best hv hu h0 hle hp).2.2.2.1
  have c1 := (div_lo v u p k1).1
  have c2 := (div_lo v u p k3).2
  exact ⟨by grind, by grind⟩
/-! ### The answers, told by what they are. -/
theorem trimV_p (v : Vx) (p : Int) : (trimV v p).P := ⟨cutD_p, cutD_p⟩
theorem quoV_p (v u : Vx) (p : Int) (up : Bool) : (quoV v u p up).P := span4_p overD_p overD_p overD_p overD_p
theorem divV_p (v u : Vx) (p : Int) : (divV v u p).P := ⟨(quoV_p v u p false).1, (quoV_p v u p true).2⟩
end Go.Proofs.YtdnbckfhfhfkoaaGreatDoor

namespace Go.Proofs.YtdnbckfhfhfkoaaGreatDoor
open Go.RowKit
theorem lost_iff (n : Int) (k : Nat) : lostB n k = true ↔ n % 2 ^ k ≠ 0 := by unfold lostB; simp
/-- The greatest whole number that is at most q. -/
def Fl (n : Int) (q : Rat) : Prop := (n : Rat) ≤ q ∧ q < (n : Rat) + 1
def Ce (n : Int) (q : Rat) : Prop := q ≤ (n : Rat) ∧ (n : Rat) < q + 1
theorem Fl.neg {n : Int} {q : Rat} (h : Fl n (-q)) : Ce (-n) q := by
  obtain ⟨h1, h2⟩ := h
  constructor
  · rw [Rat.intCast_neg]; grind
  · rw [Rat.intCast_neg]; grind
theorem Fl.nonneg {n : Int} {q : Rat} (h : Fl n q) (hq : 0 ≤ q) : 0 ≤ n := by
  have h2 := h.2
  have e : (n : Rat) + 1 = ((n + 1 : Int) : Rat) := by rw [Rat.intCast_add]; rfl
  have : ((0 : Int) : Rat) < ((n + 1 : Int) : Rat) := by rw [← e]; show (0 : Rat) < _; grind
  have := cast_lt.1 this
  omega
theorem Ce.nonneg {n : Int} {q : Rat} (h : Ce n q) (hq : 0 ≤ q) : 0 ≤ n := by
  have : ((0 : Int) : Rat) ≤ (n : Rat) := by show (0 : Rat) ≤ _; have := h.1; grind
  exact cast_le.1 this
theorem amt_split (m : Int) (k : Nat) : (m : Rat) * p2 (-(k : Int)) = ((m / 2 ^ k : Int) : Rat) + ((m % 2 ^ k : Int) : Rat) * p2 (-(k : Int)) := by
  have p := two_pow_pos k
  have h := Int.mul_ediv_add_emod m (2 ^ k)
  have e : p2 (k : Int) = ((2 ^ k : Int) : Rat) := p2_nat k
  have i := p2_neg (k : Int)
  conv => lhs; lhs; rw [← h]
  rw [Rat.intCast_add, Rat.intCast_mul, ← e]
  grind
theorem fl_amt {m : Int} (k : Nat) : Fl (m / 2 ^ k) ((m : Rat) * p2 (-(k : Int))) ∧ Ce (m / 2 ^ k + if lostB m k = true then 1 else 0) ((m : Rat) * p2 (-(k : Int))) := by
  have p := two_pow_pos k
  have e : p2 (k : Int) = ((2 ^ k : Int) : Rat) := p2_nat k
  have i := p2_neg (k : Int)
  have m0 := Int.emod_nonneg m (show (2 : Int) ^ k ≠ 0 by omega)
  have m1 := Int.emod_lt_of_pos m p
  have q0 := p2_pos (-(k : Int))
  have c0 : (0 : Rat) ≤ ((m % 2 ^ k : Int) : Rat) := cast_le.2 m0
  have c1 : ((m % 2 ^ k : Int) : Rat) < p2 (k : Int) := by rw [e]; exact cast_lt.2 m1
  have l1 := Rat.mul_lt_mul_of_pos_right c1 q0
  have l0 := Rat.mul_nonneg c0 (Rat.le_of_lt q0)
  rw [amt_split]
  refine ⟨⟨by grind, by grind⟩, ?_⟩
  by_cases hl : m % 2 ^ k = 0
  · rw [if_neg (by rw [lost_iff]; simpa using hl), hl, Int.add_zero]
    have z : ((0 : Int) : Rat) = 0 := rfl
    exact ⟨by grind, by grind⟩
  · rw [if_pos (by rw [lost_iff]; exact hl)]
    have ad : ((m / 2 ^ k + 1 : Int) : Rat) = ((m / 2 ^ k : Int) : Rat) + 1 := Rat.intCast_add _ _
    have c2 : (1 : Rat) ≤ ((m % 2 ^ k : Int) : Rat) := cast_le.2 (show (1 : Int) ≤ _ by omega)
    have l2 := Rat.mul_pos (show (0 : Rat) < ((m % 2 ^ k : Int) : Rat) by grind) q0
    exact ⟨by rw [ad]; grind, by rw [ad]; grind⟩
theorem fl_int (n : Int) : Fl n (n : Rat) ∧ Ce n (n : Rat) := ⟨⟨by grind, by grind⟩, by grind, by grind⟩
theorem floorD_rv {d : Dx} (hd : 0 ≤ d.m) : ∃ n : Int, (floorD d).rv = (n : Rat) ∧ Fl n d.rv := by
  have m0 : 0 ≤ (oneD d).m := oneD_p
  have hr := rv_one hd
  unfold floorD
  split
  · rename_i h
    have e : (oneD d).rv = (((oneD d).sm * 2 ^ (oneD d).e.toNat : Int) : Rat) := by
      unfold Dx.rv; rw [p2_toNat h, Rat.intCast_mul]
    refine ⟨_, e, ?_⟩
    rw [← hr, e]; exact (fl_int _).1
  · rename_i h
    have p := two_pow_pos (-(oneD d).e).toNat
    have q0 : 0 ≤ (oneD d).m / 2 ^ (-(oneD d).e).toNat := Int.ediv_nonneg m0 (by omega)
    have ee : p2 (oneD d).e = p2 (-((-(oneD d).e).toNat : Int)) := by congr 1; omega
    have f := fl_amt (m := (oneD d).m) (-(oneD d).e).toNat
    rw [rv_mkD (by split <;> omega), p2_zero, Rat.mul_one, ← hr, sm_amt]
    cases hn : (oneD d).neg with
    | false =>
      refine ⟨_, rfl, ?_⟩
      rw [Bool.and_false, if_neg (by simp), if_neg (by simp), if_neg (by simp), Int.add_zero, ee, Rat.one_mul]
      exact f.1
    | true =>
      refine ⟨_, rfl, ?_⟩
      rw [Bool.and_true, if_pos rfl, if_pos rfl, ee]
      obtain ⟨f1, f2⟩ := f.2
      constructor
      · rw [Rat.intCast_neg]; grind
      · rw [Rat.intCast_neg]; grind
/-- A number in so many bits out of an interval. -/
def Fx2 (z : Fx) (lo hi : Rat) : Prop := Fl z.a lo ∧ Ce (z.a + z.e) hi
theorem Fx2.in {z : Fx} {q : Int} {l h r : Rat} (k : Fx2 z (l * p2 q) (h * p2 q)) (l0 : 0 ≤ l) (h1 : l ≤ r) (h2 : r ≤ h) : InF q z r := by
  obtain ⟨k1, k2⟩ := k
  have p := p2_pos q
  have a1 := Rat.mul_le_mul_of_nonneg_right h1 (Rat.le_of_lt p)
  have a2 := Rat.mul_le_mul_of_nonneg_right h2 (Rat.le_of_lt p)
  have l1 := Rat.mul_nonneg l0 (Rat.le_of_lt p)
  have z0 := k1.nonneg l1
  refine ⟨z0, ?_, by have := k1.1; grind, by have := k2.1; grind⟩
  have : ((z.a : Int) : Rat) ≤ ((z.a + z.e : Int) : Rat) := by have := k1.1; have := k2.1; grind
  have := cast_le.1 this
  omega
section
variable {t : Dx}
theorem pointV_p (d : Dx) : (pointV d).P := ⟨oneD_p, oneD_p⟩
end
/-- An interval of so many bits behind the point, from a quarter to 3, hardly wide, with a number in it. -/
structure AltIv (f : Nat) (t : Dx) (w : Int) (v : Vx) : Prop where
  p : v.P
  enc : Enc (altS f (t.rv * t.rv)) v.lo.rv v.hi.rv
  lo : 1 ≤ 4 * v.lo.rv
  hi : v.hi.rv ≤ 3
  wide : v.hi.rv - v.lo.rv ≤ p2 (22 - w)
  bits : ∃ a b : Int, 0 ≤ a ∧ a ≤ 3 * 2 ^ w.toNat ∧ 0 ≤ b ∧ b ≤ 3 * 2 ^ w.toNat ∧ v = ⟨mkD false a (-w), mkD false b (-w)⟩
end Go.Proofs.YtdnbckfhfhfkoaaGreatDoor

namespace Go.Proofs.YtdnbckfhfhfkoaaGreatDoor
open Go.RowKit
def spK6 : LKeep := ⟨[0, 4, 3, 2], [(0, 6), (8, 6)], 11⟩
def spSt6 (cs : List At) (j : Int) (v : Vx) : List (Nat × Tv) × List (Nat × Nat × At) :=
  ([(0, .sv (.one (.rows false 3 4 cs))), (4, iT j), (3, .sv (.one (.ptr 8 0))), (2, .sv (.one (.ptr 0 0)))],
   [(0, 0, .bool false), (0, 1, .words true []), (0, 2, .int .i64 0), (0, 3, .bool false), (0, 4, .words true []), (0, 5, .int .i64 0), (8, 0, .bool v.lo.neg), (8, 1, .words false v.lo.xs), (8, 2, .int .i64 v.lo.e), (8, 3, .bool v.hi.neg), (8, 4, .words false v.hi.xs), (8, 5, .int .i64 v.hi.e)])
def c4 (a b c d : Dx) : List At := dyL false a ++ (dyL false b ++ (dyL false c ++ dyL false d))
theorem gSpan_vc (a b c d : Dx) (v1 v2 v3 : Vx) (Q : Tv → Prop) : execF ⟨tys2, sRef4⟩ (invAt 3 (.cuts spK6 [spSt6 (c4 a b c d) 1 ⟨a, a⟩, spSt6 (c4 a b c d) 2 v1, spSt6 (c4 a b c d) 3 v2, spSt6 (c4 a b c d) 4 v3])) 0 Tryz.f77 [.one (.rows false 3 4 (c4 a b c d))] Q = (((0 : Int) ≤ (0 : Int) ∧ (0 : Int) < (↑(4 : Nat) : Int)) ∧ ((0 : Int) ≤ (0 : Int) ∧ (0 : Int) < (↑(4 : Nat) : Int)) ∧ true = true ∧ true = true ∧ Sg.mk [(0, Tv.sv (Sv.one (At.rows false (3 : Nat) (4 : Nat) (At.bool a.neg :: At.words false a.xs :: At.int .i64 a.e :: At.bool b.neg :: At.words false b.xs :: At.int .i64 b.e :: ivL false (Vx.mk c d))))), (4, iT 1), (3, Tv.sv (Sv.one (At.ptr ((1 : Nat) + (7 : Nat)) (0 : Nat)))), (2, Tv.sv (Sv.one (At.ptr 0 0)))] [(0, 0, At.bool false), (0, 1, At.words true []), (0, 2, At.int .i64 0), (0, 3, At.bool false), (0, 4, At.words true []), (0, 5, At.int .i64 0), (8, 0, At.bool a.neg), (8, 1, At.words false a.xs), (8, 2, At.int .i64 a.e), (8, 3, At.bool a.neg), (8, 4, At.words false a.xs), (8, 5, At.int .i64 a.e)] (11 : Nat) = Sg.mk [(0, Tv.sv (Sv.one (At.rows false (3 : Nat) (4 : Nat) (At.bool a.neg :: At.words false a.xs :: At.int .i64 a.e :: At.bool b.neg :: At.words false b.xs :: At.int .i64 b.e :: ivL false (Vx.mk c d))))), (4, iT 1), (3, Tv.sv (Sv.one (At.ptr 8 0))), (2, Tv.sv (Sv.one (At.ptr 0 0)))] [(0, 0, At.bool false), (0, 1, At.words true []), (0, 2, At.int .i64 0), (0, 3, At.bool false), (0, 4, At.words true []), (0, 5, At.int .i64 0), (8, 0, At.bool a.neg), (8, 1, At.words false a.xs), (8, 2, At.int .i64 a.e), (8, 3, At.bool a.neg), (8, 4, At.words false a.xs), (8, 5, At.int .i64 a.e)] (11 : Nat) ∧ (((0 : Int) ≤ (1 : Int) ∧ (1 : Int) < (↑(4 : Nat) : Int)) ∧ (Dx.Sm (34359738368 : Nat) b ∧ Dx.Sm (34359738368 : Nat) a) ∧ true = true ∧ br (ltI (cmpD b a) (0 : Int)) (((0 : Int) ≤ (1 : Int) ∧ (1 : Int) < (↑(4 : Nat) : Int)) ∧ ((0 : Int) ≤ (1 : Int) ∧ (1 : Int) < (↑(4 : Nat) : Int)) ∧ (Dx.Sm (34359738368 : Nat) b ∧ Dx.Sm (34359738368 : Nat) a) ∧ true = true ∧ br (ltI (0 : Int) (cmpD b a)) (((0 : Int) ≤ (1 : Int) ∧ (1 : Int) < (↑(4 : Nat) : Int)) ∧ inR ((1 : Int) + (1 : Int)) ∧ true = true ∧ Sg.mk [(0, Tv.sv (Sv.one (At.rows false (3 : Nat) (4 : Nat) (At.bool a.neg :: At.words false a.xs :: At.int .i64 a.e :: At.bool b.neg :: At.words false b.xs :: At.int .i64 b.e :: ivL false (Vx.mk c d))))), (4, iT ((1 : Int) + (1 : Int))), (3, Tv.sv (Sv.one (At.ptr 8 0))), (2, Tv.sv (Sv.one (At.ptr 0 0)))] [(0, 0, At.bool false), (0, 1, At.words true []), (0, 2, At.int .i64 0), (0, 3, At.bool false), (0, 4, At.words true []), (0, 5, At.int .i64 0), (8, 0, At.bool b.neg), (8, 1, At.words false b.xs), (8, 2, At.int .i64 b.e), (8, 3, At.bool b.neg), (8, 4, At.words false b.xs), (8, 5, At.int .i64 b.e)] (11 : Nat) = Sg.mk [(0, Tv.sv (Sv.one (At.rows false (3 : Nat) (4 : Nat) (At.bool a.neg :: At.words false a.xs :: At.int .i64 a.e :: At.bool b.neg :: At.words false b.xs :: At.int .i64 b.e :: ivL false (Vx.mk c d))))), (4, iT 2), (3, Tv.sv (Sv.one (At.ptr 8 0))), (2, Tv.sv (Sv.one (At.ptr 0 0)))] [(0, 0, At.bool false), (0, 1, At.words true []), (0, 2, At.int .i64 0), (0, 3, At.bool false), (0, 4, At.words true []), (0, 5, At.int .i64 0), (8, 0, At.bool v1.lo.neg), (8, 1, At.words false v1.lo.xs), (8, 2, At.int .i64 v1.lo.e), (8, 3, At.bool v1.hi.neg), (8, 4, At.words false v1.hi.xs), (8, 5, At.int .i64 v1.hi.e)] (11 : Nat)) (inR ((1 : Int) + (1 : Int)) ∧ true = true ∧ Sg.mk [(0, Tv.sv (Sv.one (At.rows false (3 : Nat) (4 : Nat) (At.bool a.neg :: At.words false a.xs :: At.int .i64 a.e :: At.bool b.neg :: At.words false b.xs :: At.int .i64 b.e :: ivL false (Vx.mk c d))))), (4, iT ((1 : Int) + (1 : Int))), (3, Tv.sv (Sv.one (At.ptr 8 0))), (2, Tv.sv (Sv.one (At.ptr 0 0)))] [(0, 0, At.bool false), (0, 1, At.words true []), (0, 2, At.int .i64 0), (0, 3, At.bool false), (0, 4, At.words true []), (0, 5, At.int .i64 0), (8, 0, At.bool b.neg), (8, 1, At.words false b.xs), (8, 2, At.int .i64 b.e), (8, 3, At.bool a.neg), (8, 4, At.words false a.xs), (8, 5, At.int .i64 a.e)] (11 : Nat) = Sg.mk [(0, Tv.sv (Sv.one (At.rows false (3 : Nat) (4 : Nat) (At.bool a.neg :: At.words false a.xs :: At.int .i64 a.e :: At.bool b.neg :: At.words false b.xs :: At.int .i64 b.e :: ivL false (Vx.mk c d))))), (4, iT 2), (3, Tv.sv (Sv.one (At.ptr 8 0))), (2, Tv.sv (Sv.one (At.ptr 0 0)))] [(0, 0, At.bool false), (0, 1, At.words true []), (0, 2, At.int .i64 0), (0, 3, At.bool false), (0, 4, At.words true []), (0, 5, At.int .i64 0), (8, 0, At.bool v1.lo.neg), (8, 1, At.words false v1.lo.xs), (8, 2, At.int .i64 v1.lo.e), (8, 3, At.bool v1.hi.neg), (8, 4, At.words false v1.hi.xs), (8, 5, At.int .i64 v1.hi.e)] (11 : Nat))) (((0 : Int) ≤ (1 : Int) ∧ (1 : Int) < (↑(4 : Nat) : Int)) ∧ (Dx.Sm (34359738368 : Nat) b ∧ Dx.Sm (34359738368 : Nat) a) ∧ true = true ∧ br (ltI (0 : Int) (cmpD b a)) (((0 : Int) ≤ (1 : Int) ∧ (1 : Int) < (↑(4 : Nat) : Int)) ∧ inR ((1 : Int) + (1 : Int)) ∧ true = true ∧ Sg.mk [(0, Tv.sv (Sv.one (At.rows false (3 : Nat) (4 : Nat) (At.bool a.neg :: At.words false a.xs :: At.int .i64 a.e :: At.bool b.neg :: At.words false b.xs :: At.int .i64 b.e :: ivL false (Vx.mk c d))))), (4, iT ((1 : Int) + (1 : Int))), (3, Tv.sv (Sv.one (At.ptr 8 0))), (2, Tv.sv (Sv.one (At.ptr 0 0)))] [(0, 0, At.bool false), (0, 1, At.words true []), (0, 2, At.int .i64 0), (0, 3, At.bool false), (0, 4, At.words true []), (0, 5, At.int .i64 0), (8, 0, At.bool a.neg), (8, 1, At.words false a.xs), (8, 2, At.int .i64 a.e), (8, 3, At.bool b.neg), (8, 4, At.words false b.xs), (8, 5, At.int .i64 b.e)] (11 : Nat) = Sg.mk [(0, Tv.sv (Sv.one (At.rows false (3 : Nat) (4 : Nat) (At.bool a.neg :: At.words false a.xs :: At.int .i64 a.e :: At.bool b.neg :: At.words false b.xs :: At.int .i64 b.e :: ivL false (Vx.mk c d))))), (4, iT 2), (3, Tv.sv (Sv.one (At.ptr 8 0))), (2, Tv.sv (Sv.one (At.ptr 0 0)))] [(0, 0, At.bool false), (0, 1, At.words true []), (0, 2, At.int .i64 0), (0, 3, At.bool false), (0, 4, At.words true []), (0, 5, At.int .i64 0), (8, 0, At.bool v1.lo.neg), (8, 1, At.words false v1.lo.xs), (8, 2, At.int .i64 v1.lo.e), (8, 3, At.bool v1.hi.neg), (8, 4, At.words false v1.hi.xs), (8, 5, At.int .i64 v1.hi.e)] (11 : Nat)) (inR ((1 : Int) + (1 : Int)) ∧ true = true ∧ Sg.mk [(0, Tv.sv (Sv.one (At.rows false (3 : Nat) (4 : Nat) (At.bool a.neg :: At.words false a.xs :: At.int .i64 a.e :: At.bool b.neg :: At.words false b.xs :: At.int .i64 b.e :: ivL false (Vx.mk c d))))), (4, iT ((1 : Int) + (1 : Int))), (3, Tv.sv (Sv.one (At.ptr 8 0))), (2, Tv.sv (Sv.one (At.ptr 0 0)))] [(0, 0, At.bool false), (0, 1, At.words true []), (0, 2, At.int .i64 0), (0, 3, At.bool false), (0, 4, At.words true []), (0, 5, At.int .i64 0), (8, 0, At.bool a.neg), (8, 1, At.words false a.xs), (8, 2, At.int .i64 a.e), (8, 3, At.bool a.neg), (8, 4, At.words false a.xs), (8, 5, At.int .i64 a.e)] (11 : Nat) = Sg.mk [(0, Tv.sv (Sv.one (At.rows false (3 : Nat) (4 : Nat) (At.bool a.neg :: At.words false a.xs :: At.int .i64 a.e :: At.bool b.neg :: At.words false b.xs :: At.int .i64 b.e :: ivL false (Vx.mk c d))))), (4, iT 2), (3, Tv.sv (Sv.one (At.ptr 8 0))), (2, Tv.sv (Sv.one (At.ptr 0 0)))] [(0, 0, At.bool false), (0, 1, At.words true []), (0, 2, At.int .i64 0), (0, 3, At.bool false), (0, 4, At.words true []), (0, 5, At.int .i64 0), (8, 0, At.bool v1.lo.neg), (8, 1, At.words false v1.lo.xs), (8, 2, At.int .i64 v1.lo.e), (8, 3, At.bool v1.hi.neg), (8, 4, At.words false v1.hi.xs), (8, 5, At.int .i64 v1.hi.e)] (11 : Nat)))) ∧ (((0 : Int) ≤ (2 : Int) ∧ (2 : Int) < (↑(4 : Nat) : Int)) ∧ (Dx.Sm (34359738368 : Nat) c ∧ Dx.Sm (34359738368 : Nat) v1.lo) ∧ true = true ∧ br (ltI (cmpD c v1.lo) (0 : Int)) (((0 : Int) ≤ (2 : Int) ∧ (2 : Int) < (↑(4 : Nat) : Int)) ∧ ((0 : Int) ≤ (2 : Int) ∧ (2 : Int) < (↑(4 : Nat) : Int)) ∧ (Dx.Sm (34359738368 : Nat) c ∧ Dx.Sm (34359738368 : Nat) v1.hi) ∧ true = true ∧ br (ltI (0 : Int) (cmpD c v1.hi)) (((0 : Int) ≤ (2 : Int) ∧ (2 : Int) < (↑(4 : Nat) : Int)) ∧ inR ((2 : Int) + (1 : Int)) ∧ true = true ∧ Sg.mk [(0, Tv.sv (Sv.one (At.rows false (3 : Nat) (4 : Nat) (At.bool a.neg :: At.words false a.xs :: At.int .i64 a.e :: At.bool b.neg :: At.words false b.xs :: At.int .i64 b.e :: ivL false (Vx.mk c d))))), (4, iT ((2 : Int) + (1 : Int))), (3, Tv.sv (Sv.one (At.ptr 8 0))), (2, Tv.sv (Sv.one (At.ptr 0 0)))] [(0, 0, At.bool false), (0, 1, At.words true []), (0, 2, At.int .i64 0), (0, 3, At.bool false), (0, 4, At.words true []), (0, 5, At.int .i64 0), (8, 0, At.bool c.neg), (8, 1, At.words false c.xs), (8, 2, At.int .i64 c.e), (8, 3, At.bool c.neg), (8, 4, At.words false c.xs), (8, 5, At.int .i64 c.e)] (11 : Nat) = Sg.mk [(0, Tv.sv (Sv.one (At.rows false (3 : Nat) (4 : Nat) (At.bool a.neg :: At.words false a.xs :: At.int .i64 a.e :: At.bool b.neg :: At.words false b.xs :: At.int .i64 b.e :: ivL false (Vx.mk c d))))), (4, iT 3), (3, Tv.sv (Sv.one (At.ptr 8 0))), (2, Tv.sv (Sv.one (At.ptr 0 0)))] [(0, 0, At.bool false), (0, 1, At.words true []), (0, 2, At.int .i64 0), (0, 3, At.bool false), (0, 4, At.words true []), (0, 5, At.int .i64 0), (8, 0, At.bool v2.lo.neg), (8, 1, At.words false v2.lo.xs), (8, 2, At.int .i64 v2.lo.e), (8, 3, At.bool v2.hi.neg), (8, 4, At.words false v2.hi.xs), (8, 5, At.int .i64 v2.hi.e)] (11 : Nat)) (inR ((2 : Int) + (1 : Int)) ∧ true = true ∧ Sg.mk [(0, Tv.sv (Sv.one (At.rows false (3 : Nat) (4 : Nat) (At.bool a.neg :: At.words false a.xs :: At.int .i64 a.e :: At.bool b.neg :: At.words false b.xs :: At.int .i64 b.e :: ivL false (Vx.mk c d))))), (4, iT ((2 : Int) + (1 : Int))), (3, Tv.sv (Sv.one (At.ptr 8 0))), (2, Tv.sv (Sv.one (At.ptr 0 0)))] [(0, 0, At.bool false), (0, 1, At.words true []), (0, 2, At.int .i64 0), (0, 3, At.bool false), (0, 4, At.words true []), (0, 5, At.int .i64 0), (8, 0, At.bool c.neg), (8, 1, At.words false c.xs), (8, 2, At.int .i64 c.e), (8, 3, At.bool v1.hi.neg), (8, 4, At.words false v1.hi.xs), (8, 5, At.int .i64 v1.hi.e)] (11 : Nat) = Sg.mk [(0, Tv.sv (Sv.one (At.rows false (3 : Nat) (4 : Nat) (At.bool a.neg :: At.words false a.xs :: At.int .i64 a.e :: At.bool b.neg :: At.words false b.xs :: At.int .i64 b.e :: ivL false (Vx.mk c d))))), (4, iT 3), (3, Tv.sv (Sv.one (At.ptr 8 0))), (2, Tv.sv (Sv.one (At.ptr 0 0)))] [(0, 0, At.bool false), (0, 1, At.words true []), (0, 2, At.int .i64 0), (0, 3, At.bool false), (0, 4, At.words true []), (0, 5, At.int .i64 0), (8, 0, At.bool v2.lo.neg), (8, 1, At.words false v2.lo.xs), (8, 2, At.int .i64 v2.lo.e), (8, 3, At.bool v2.hi.neg), (8, 4, At.words false v2.hi.xs), (8, 5, At.int .i64 v2.hi.e)] (11 : Nat))) (((0 : Int) ≤ (2 : Int) ∧ (2 : Int) < (↑(4 : Nat) : Int)) ∧ (Dx.Sm (34359738368 : Nat) c ∧ Dx.Sm (34359738368 : Nat) v1.hi) ∧ true = true ∧ br (ltI (0 : Int) (cmpD c v1.hi)) (((0 : Int) ≤ (2 : Int) ∧ (2 : Int) < (↑(4 : Nat) : Int)) ∧ inR ((2 : Int) + (1 : Int)) ∧ true = true ∧ Sg.mk [(0, Tv.sv (Sv.one (At.rows false (3 : Nat) (4 : Nat) (At.bool a.neg :: At.words false a.xs :: At.int .i64 a.e :: At.bool b.neg :: At.words false b.xs :: At.int .i64 b.e :: ivL false (Vx.mk c d))))), (4, iT ((2 : Int) + (1 : Int))), (3, Tv.sv (Sv.one (At.ptr 8 0))), (2, Tv.sv (Sv.one (At.ptr 0 0)))] [(0, 0, At.bool false), (0, 1, At.words true []), (0, 2, At.int .i64 0), (0, 3, At.bool false), (0, 4, At.words true []), (0, 5, At.int .i64 0), (8, 0, At.bool v1.lo.neg), (8, 1, At.words false v1.lo.xs), (8, 2, At.int .i64 v1.lo.e), (8, 3, At.bool c.neg), (8, 4, At.words false c.xs), (8, 5, At.int .i64 c.e)] (11 : Nat) = Sg.mk [(0, Tv.sv (Sv.one (At.rows false (3 : Nat) (4 : Nat) (At.bool a.neg :: At.words false a.xs :: At.int .i64 a.e :: At.bool b.neg :: At.words false b.xs :: At.int .i64 b.e :: ivL false (Vx.mk c d))))), (4, iT 3), (3, Tv.sv (Sv.one (At.ptr 8 0))), (2, Tv.sv (Sv.one (At.ptr 0 0)))] [(0, 0, At.bool false), (0, 1, At.words true []), (0, 2, At.int .i64 0), (0, 3, At.bool false), (0, 4, At.words true []), (0, 5, At.int .i64 0), (8, 0, At.bool v2.lo.neg), (8, 1, At.words false v2.lo.xs), (8, 2, At.int .i64 v2.lo.e), (8, 3, At.bool v2.hi.neg), (8, 4, At.words false v2.hi.xs), (8, 5, At.int .i64 v2.hi.e)] (11 : Nat)) (inR ((2 : Int) + (1 : Int)) ∧ true = true ∧ Sg.mk [(0, Tv.sv (Sv.one (At.rows false (3 : Nat) (4 : Nat) (At.bool a.neg :: At.words false a.xs :: At.int .i64 a.e :: At.bool b.neg :: At.words false b.xs :: At.int .i64 b.e :: ivL false (Vx.mk c d))))), (4, iT ((2 : Int) + (1 : Int))), (3, Tv.sv (Sv.one (At.ptr 8 0))), (2, Tv.sv (Sv.one (At.ptr 0 0)))] [(0, 0, At.bool false), (0, 1, At.words true []), (0, 2, At.int .i64 0), (0, 3, At.bool false), (0, 4, At.words true []), (0, 5, At.int .i64 0), (8, 0, At.bool v1.lo.neg), (8, 1, At.words false v1.lo.xs), (8, 2, At.int .i64 v1.lo.e), (8, 3, At.bool v1.hi.neg), (8, 4, At.words false v1.hi.xs), (8, 5, At.int .i64 v1.hi.e)] (11 : Nat) = Sg.mk [(0, Tv.sv (Sv.one (At.rows false (3 : Nat) (4 : Nat) (At.bool a.neg :: At.words false a.xs :: At.int .i64 a.e :: At.bool b.neg :: At.words false b.xs :: At.int .i64 b.e :: ivL false (Vx.mk c d))))), (4, iT 3), (3, Tv.sv (Sv.one (At.ptr 8 0))), (2, Tv.sv (Sv.one (At.ptr 0 0)))] [(0, 0, At.bool false), (0, 1, At.words true []), (0, 2, At.int .i64 0), (0, 3, At.bool false), (0, 4, At.words true []), (0, 5, At.int .i64 0), (8, 0, At.bool v2.lo.neg), (8, 1, At.words false v2.lo.xs), (8, 2, At.int .i64 v2.lo.e), (8, 3, At.bool v2.hi.neg), (8, 4, At.words false v2.hi.xs), (8, 5, At.int .i64 v2.hi.e)] (11 : Nat)))) ∧ (((0 : Int) ≤ (3 : Int) ∧ (3 : Int) < (↑(4 : Nat) : Int)) ∧ (Dx.Sm (34359738368 : Nat) d ∧ Dx.Sm (34359738368 : Nat) v2.lo) ∧ true = true ∧ br (ltI (cmpD d v2.lo) (0 : Int)) (((0 : Int) ≤ (3 : Int) ∧ (3 : Int) < (↑(4 : Nat) : Int)) ∧ ((0 : Int) ≤ (3 : Int) ∧ (3 : Int) < (↑(4 : Nat) : Int)) ∧ (Dx.Sm (34359738368 : Nat) d ∧ Dx.Sm (34359738368 : Nat) v2.hi) ∧ true = true ∧ br (ltI (0 : Int) (cmpD d v2.hi)) (((0 : Int) ≤ (3 : Int) ∧ (3 : Int) < (↑(4 : Nat) : Int)) ∧ inR ((3 : Int) + (1 : Int)) ∧ true = true ∧ Sg.mk [(0, Tv.sv (Sv.one (At.rows false (3 : Nat) (4 : Nat) (At.bool a.neg :: At.words false a.xs :: At.int .i64 a.e :: At.bool b.neg :: At.words false b.xs :: At.int .i64 b.e :: ivL false (Vx.mk c d))))), (4, iT ((3 : Int) + (1 : Int))), (3, Tv.sv (Sv.one (At.ptr 8 0))), (2, Tv.sv (Sv.one (At.ptr 0 0)))] [(0, 0, At.bool false), (0, 1, At.words true []), (0, 2, At.int .i64 0), (0, 3, At.bool false), (0, 4, At.words true []), (0, 5, At.int .i64 0), (8, 0, At.bool d.neg), (8, 1, At.words false d.xs), (8, 2, At.int .i64 d.e), (8, 3, At.bool d.neg), (8, 4, At.words false d.xs), (8, 5, At.int .i64 d.e)] (11 : Nat) = Sg.mk [(0, Tv.sv (Sv.one (At.rows false (3 : Nat) (4 : Nat) (At.bool a.neg :: At.words false a.xs :: At.int .i64 a.e :: At.bool b.neg :: At.words false b.xs :: At.int .i64 b.e :: ivL false (Vx.mk c d))))), (4, iT 4), (3, Tv.sv (Sv.one (At.ptr 8 0))), (2, Tv.sv (Sv.one (At.ptr 0 0)))] [(0, 0, At.bool false), (0, 1, At.words true []), (0, 2, At.int .i64 0), (0, 3, At.bool false), (0, 4, At.words true []), (0, 5, At.int .i64 0), (8, 0, At.bool v3.lo.neg), (8, 1, At.words false v3.lo.xs), (8, 2, At.int .i64 v3.lo.e), (8, 3, At.bool v3.hi.neg), (8, 4, At.words false v3.hi.xs), (8, 5, At.int .i64 v3.hi.e)] (11 : Nat)) (inR ((3 : Int) + (1 : Int)) ∧ true = true ∧ Sg.mk [(0, Tv.sv (Sv.one (At.rows false (3 : Nat) (4 : Nat) (At.bool a.neg :: At.words false a.xs :: At.int .i64 a.e :: At.bool b.neg :: At.words false b.xs :: At.int .i64 b.e :: ivL false (Vx.mk c d))))), (4, iT ((3 : Int) + (1 : Int))), (3, Tv.sv (Sv.one (At.ptr 8 0))), (2, Tv.sv (Sv.one (At.ptr 0 0)))] [(0, 0, At.bool false), (0, 1, At.words true []), (0, 2, At.int .i64 0), (0, 3, At.bool false), (0, 4, At.words true []), (0, 5, At.int .i64 0), (8, 0, At.bool d.neg), (8, 1, At.words false d.xs), (8, 2, At.int .i64 d.e), (8, 3, At.bool v2.hi.neg), (8, 4, At.words false v2.hi.xs), (8, 5, At.int .i64 v2.hi.e)] (11 : Nat) = Sg.mk [(0, Tv.sv (Sv.one (At.rows false (3 : Nat) (4 : Nat) (At.bool a.neg :: At.words false a.xs :: At.int .i64 a.e :: At.bool b.neg :: At.words false b.xs :: At.int .i64 b.e :: ivL false (Vx.mk c d))))), (4, iT 4), (3, Tv.sv (Sv.one (At.ptr 8 0))), (2, Tv.sv (Sv.one (At.ptr 0 0)))] [(0, 0, At.bool false), (0, 1, At.words true []), (0, 2, At.int .i64 0), (0, 3, At.bool false), (0, 4, At.words true []), (0, 5, At.int .i64 0), (8, 0, At.bool v3.lo.neg), (8, 1, At.words false v3.lo.xs), (8, 2, At.int .i64 v3.lo.e), (8, 3, At.bool v3.hi.neg), (8, 4, At.words false v3.hi.xs), (8, 5, At.int .i64 v3.hi.e)] (11 : Nat))) (((0 : Int) ≤ (3 : Int) ∧ (3 : Int) < (↑(4 : Nat) : Int)) ∧ (Dx.Sm (34359738368 : Nat) d ∧ Dx.Sm (34359738368 : Nat) v2.hi) ∧ true = true ∧ br (ltI (0 : Int) (cmpD d v2.hi)) (((0 : Int) ≤ (3 : Int) ∧ (3 : Int) < (↑(4 : Nat) : Int)) ∧ inR ((3 : Int) + (1 : Int)) ∧ true = true ∧ Sg.mk [(0, Tv.sv (Sv.one (At.rows false (3 : Nat) (4 : Nat) (At.bool a.neg :: At.words false a.xs :: At.int .i64 a.e :: At.bool b.neg :: At.words false b.xs :: At.int .i64 b.e :: ivL false (Vx.mk c d))))), (4, iT ((3 : Int) + (1 : Int))), (3, Tv.sv (Sv.one (At.ptr 8 0))), (2, Tv.sv (Sv.one (At.ptr 0 0)))] [(0, 0, At.bool false), (0, 1, At.words true []), (0, 2, At.int .i64 0), (0, 3, At.bool false), (0, 4, At.words true []), (0, 5, At.int .i64 0), (8, 0, At.bool v2.lo.neg), (8, 1, At.words false v2.lo.xs), (8, 2, At.int .i64 v2.lo.e), (8, 3, At.bool d.neg), (8, 4, At.words false d.xs), (8, 5, At.int .i64 d.e)] (11 : Nat) = Sg.mk [(0, Tv.sv (Sv.one (At.rows false (3 : Nat) (4 : Nat) (At.bool a.neg :: At.words false a.xs :: At.int .i64 a.e :: At.bool b.neg :: At.words false b.xs :: At.int .i64 b.e :: ivL false (Vx.mk c d))))), (4, iT 4), (3, Tv.sv (Sv.one (At.ptr 8 0))), (2, Tv.sv (Sv.one (At.ptr 0 0)))] [(0, 0, At.bool false), (0, 1, At.words true []), (0, 2, At.int .i64 0), (0, 3, At.bool false), (0, 4, At.words true []), (0, 5, At.int .i64 0), (8, 0, At.bool v3.lo.neg), (8, 1, At.words false v3.lo.xs), (8, 2, At.int .i64 v3.lo.e), (8, 3, At.bool v3.hi.neg), (8, 4, At.words false v3.hi.xs), (8, 5, At.int .i64 v3.hi.e)] (11 : Nat)) (inR ((3 : Int) + (1 : Int)) ∧ true = true ∧ Sg.mk [(0, Tv.sv (Sv.one (At.rows false (3 : Nat) (4 : Nat) (At.bool a.neg :: At.words false a.xs :: At.int .i64 a.e :: At.bool b.neg :: At.words false b.xs :: At.int .i64 b.e :: ivL false (Vx.mk c d))))), (4, iT ((3 : Int) + (1 : Int))), (3, Tv.sv (Sv.one (At.ptr 8 0))), (2, Tv.sv (Sv.one (At.ptr 0 0)))] [(0, 0, At.bool false), (0, 1, At.words true []), (0, 2, At.int .i64 0), (0, 3, At.bool false), (0, 4, At.words true []), (0, 5, At.int .i64 0), (8, 0, At.bool v2.lo.neg), (8, 1, At.words false v2.lo.xs), (8, 2, At.int .i64 v2.lo.e), (8, 3, At.bool v2.hi.neg), (8, 4, At.words false v2.hi.xs), (8, 5, At.int .i64 v2.hi.e)] (11 : Nat) = Sg.mk [(0, Tv.sv (Sv.one (At.rows false (3 : Nat) (4 : Nat) (At.bool a.neg :: At.words false a.xs :: At.int .i64 a.e :: At.bool b.neg :: At.words false b.xs :: At.int .i64 b.e :: ivL false (Vx.mk c d))))), (4, iT 4), (3, Tv.sv (Sv.one (At.ptr 8 0))), (2, Tv.sv (Sv.one (At.ptr 0 0)))] [(0, 0, At.bool false), (0, 1, At.words true []), (0, 2, At.int .i64 0), (0, 3, At.bool false), (0, 4, At.words true []), (0, 5, At.int .i64 0), (8, 0, At.bool v3.lo.neg), (8, 1, At.words false v3.lo.xs), (8, 2, At.int .i64 v3.lo.e), (8, 3, At.bool v3.hi.neg), (8, 4, At.words false v3.hi.xs), (8, 5, At.int .i64 v3.hi.e)] (11 : Nat)))) ∧ Q (Tv.sv (Sv.agg (ivL false v3))) ∧ True) := by kernel_rfl
theorem spanR {v : Vx} {d : Dx} {p : Vx → Prop} {N M : Nat} (hv : v.Sm N) (hd : d.Sm N) (hN : N ≤ M) (h : p (spanS v d)) {I R : Prop} (hI : I) (hR : R) {q1 q2 q3 q4 : Prop} (h1 : p ⟨d, d⟩ → q1) (h2 : p ⟨d, v.hi⟩ → q2) (h3 : p ⟨v.lo, d⟩ → q3) (h4 : p v → q4) :
    I ∧ (Dx.Sm M d ∧ Dx.Sm M v.lo) ∧ true = true ∧ br (ltI (cmpD d v.lo) 0) (I ∧ I ∧ (Dx.Sm M d ∧ Dx.Sm M v.hi) ∧ true = true ∧ br (ltI 0 (cmpD d v.hi)) (I ∧ R ∧ true = true ∧ q1) (R ∧ true = true ∧ q2)) (I ∧ (Dx.Sm M d ∧ Dx.Sm M v.hi) ∧ true = true ∧ br (ltI 0 (cmpD d v.hi)) (I ∧ R ∧ true = true ∧ q3) (R ∧ true = true ∧ q4)) := by
  have a := hd.mono hN
  have b := hv.1.mono hN
  have c := hv.2.mono hN
  refine ⟨hI, ⟨a, b⟩, rfl, br_intro (fun e1 => ⟨hI, hI, ⟨a, c⟩, rfl, br_intro (fun e2 => ⟨hI, hR, rfl, h1 ?_⟩) fun e2 => ⟨hR, rfl, h2 ?_⟩⟩) fun e1 => ⟨hI, ⟨a, c⟩, rfl, br_intro (fun e2 => ⟨hI, hR, rfl, h3 ?_⟩) fun e2 => ⟨hR, rfl, h4 ?_⟩⟩⟩
  · rwa [spanS, if_pos (ltI_true.1 e1), if_pos (ltI_true.1 e2)] at h
  · rwa [spanS, if_pos (ltI_true.1 e1), if_neg (ltI_false.1 e2)] at h
  · rwa [spanS, if_neg (ltI_false.1 e1), if_pos (ltI_true.1 e2)] at h
  · rwa [spanS, if_neg (ltI_false.1 e1), if_neg (ltI_false.1 e2)] at h
def gSpan : Spec := fun l => match l with
  | [.one (.rows false 3 4 [.bool n1, .words false x1, .int .i64 e1, .bool n2, .words false x2, .int .i64 e2, .bool n3, .words false x3, .int .i64 e3, .bool n4, .words false x4, .int .i64 e4])] =>
    (some (Dx.Sm 34359738368 ⟨n1, x1, e1⟩ ∧ Dx.Sm 34359738368 ⟨n2, x2, e2⟩ ∧ Dx.Sm 34359738368 ⟨n3, x3, e3⟩ ∧ Dx.Sm 34359738368 ⟨n4, x4, e4⟩), vF (spanL ⟨n1, x1, e1⟩ [⟨n2, x2, e2⟩, ⟨n3, x3, e3⟩, ⟨n4, x4, e4⟩]))
  | _ => noSpec
theorem gSpan_ok : SpecOk Tryz.prog 77 gSpan :=
  specOk_at (envOk tys2_ok sRef4_ok) mixed Tryz.func77 rfl (by decide) 1 (by decide) fun l p t e hp => by
    unfold gSpan at e
    split at e
    · rename_i n1 x1 e1 n2 x2 e2 n3 x3 e3 n4 x4 e4
      cases e
      obtain ⟨s1, s2, s3, s4⟩ := hp
      refine ⟨Nat.le_refl 1, _, 0, (gSpan_vc ⟨n1, x1, e1⟩ ⟨n2, x2, e2⟩ ⟨n3, x3, e3⟩ ⟨n4, x4, e4⟩ (spanL ⟨n1, x1, e1⟩ [⟨n2, x2, e2⟩]) (spanL ⟨n1, x1, e1⟩ [⟨n2, x2, e2⟩, ⟨n3, x3, e3⟩]) (spanL ⟨n1, x1, e1⟩ [⟨n2, x2, e2⟩, ⟨n3, x3, e3⟩, ⟨n4, x4, e4⟩]) _).mpr ?_⟩
      have t2 : Vx.Sm 34359738368 (spanL ⟨n1, x1, e1⟩ [⟨n2, x2, e2⟩]) := spanS_sm ⟨s1, s1⟩ s2
      have t3 : Vx.Sm 34359738368 (spanL ⟨n1, x1, e1⟩ [⟨n2, x2, e2⟩, ⟨n3, x3, e3⟩]) := spanS_sm t2 s3
      refine ⟨⟨by omega, by omega⟩, ⟨by omega, by omega⟩, rfl, rfl, rfl, ?_, ?_, ?_, rfl, trivial⟩
      · refine spanR (p := fun v => spanL ⟨n1, x1, e1⟩ [⟨n2, x2, e2⟩] = v) ⟨s1, s1⟩ s2 (by omega) rfl ⟨by omega, by omega⟩ ⟨by omega, by omega⟩ ?_ ?_ ?_ ?_ <;> exact fun e => by rw [e]; rfl
      · refine spanR (p := fun v => spanL ⟨n1, x1, e1⟩ [⟨n2, x2, e2⟩, ⟨n3, x3, e3⟩] = v) t2 s3 (by omega) rfl ⟨by omega, by omega⟩ ⟨by omega, by omega⟩ ?_ ?_ ?_ ?_ <;> exact fun e => by rw [e]; rfl
      · refine spanR (p := fun v => spanL ⟨n1, x1, e1⟩ [⟨n2, x2, e2⟩, ⟨n3, x3, e3⟩, ⟨n4, x4, e4⟩] = v) t3 s4 (by omega) rfl ⟨by omega, by omega⟩ ⟨by omega, by omega⟩ ?_ ?_ ?_ ?_ <;> exact fun e => by rw [e]; rfl
    · cases e; exact hp.elim
def sGs : List (FuncId × Spec) := [(77, gSpan), (75, fTimes), (25, fPlus), (76, gTrim)]
theorem sGs_ok : SpecsOk Tryz.prog sGs := ⟨gSpan_ok, fTimes_ok, fPlus_ok, gTrim_ok, trivial⟩
theorem gPlus_vc (v u : Vx) (p : Int) (Q : Tv → Prop) : execF ⟨tys2, sGs⟩ (fun _ => none) 0 Tryz.f99 [.agg (ivL false v), .agg (ivL false u), .one (.int .i64 p)] Q = ((Dx.Sm (68719476736 : Nat) v.lo ∧ Dx.Sm (68719476736 : Nat) u.lo) ∧ (Dx.Sm (68719476736 : Nat) v.hi ∧ Dx.Sm (68719476736 : Nat) u.hi) ∧ (Vx.Sm (34359738368 : Nat) (Vx.mk (plusD v.lo u.lo) (plusD v.hi u.hi)) ∧ (0 : Int) ≤ p ∧ p ≤ (1099511627776 : Int)) ∧ true = true ∧ Q (Tv.sv (Sv.agg (ivL true (trimV (Vx.mk (plusD v.lo u.lo) (plusD v.hi u.hi)) p))))) := by kernel_rfl
theorem gTimes_vc (v u : Vx) (p : Int) (Q : Tv → Prop) : execF ⟨tys2, sGs⟩ (fun _ => none) 0 Tryz.f30 [.agg (ivL false v), .agg (ivL false u), .one (.int .i64 p)] Q = ((Dx.Sm (68719476736 : Nat) v.lo ∧ Dx.Sm (68719476736 : Nat) u.lo) ∧ (Dx.Sm (68719476736 : Nat) v.lo ∧ Dx.Sm (68719476736 : Nat) u.hi) ∧ (Dx.Sm (68719476736 : Nat) v.hi ∧ Dx.Sm (68719476736 : Nat) u.lo) ∧ (Dx.Sm (68719476736 : Nat) v.hi ∧ Dx.Sm (68719476736 : Nat) u.hi) ∧ true = true ∧ (Dx.Sm (34359738368 : Nat) (timesD v.lo u.lo) ∧ Dx.Sm (34359738368 : Nat) (timesD v.lo u.hi) ∧ Dx.Sm (34359738368 : Nat) (timesD v.hi u.lo) ∧ Dx.Sm (34359738368 : Nat) (timesD v.hi u.hi)) ∧ (Vx.Sm (34359738368 : Nat) (spanL (timesD v.lo u.lo) [timesD v.lo u.hi, timesD v.hi u.lo, timesD v.hi u.hi]) ∧ (0 : Int) ≤ p ∧ p ≤ (1099511627776 : Int)) ∧ Q (Tv.sv (Sv.agg (ivL true (trimV (spanL (timesD v.lo u.lo) [timesD v.lo u.hi, timesD v.hi u.lo, timesD v.hi u.hi]) p))))) := by kernel_rfl
def gPlus : Spec := specK [.v, .v, .i .i64] fun (v : Vx) (u : Vx) (p : Int) => (some (v.Sm 268435456 ∧ u.Sm 268435456 ∧ 0 ≤ p ∧ p ≤ 1099511627776), vT (plusV v u p))
theorem gPlus_ok : SpecOk Tryz.prog 99 gPlus :=
  specK_ok (envOk tys2_ok sGs_ok) mixed Tryz.func99 rfl (by decide) (by decide) fun (v : Vx) hv (u : Vx) hu (p : Int) _ hp => ⟨fun _ => none, 0, by
    obtain ⟨⟨a1, a2⟩, ⟨b1, b2⟩, p0, p1⟩ : v.Sm 268435456 ∧ u.Sm 268435456 ∧ 0 ≤ p ∧ p ≤ 1099511627776 := hp
    have s1 := plusD_sm (Dx.Wf.m0 hv.1) (Dx.Wf.m0 hu.1) a1 b1
    have s2 := plusD_sm (Dx.Wf.m0 hv.2) (Dx.Wf.m0 hu.2) a2 b2
    exact (gPlus_vc v u p _).mpr ⟨⟨a1.mono (by omega), b1.mono (by omega)⟩, ⟨a2.mono (by omega), b2.mono (by omega)⟩, ⟨⟨s1.mono (by omega), s2.mono (by omega)⟩, p0, p1⟩, rfl, rfl⟩⟩
def gTimes : Spec := specK [.v, .v, .i .i64] fun (v : Vx) (u : Vx) (p : Int) => (some (v.Sm 268435456 ∧ u.Sm 268435456 ∧ 0 ≤ p ∧ p ≤ 1099511627776), vT (timesV v u p))
theorem gTimes_ok : SpecOk Tryz.prog 30 gTimes :=
  specK_ok (envOk tys2_ok sGs_ok) mixed Tryz.func30 rfl (by decide) (by decide) fun (v : Vx) hv (u : Vx) hu (p : Int) _ hp => ⟨fun _ => none, 0, by
    obtain ⟨sv, su, p0, p1⟩ : v.Sm 268435456 ∧ u.Sm 268435456 ∧ 0 ≤ p ∧ p ≤ 1099511627776 := hp
    have v1 := Dx.Wf.m0 hv.1
    have v2 := Dx.Wf.m0 hv.2
    have u1 := Dx.Wf.m0 hu.1
    have u2 := Dx.Wf.m0 hu.2
    have sz : ∀ {a b : Dx}, 0 ≤ a.m → 0 ≤ b.m → a.Sm 268435456 → b.Sm 268435456 → (timesD a b).Sm 34359738368 := fun ha hb sa sb => (timesD_sm ha hb sa sb).mono (by omega)
    have sm : ∀ {a : Dx}, a.Sm 268435456 → a.Sm 68719476736 := fun h => h.mono (by omega)
    exact (gTimes_vc v u p _).mpr ⟨⟨sm sv.1, sm su.1⟩, ⟨sm sv.1, sm su.2⟩, ⟨sm sv.2, sm su.1⟩, ⟨sm sv.2, sm su.2⟩, rfl, ⟨sz v1 u1 sv.1 su.1, sz v1 u2 sv.1 su.2, sz v2 u1 sv.2 su.1, sz v2 u2 sv.2 su.2⟩, ⟨(prodV_sm (Vx.Wf.p hv) (Vx.Wf.p hu) sv su).mono (by omega), p0, p1⟩, rfl⟩⟩
def sG3 : List (FuncId × Spec) := [(99, gPlus), (30, gTimes)] ++ sG2
theorem sG3_ok : SpecsOk Tryz.prog sG3 := ⟨gPlus_ok, gTimes_ok, sG2_ok⟩
end Go.Proofs.YtdnbckfhfhfkoaaGreatDoor

namespace Go.Proofs.YtdnbckfhfhfkoaaGreatDoor
open Go.RowKit
theorem pointV_sm {t : Dx} {N : Nat} (ht : 0 ≤ t.m) (h : t.Sm N) : (pointV t).Sm (N + N) := ⟨one_sm ht h, one_sm ht h⟩
theorem trimV_sm {v : Vx} {N : Nat} {p : Int} (hv : v.P) (h : v.Sm N) (hp : 0 ≤ p) : (trimV v p).Sm (6 * N + 1) := ⟨cutD_sm hv.1 h.1 hp, cutD_sm hv.2 h.2 hp⟩
theorem timesV_sm {v u : Vx} {N : Nat} {p : Int} (hv : v.P) (hu : u.P) (sv : v.Sm N) (su : u.Sm N) (hp : 0 ≤ p) : (timesV v u p).Sm (24 * N + 1) :=
  (trimV_sm (prodV_p v u) (prodV_sm hv hu sv su) hp).mono (by omega)
theorem AltIv.sm {f : Nat} {t : Dx} {w : Int} {v : Vx} (h : AltIv f t w v) (w0 : 0 ≤ w) (w1 : w ≤ 65536) : v.Sm 262144 := by
  obtain ⟨a, b, a0, a1, b0, b1, rfl⟩ := h.bits
  have k : ∀ n : Int, n ≤ 3 * 2 ^ w.toNat → blen n ≤ w.toNat + 1 + 1 + 1 := fun n hn => blen_pow_le (by rw [Int.pow_succ, Int.pow_succ]; have := two_pow_pos w.toNat; omega)
  exact ⟨(mkD_sm (M := 65536) a0 (k a a1) (by omega) (by omega)).mono (by omega), (mkD_sm (M := 65536) b0 (k b b1) (by omega) (by omega)).mono (by omega)⟩
end Go.Proofs.YtdnbckfhfhfkoaaGreatDoor

namespace Go.Proofs.YtdnbckfhfhfkoaaGreatDoor
open Go.RowKit
end Go.Proofs.YtdnbckfhfhfkoaaGreatDoor

namespace Go.Proofs.YtdnbckfhfhfkoaaGreatDoor
open Go.RowKit
/-! ### Room. -/
def OneF (d : Dx) : Prop := ∃ n m e, (0 : Int) ≤ m ∧ d = mkD n m e
theorem OneF.p {d : Dx} (h : OneF d) : 0 ≤ d.m := by obtain ⟨n, m, e, h, rfl⟩ := h; exact mkD_p
theorem OneF.odd {d : Dx} (h : OneF d) (h0 : d.m ≠ 0) : d.m % 2 = 1 := by
  obtain ⟨n, m, e, h, rfl⟩ := h
  have : m ≠ 0 := fun k => h0 ((mkD_m_zero (neg := n) (e := e) h).2 k)
  exact mkD_odd (by omega)
theorem OneF.zero {d : Dx} (h : OneF d) (h0 : d.m = 0) : d = ⟨false, [], 0⟩ := by
  obtain ⟨n, m, e, h, rfl⟩ := h
  rw [(mkD_m_zero (neg := n) (e := e) h).1 h0, mkD_zero]
theorem oneD_f {d : Dx} (hd : 0 ≤ d.m) : OneF (oneD d) := ⟨_, _, _, hd, rfl⟩
theorem cutD_f {d : Dx} {p : Int} {up : Bool} (hd : 0 ≤ d.m) : OneF (cutD d p up) := by
  have m0 : 0 ≤ (oneD d).m := oneD_p
  unfold cutD cutX
  split
  · exact oneD_f hd
  · have := Int.ediv_nonneg m0 (show (0 : Int) ≤ 2 ^ ((blen (oneD d).m : Int) - p).toNat by have := two_pow_pos ((blen (oneD d).m : Int) - p).toNat; omega)
    exact ⟨_, _, _, by split <;> omega, rfl⟩
/-- A number in its one form, of p bits, from 2^A to 2^B in its amount. -/
theorem fits_rp {d : Dx} (h : OneF d) {p A B : Int} (hr : Rp p d.rv) (hp : p ≤ 32768) (hA : d.m ≠ 0 → p2 A ≤ (d.m : Rat) * p2 d.e) (hB : (d.m : Rat) * p2 d.e ≤ p2 B) (h1 : -32768 ≤ A - p) (h2 : B ≤ 32768) : d.fitsB = true := by
  have m0 := h.p
  by_cases hz : d.m = 0
  · rw [h.zero hz]; decide +kernel
  · have hodd := h.odd hz
    obtain ⟨s, e, hs, s1, s2⟩ := hr
    have amt : (d.m : Rat) * p2 d.e = ((s.natAbs : Int) : Rat) * p2 e := by
      obtain ⟨a1, a2⟩ := rv_amt m0
      rcases (show 0 ≤ d.rv ∨ d.rv ≤ 0 by grind) with c | c
      · rw [← a1 c, hs]
        have : 0 ≤ s := by
          have := p2_pos e
          rcases (show s < 0 ∨ 0 ≤ s by omega) with k | k
          · have k2 : (s : Rat) < 0 := cast_lt.2 k
            have := Rat.mul_pos (show (0 : Rat) < -(s : Rat) by grind) this
            grind
          · exact k
        rw [show (s.natAbs : Int) = s by omega]
      · rw [← a2 c, hs]
        have : s ≤ 0 := by
          have := p2_pos e
          rcases (show 0 < s ∨ s ≤ 0 by omega) with k | k
          · have k2 : (0 : Rat) < (s : Rat) := cast_lt.2 k
            have := Rat.mul_pos k2 this
            grind
          · exact k
        rw [show (s.natAbs : Int) = -s by omega, Rat.intCast_neg]; grind
    have hsa : ((s.natAbs : Int) : Rat) < p2 p := by
      rcases (show (s.natAbs : Int) = s ∨ (s.natAbs : Int) = -s by omega) with c | c
      · rw [c]; exact s1
      · rw [c, Rat.intCast_neg]; grind
    -- the odd part is at most the whole
    have hm : d.m ≤ (s.natAbs : Int) := by
      rcases (show d.e < e ∨ e ≤ d.e by omega) with k | k
      · exfalso
        have e1 : (d.m : Rat) = ((s.natAbs * 2 ^ (e - d.e).toNat : Int) : Rat) := by
          rw [Rat.intCast_mul, ← p2_toNat (show 0 ≤ e - d.e by omega)]
          have := p2_sub e d.e
          have q := p2_pos d.e
          have h3 : (d.m : Rat) * p2 d.e = ((s.natAbs : Int) : Rat) * p2 (e - d.e) * p2 d.e := by rw [Rat.mul_assoc, this]; exact amt
          have l1 := (mul_p2_le (a := (d.m : Rat)) (b := ((s.natAbs : Int) : Rat) * p2 (e - d.e)) d.e).1 (by rw [h3]; exact Rat.le_refl)
          have l2 := (mul_p2_le (b := (d.m : Rat)) (a := ((s.natAbs : Int) : Rat) * p2 (e - d.e)) d.e).1 (by rw [h3]; exact Rat.le_refl)
          exact Rat.le_antisymm l1 l2
        have e2 := Rat.intCast_inj.1 e1
        obtain ⟨j, hj⟩ : ∃ j, (e - d.e).toNat = j + 1 := ⟨(e - d.e).toNat - 1, by omega⟩
        rw [hj, Int.pow_succ, ← Int.mul_assoc] at e2
        omega
      · have q : p2 e ≤ p2 d.e := p2_le (by omega)
        have h3 := Rat.mul_le_mul_of_nonneg_left q (show (0 : Rat) ≤ (d.m : Rat) from cast_le.2 m0)
        rw [amt] at h3
        exact cast_le.1 ((mul_p2_le e).1 h3)
    have hmp : (d.m : Rat) < p2 p := by have := cast_le.2 hm; grind
    have hp0 : 0 < p := by
      have : p2 0 < p2 p := by rw [p2_zero]; have : (1 : Rat) ≤ (d.m : Rat) := cast_le.2 (show (1 : Int) ≤ d.m by omega); grind
      exact p2_lt_iff.1 this
    have hb : blen d.m ≤ p.toNat := blen_le (by rw [p2_toNat (by omega)] at hmp; exact cast_lt.1 hmp)
    have a1 := amt_ge (m := d.m) (e := d.e) (by omega)
    have a2 := amt_lt (m := d.m) (e := d.e)
    have e1 : A < d.e + (blen d.m : Int) := p2_lt_iff.1 (by have := hA hz; grind)
    have e2 : d.e + (blen d.m : Int) - 1 ≤ B := by
      rcases (show B < (d.e + (blen d.m : Int) - 1) ∨ (d.e + (blen d.m : Int) - 1) ≤ B by omega) with k | k
      · have := p2_lt k; grind
      · exact k
    have hbp := blen_pos (n := d.m) (by omega)
    have hl : (ws d.m).length ≤ 1024 := ws_blen m0 (by omega)
    unfold Dx.fitsB greatB
    rw [decide_eq_false (by omega), decide_eq_true (show -32768 ≤ d.e by omega), decide_eq_true (show d.e ≤ 32768 by omega)]
    rfl
theorem fits_mk {n : Bool} {a e : Int} {N : Nat} (a0 : 0 ≤ a) (hb : blen a ≤ N) (_ : N ≤ 65536) (h1 : -32768 ≤ e) (h2 : e + N ≤ 32768) (h0 : e ≤ 32768) : (mkD n a e).fitsB = true := by
  by_cases hz : a = 0
  · rw [hz, mkD_zero]; decide +kernel
  · have t := tz_lt_blen (n := a) (by omega)
    have hm : (mkD n a e).m ≤ a := by rw [mkD_m a0]; exact Int.ediv_le_self _ a0
    have hl : (ws (mkD n a e).m).length ≤ 1024 := ws_blen mkD_p (by have := blen_mono (m := (mkD n a e).m) (n := a) hm; omega)
    have he : (mkD n a e).e = e + (tz a : Int) := by unfold mkD; rw [if_neg hz]
    unfold Dx.fitsB greatB
    rw [he, decide_eq_false (by omega), decide_eq_true (show -32768 ≤ e + (tz a : Int) by omega), decide_eq_true (show e + (tz a : Int) ≤ 32768 by omega)]
    rfl
theorem AltIv.fits {f : Nat} {t : Dx} {w : Int} {v : Vx} (h : AltIv f t w v) (w0 : 0 ≤ w) (w1 : w ≤ 32000) : v.lo.fitsB = true ∧ v.hi.fitsB = true := by
  obtain ⟨a, b, a0, a1, b0, b1, rfl⟩ := h.bits
  have k : ∀ n : Int, n ≤ 3 * 2 ^ w.toNat → blen n ≤ w.toNat + 1 + 1 + 1 := fun n hn => blen_pow_le (by rw [Int.pow_succ, Int.pow_succ]; have := two_pow_pos w.toNat; omega)
  exact ⟨fits_mk a0 (k a a1) (by omega) (by omega) (by omega) (by omega), fits_mk b0 (k b b1) (by omega) (by omega) (by omega) (by omega)⟩
/-! ### Narrow intervals of either sign. -/
def NarV (δ : Rat) (v : Vx) : Prop := Nar δ v.lo.rv v.hi.rv ∨ Nar δ (-v.hi.rv) (-v.lo.rv)
theorem NarV.mono {δ η : Rat} {v : Vx} (h : NarV δ v) (k : δ ≤ η) : NarV η v := h.elim (fun h => .inl (h.mono k)) fun h => .inr (h.mono k)
theorem NarV.trim {δ : Rat} {v : Vx} {p : Int} (hv : v.P) (h : NarV δ v) (d0 : 0 ≤ δ) (hp : 1 ≤ p) (he : 4 * eps p ≤ 1) : NarV (2 * δ + 4 * eps p) (trimV v p) := by
  obtain ⟨b1, b2⟩ := trim_best hv hp
  rcases h with h | h
  · exact .inl (h.trim d0 hp he b1 b2)
  · exact .inr (h.trim d0 hp he b2.neg b1.neg)
/-- Narrow, and how great. -/
structure NM (δ L H a b : Rat) : Prop where
  L0 : 0 < L
  lo : L ≤ a
  hi : b ≤ H
  nar : Nar δ a b
theorem NM.trim {δ L H a b a' b' : Rat} {p : Int} (h : NM δ L H a b) (d0 : 0 ≤ δ) (hp : 1 ≤ p) (he : 4 * eps p ≤ 1) (ha : Dn p a a') (hb : Up p b b') : NM (2 * δ + 4 * eps p) (L / 2) (2 * H) a' b' := by
  have r1 := ha.rel hp h.nar.1
  have r2 := hb.rel hp (by have := h.nar.1; have := h.nar.2.1; grind)
  have e0 := eps_pos p
  have L0 := h.L0
  have lo := h.lo
  have hi := h.hi
  have n := h.nar.2.1
  have m1 := Rat.mul_le_mul_of_nonneg_right he (show 0 ≤ a by grind)
  have m2 := Rat.mul_le_mul_of_nonneg_right he (show 0 ≤ b by grind)
  exact ⟨by grind, by grind, by grind, h.nar.trim d0 hp he ha hb⟩
theorem NM.mul {δ η L H L' H' a b c d : Rat} (h : NM δ L H a b) (k : NM η L' H' c d) (d0 : 0 ≤ δ) (n0 : 0 ≤ η) : NM (δ + η + δ * η) (L * L') (H * H') (a * c) (b * d) := by
  have p1 := h.L0; have p2 := h.lo; have p3 := h.hi; have p4 := h.nar.2.1
  have q1 := k.L0; have q2 := k.lo; have q3 := k.hi; have q4 := k.nar.2.1
  have m1 := Rat.mul_le_mul_of_nonneg_right p2 (Rat.le_of_lt q1)
  have m2 := Rat.mul_le_mul_of_nonneg_left q2 (show 0 ≤ a by grind)
  have m3 := Rat.mul_le_mul_of_nonneg_right p3 (show 0 ≤ d by grind)
  have m4 := Rat.mul_le_mul_of_nonneg_left q3 (show 0 ≤ H by grind)
  exact ⟨Rat.mul_pos p1 q1, by grind, by grind, h.nar.mul k.nar d0 n0⟩
theorem NM.mono {δ η L H L' H' a b : Rat} (h : NM δ L H a b) (k : δ ≤ η) (l0 : 0 < L') (l1 : L' ≤ L) (h1 : H ≤ H') : NM η L' H' a b :=
  ⟨l0, by have := h.lo; grind, by have := h.hi; grind, h.nar.mono k⟩
def VM (δ L H : Rat) (v : Vx) : Prop := NM δ L H v.lo.rv v.hi.rv ∨ NM δ L H (-v.hi.rv) (-v.lo.rv)
theorem VM.mono {δ η L H L' H' : Rat} {v : Vx} (h : VM δ L H v) (k : δ ≤ η) (l0 : 0 < L') (l1 : L' ≤ L) (h1 : H ≤ H') : VM η L' H' v :=
  h.elim (fun h => .inl (h.mono k l0 l1 h1)) fun h => .inr (h.mono k l0 l1 h1)
theorem VM.trim {δ L H : Rat} {v : Vx} {p : Int} (hv : v.P) (h : VM δ L H v) (d0 : 0 ≤ δ) (hp : 1 ≤ p) (he : 4 * eps p ≤ 1) : VM (2 * δ + 4 * eps p) (L / 2) (2 * H) (trimV v p) := by
  obtain ⟨b1, b2⟩ := trim_best hv hp
  rcases h with h | h
  · exact .inl (h.trim d0 hp he b1 b2)
  · exact .inr (h.trim d0 hp he b2.neg b1.neg)
/-! ### The sine. -/
/-! ### Cut. -/
theorem narrow_of {v : Vx} {δ L H : Rat} {p : Int} (hv : v.P) (hr : rightV v = true) (p0 : 0 ≤ p) (h : VM δ L H v) (hd : δ ≤ p2 (-p)) : narrowB v p = true := by
  have f := right_fits hr
  rw [narrowB, hr, show leI 0 p = true from leI_true.2 p0]
  show narrowV v p = true
  have s1 := sgn_rv hv.1
  have s2 := sgn_rv hv.2
  have q := p2_pos p
  have i := p2_neg p
  have wd : (lessD v.hi v.lo).zeroB = false → narrowX (lessD v.hi v.lo) (if v.lo.sgn < 0 then absD v.hi else absD v.lo) p = decide ((lessD v.hi v.lo).rv * p2 p ≤ (if v.lo.sgn < 0 then absD v.hi else absD v.lo).rv) := fun hz => by
    refine narrowX_eq lessD_p (by split <;> exact absD_p) (wide_ge hv hr hz) ?_
    split
    · rw [rv_abs hv.2]; exact fits_lt f.2.1
    · rw [rv_abs hv.1]; exact fits_lt f.1
  have wr : (lessD v.hi v.lo).rv = v.hi.rv - v.lo.rv := rv_less hv.2 hv.1
  unfold narrowV
  rcases h with h | h
  · have n := h.nar.mono hd
    obtain ⟨n1, n2, n3⟩ := n
    have e1 : v.lo.sgn = 1 := by rcases s1 with ⟨a, b⟩ | ⟨a, b⟩ | ⟨a, b⟩ <;> first | exact a | (exfalso; grind)
    have e2 : v.hi.sgn = 1 := by rcases s2 with ⟨a, b⟩ | ⟨a, b⟩ | ⟨a, b⟩ <;> first | exact a | (exfalso; grind)
    rw [e1, e2, if_neg (by omega), if_neg (by omega)]
    split
    · rfl
    · rename_i hz
      have hz : (lessD v.hi v.lo).zeroB = false := by simpa using hz
      rw [e1] at wd
      rw [wd hz, decide_eq_true_eq, wr, if_neg (by omega), rv_abs hv.1, ← (rv_amt hv.1).1 (by grind)]
      have m := Rat.mul_le_mul_of_nonneg_right (show v.hi.rv - v.lo.rv ≤ p2 (-p) * v.lo.rv by grind) (Rat.le_of_lt q)
      have e : p2 (-p) * v.lo.rv * p2 p = v.lo.rv := by rw [show p2 (-p) * v.lo.rv * p2 p = v.lo.rv * (p2 (-p) * p2 p) by grind, i, Rat.mul_one]
      grind
  · have n := h.nar.mono hd
    obtain ⟨n1, n2, n3⟩ := n
    have e1 : v.lo.sgn = -1 := by rcases s1 with ⟨a, b⟩ | ⟨a, b⟩ | ⟨a, b⟩ <;> first | exact a | (exfalso; grind)
    have e2 : v.hi.sgn = -1 := by rcases s2 with ⟨a, b⟩ | ⟨a, b⟩ | ⟨a, b⟩ <;> first | exact a | (exfalso; grind)
    rw [e1, e2, if_neg (by omega), if_neg (by omega)]
    split
    · rfl
    · rename_i hz
      have hz : (lessD v.hi v.lo).zeroB = false := by simpa using hz
      rw [e1] at wd
      rw [wd hz, decide_eq_true_eq, wr, if_pos (by omega), rv_abs hv.2, ← (rv_amt hv.2).2 (by grind)]
      have m := Rat.mul_le_mul_of_nonneg_right (show v.hi.rv - v.lo.rv ≤ p2 (-p) * (-v.hi.rv) by grind) (Rat.le_of_lt q)
      have e : p2 (-p) * (-v.hi.rv) * p2 p = -v.hi.rv := by rw [show p2 (-p) * (-v.hi.rv) * p2 p = -v.hi.rv * (p2 (-p) * p2 p) by grind, i, Rat.mul_one]
      grind
end Go.Proofs.YtdnbckfhfhfkoaaGreatDoor

namespace Go.Proofs.YtdnbckfhfhfkoaaGreatDoor
open Go.RowKit
theorem OneF.xs {d : Dx} (h : OneF d) : d.xs = ws d.m := by obtain ⟨n, m, e, h, rfl⟩ := h; exact mkD_ws h
theorem p2_int_odd {a b : Int} {e f : Int} (h : (a : Rat) * p2 e = (b : Rat) * p2 f) (hef : e ≤ f) : a = b * 2 ^ (f - e).toNat := by
  have k : p2 f = p2 (f - e) * p2 e := by rw [← p2_add]; congr 1; omega
  rw [k, ← Rat.mul_assoc, p2_toNat (show 0 ≤ f - e by omega)] at h
  have h2 : ((a : Int) : Rat) = ((b * 2 ^ (f - e).toNat : Int) : Rat) := by
    rw [Rat.intCast_mul]
    refine Rat.le_antisymm ((mul_p2_le e).1 ?_) ((mul_p2_le e).1 ?_) <;> grind
  exact Rat.intCast_inj.1 h2
theorem sm_odd {d : Dx} (h : d.m % 2 = 1) : d.sm % 2 = 1 := by unfold Dx.sm; split <;> omega
/-- Numbers in their one form are told by what they are. -/
theorem OneF.ext {a b : Dx} (ha : OneF a) (hb : OneF b) (h : a.rv = b.rv) : a = b := by
  have pa := ha.p
  have pb := hb.p
  by_cases za : a.m = 0
  · have e : b.rv = 0 := by rw [← h]; exact rv_zero za
    have zb : b.m = 0 := by
      have := (zeroB_rv pb).2 e
      simpa [Dx.zeroB] using this
    rw [ha.zero za, hb.zero zb]
  · have zb : b.m ≠ 0 := fun zb => za (by
      have e : a.rv = 0 := by rw [h]; exact rv_zero zb
      have := (zeroB_rv pa).2 e
      simpa [Dx.zeroB] using this)
    have oa := sm_odd (ha.odd za)
    have ob := sm_odd (hb.odd zb)
    have he : a.e = b.e ∧ a.sm = b.sm := by
      rcases Int.le_total a.e b.e with k | k
      · have q := p2_int_odd (h : (a.sm : Rat) * p2 a.e = (b.sm : Rat) * p2 b.e) k
        generalize ht : (b.e - a.e).toNat = t at q
        cases t with
        | zero => exact ⟨by omega, by simpa using q⟩
        | succ t => rw [Int.pow_succ, ← Int.mul_assoc] at q; omega
      · have q := p2_int_odd (h.symm : (b.sm : Rat) * p2 b.e = (a.sm : Rat) * p2 a.e) k
        generalize ht : (a.e - b.e).toNat = t at q
        cases t with
        | zero => exact ⟨by omega, by simpa using q.symm⟩
        | succ t => rw [Int.pow_succ, ← Int.mul_assoc] at q; omega
    have hs := he.2
    have hm : a.neg = b.neg ∧ a.m = b.m := by
      unfold Dx.sm at hs
      cases h1 : a.neg <;> cases h2 : b.neg <;> simp only [h1, h2, if_true, if_false, Bool.false_eq_true] at hs ⊢ <;> first | (exfalso; omega) | exact ⟨trivial, by omega⟩
    have hx : a.xs = b.xs := by rw [ha.xs, hb.xs, hm.2]
    cases a; cases b
    simp only [Dx.mk.injEq]
    exact ⟨hm.1, hx, he.1⟩
theorem mkD_f {neg : Bool} {m e : Int} (h : 0 ≤ m) : OneF (mkD neg m e) := ⟨_, _, _, h, rfl⟩
theorem mkS_f {s e : Int} : OneF (mkS s e) := mkD_f (by omega)
theorem shiftD_f {d : Dx} {n : Int} (h : 0 ≤ d.m) : OneF (shiftD d n) := mkD_f h
theorem plusX_f {a b : Dx} (ha : OneF a) (hb : OneF b) : OneF (plusX a b) := by
  unfold plusX; split
  · exact hb
  · split
    · exact ha
    · exact mkS_f
theorem plusD_f {a b : Dx} (ha : 0 ≤ a.m) (hb : 0 ≤ b.m) : OneF (plusD a b) := plusX_f (oneD_f ha) (oneD_f hb)
theorem lessD_f {a b : Dx} (ha : 0 ≤ a.m) : OneF (lessD a b) := plusD_f ha negD_p
theorem floorD_f {d : Dx} (h : 0 ≤ d.m) : OneF (floorD d) := by
  unfold floorD; split
  · exact oneD_f h
  · have := Int.ediv_nonneg (oneD_p (d := d)) (show (0 : Int) ≤ 2 ^ (-(oneD d).e).toNat by have := two_pow_pos (-(oneD d).e).toNat; omega)
    exact mkD_f (by split <;> omega)
/-! ### The whole number next to a number. -/
def halfD : Dx := ⟨false, [1], -1⟩
theorem halfD_m : halfD.m = 1 := by decide
theorem halfD_rv : halfD.rv = 1 / 2 := by
  have : halfD.sm = 1 := by decide
  unfold Dx.rv; rw [this]; decide +kernel
theorem halfD_f : OneF halfD := by
  refine ⟨false, 1, -1, by decide, ?_⟩
  unfold mkD
  rw [if_neg (by decide), tz_odd2 (by decide) (by decide)]
  show halfD = ⟨false, ws (1 / 2 ^ 0), -1⟩
  rw [show (1 : Int) / 2 ^ 0 = 1 by decide, ws_one]; rfl
def nearD (d : Dx) : Dx :=
  if (floorD (plusD d halfD)).e = 0 ∧ (floorD (plusD d halfD)).m ≠ 0 ∧ cmpD (lessD (floorD (plusD d halfD)) d) halfD = 0 then lessD (floorD (plusD d halfD)) (mkS 1 0) else floorD (plusD d halfD)
/-- n is next to q, of two the even one. -/
def NearI (n : Int) (q : Rat) : Prop := (n : Rat) - 1 / 2 ≤ q ∧ q ≤ (n : Rat) + 1 / 2 ∧ ((q = (n : Rat) - 1 / 2 ∨ q = (n : Rat) + 1 / 2) → n % 2 = 0)
theorem NearI.mono {m n : Int} {x y : Rat} (h : NearI m x) (k : NearI n y) (hxy : x ≤ y) : m ≤ n := by
  refine Int.not_lt.1 fun hlt => ?_
  obtain ⟨h1, h2, h3⟩ := h
  obtain ⟨k1, k2, k3⟩ := k
  have c : ((n + 1 : Int) : Rat) ≤ (m : Rat) := cast_le.2 (by omega)
  rw [Rat.intCast_add] at c
  have e1 : ((1 : Int) : Rat) = 1 := rfl
  rw [e1] at c
  have ex : x = (m : Rat) - 1 / 2 := by grind
  have ey : y = (n : Rat) + 1 / 2 := by grind
  have em := h3 (.inl ex)
  have en := k3 (.inr ey)
  have : (m : Rat) = ((n + 1 : Int) : Rat) := by rw [Rat.intCast_add, e1]; grind
  have := Rat.intCast_inj.1 this
  omega
theorem NearI.uniq {m n : Int} {x : Rat} (h : NearI m x) (k : NearI n x) : m = n := by
  have a := h.mono k (by grind)
  have b := k.mono h (by grind)
  omega
theorem NearI.neg {n : Int} {x : Rat} (h : NearI n x) : NearI (-n) (-x) := by
  obtain ⟨h1, h2, h3⟩ := h
  refine ⟨by rw [Rat.intCast_neg]; grind, by rw [Rat.intCast_neg]; grind, fun h => ?_⟩
  have := h3 (by rw [Rat.intCast_neg] at h; grind)
  omega
theorem nearD_rv {d : Dx} (hd : 0 ≤ d.m) : ∃ n : Int, (nearD d).rv = (n : Rat) ∧ NearI n d.rv := by
  obtain ⟨n, hn, f1, f2⟩ := floorD_rv (d := plusD d halfD) plusD_p
  rw [rv_plus hd (by decide), halfD_rv] at f1 f2
  have ff := floorD_f (d := plusD d halfD) plusD_p
  have fe := floorD_e (d := plusD d halfD)
  have fp := floorD_p (d := plusD d halfD)
  unfold nearD
  generalize floorD (plusD d halfD) = N at *
  have hsm : n = N.sm * 2 ^ N.e.toNat := by
    refine Rat.intCast_inj.1 ?_
    rw [← hn, Rat.intCast_mul, ← p2_toNat fe]; rfl
  split
  · rename_i hc
    obtain ⟨c1, c2, c3⟩ := hc
    have c3 := cmpD_eq0.1 c3
    rw [rv_less fp hd, hn, halfD_rv] at c3
    have ho : n % 2 = 1 := by
      rw [hsm, c1]
      have := sm_odd (ff.odd c2)
      simpa using this
    have e1 : ((1 : Int) : Rat) = 1 := rfl
    have e2 : (1 : Rat) / 2 + 1 / 2 = 1 := by grind
    have c4 : d.rv = (n : Rat) - 1 / 2 := by grind
    refine ⟨n - 1, by rw [rv_less fp mkS_p, hn, rv_mkS, p2_zero, Rat.intCast_sub]; grind, ?_, ?_, fun _ => by omega⟩
    · rw [Rat.intCast_sub, e1, c4]; grind
    · rw [Rat.intCast_sub, e1, c4]; grind
  · rename_i hc
    refine ⟨n, hn, by grind, by grind, fun ht => ?_⟩
    have ht : d.rv = (n : Rat) - 1 / 2 := by grind
    by_cases he : N.e = 0
    · by_cases hm : N.m = 0
      · have : n = 0 := by
          refine Rat.intCast_inj.1 ?_
          rw [← hn, rv_zero hm]; rfl
        omega
      · exfalso
        refine hc ⟨he, hm, cmpD_eq0.2 ?_⟩
        rw [rv_less fp hd, hn, halfD_rv]; grind
    · rw [hsm]
      obtain ⟨k, hk⟩ : ∃ k, N.e.toNat = k + 1 := ⟨N.e.toNat - 1, by omega⟩
      rw [hk, Int.pow_succ, ← Int.mul_assoc]; omega
theorem nearD_p {d : Dx} : 0 ≤ (nearD d).m := by unfold nearD; split; exact lessD_p; exact floorD_p
theorem nearD_f {d : Dx} : OneF (nearD d) := by unfold nearD; split; exact lessD_f floorD_p; exact floorD_f plusD_p
theorem sub_e0 {a b : Dx} (ha : 0 ≤ a.e) (hb : 0 ≤ b.e) : 0 ≤ (lessD a b).e := by
  have h1 : 0 ≤ (oneD a).e := mkD_e0 ha
  have h2 : 0 ≤ (oneD (negD b)).e := mkD_e0 (mkD_e0 hb)
  unfold lessD plusD plusX
  split
  · exact h2
  · split
    · exact h1
    · exact mkD_e0 (by omega)
theorem nearD_e {d : Dx} : 0 ≤ (nearD d).e := by
  unfold nearD; split
  · exact sub_e0 floorD_e (mkD_e0 (Int.le_refl _))
  · exact floorD_e
/-- A whole number. -/
def wholeS (d : Dx) : Int := d.sm * 2 ^ d.e.toNat
theorem wholeS_rv {d : Dx} (h : 0 ≤ d.e) : (wholeS d : Rat) = d.rv := by unfold wholeS Dx.rv; rw [Rat.intCast_mul, p2_toNat h]
/-- Its rest by 4. -/
def by4I (d : Dx) : Int := wholeS d % 4
theorem nearD_whole {d : Dx} (hd : 0 ≤ d.m) : NearI (wholeS (nearD d)) d.rv := by
  obtain ⟨n, h1, h2⟩ := nearD_rv hd
  have : wholeS (nearD d) = n := Rat.intCast_inj.1 ((wholeS_rv nearD_e).trans h1)
  rwa [this]
theorem nearD_eq {a b : Dx} : (nearD a).rv = (nearD b).rv ↔ wholeS (nearD a) = wholeS (nearD b) := by
  rw [← wholeS_rv nearD_e, ← wholeS_rv nearD_e, Rat.intCast_inj]
end Go.Proofs.YtdnbckfhfhfkoaaGreatDoor

namespace Go.Proofs.YtdnbckfhfhfkoaaGreatDoor
open Go.RowKit
def rPower : Spec := specK [.i .i64] fun (n : Int) => (none, dT ⟨false, [1], n⟩)
theorem rPower_vc (n : Int) (Q : Tv → Prop) : execF ⟨tys, []⟩ (fun _ => none) 0 Tryz.f102 [.one (.int .i64 n)] Q = (Words [(1 : Int)] ∧ Q (Tv.sv (Sv.agg [At.bool false, At.words true [(1 : Int)], At.int .i64 n]))) := by kernel_rfl
theorem words_1 : Words [1] := fun x hx => by
  rcases List.mem_singleton.1 hx with rfl
  exact ⟨by omega, by omega⟩
theorem rPower_ok : SpecOk Tryz.prog 102 rPower :=
  specKW_ok (envOk (S := []) tys_ok trivial) mixed Tryz.func102 rfl (by decide) (by decide) fun (n : Int) _ _ => ⟨fun _ => none, 0, by
    show execF _ _ _ _ _ (fun t => t = dT ⟨false, [1], n⟩ ∨ fgT t = dT ⟨false, [1], n⟩)
    exact (rPower_vc n _).mpr ⟨words_1, .inl rfl⟩⟩
def sNear : List (FuncId × Spec) := [(102, rPower), (100, rFloor), (84, rInt)] ++ sRaw4
theorem sNear_ok : SpecsOk Tryz.prog sNear := ⟨rPower_ok, rFloor_ok, rInt_ok, sRaw4_ok⟩
theorem halfD_sm : halfD.Sm 8 := ⟨by rw [halfD_m]; exact blen_le (by decide), by decide, by decide⟩
def rNear : Spec := specK [.d] fun (d : Dx) => (some (d.Sm 268435456), dT (nearD d))
theorem rNear_vc (d : Dx) (Q : Tv → Prop) : execF ⟨tys, sNear⟩ (fun _ => none) 0 Tryz.f62 [.agg (dyL false d)] Q = ((Dx.Sm (68719476736 : Nat) d ∧ Dx.Sm (68719476736 : Nat) (Dx.mk false [(1 : Int)] (-1 : Int))) ∧ Dx.Sm (68719476736 : Nat) (plusD d (Dx.mk false [(1 : Int)] (-1 : Int))) ∧ true = true ∧ br (eqI (floorD (plusD d (Dx.mk false [(1 : Int)] (-1 : Int)))).e (0 : Int)) (br (!Dx.zeroB (floorD (plusD d (Dx.mk false [(1 : Int)] (-1 : Int))))) ((Dx.Sm (34359738368 : Nat) (floorD (plusD d (Dx.mk false [(1 : Int)] (-1 : Int)))) ∧ Dx.Sm (34359738368 : Nat) d) ∧ (Dx.Sm (68719476736 : Nat) (lessD (floorD (plusD d (Dx.mk false [(1 : Int)] (-1 : Int)))) d) ∧ Dx.Sm (68719476736 : Nat) (Dx.mk false [(1 : Int)] (-1 : Int))) ∧ br (eqI (cmpD (lessD (floorD (plusD d (Dx.mk false [(1 : Int)] (-1 : Int)))) d) (Dx.mk false [(1 : Int)] (-1 : Int))) (0 : Int)) (inR (1 : Int) ∧ (Dx.Sm (34359738368 : Nat) (floorD (plusD d (Dx.mk false [(1 : Int)] (-1 : Int)))) ∧ Dx.Sm (34359738368 : Nat) (mkS (1 : Int) (0 : Int))) ∧ true = true ∧ Q (Tv.sv (Sv.agg (dyL true (lessD (floorD (plusD d (Dx.mk false [(1 : Int)] (-1 : Int)))) (mkS (1 : Int) (0 : Int))))))) (Q (Tv.sv (Sv.agg (dyL true (floorD (plusD d (Dx.mk false [(1 : Int)] (-1 : Int))))))))) (Q (Tv.sv (Sv.agg (dyL true (floorD (plusD d (Dx.mk false [(1 : Int)] (-1 : Int))))))))) (Q (Tv.sv (Sv.agg (dyL true (floorD (plusD d (Dx.mk false [(1 : Int)] (-1 : Int))))))))) := by kernel_rfl
theorem near_sm1 {d : Dx} {N : Nat} (hd : 0 ≤ d.m) (h : d.Sm N) (hN : 8 ≤ N) : (plusD d halfD).Sm (8 * N + 1) ∧ (floorD (plusD d halfD)).Sm (16 * N + 4) := by
  have a := plusD_sm (N := N) hd (by decide) h (halfD_sm.mono (by omega))
  exact ⟨a.mono (by omega), (floorD_sm plusD_p a).mono (by omega)⟩
theorem mkS_sm5 : (mkS 1 0).Sm 5 := (mkS_sm (N := 5) (M := 0) (blen_le (by decide)) (by omega) (by omega)).mono (by omega)
theorem nearD_sm {d : Dx} {N : Nat} (hd : 0 ≤ d.m) (h : d.Sm N) (hN : 8 ≤ N) : (nearD d).Sm (256 * N + 64) := by
  obtain ⟨a, b⟩ := near_sm1 hd h hN
  unfold nearD; split
  · have c := negD_sm (mkS_sm5) mkS_p
    exact (plusD_sm (N := 16 * N + 4) floorD_p negD_p b (c.mono (by omega))).mono (by omega)
  · exact b.mono (by omega)
theorem rNear_ok : SpecOk Tryz.prog 62 rNear :=
  specK_ok (envOk tys_ok sNear_ok) mixed Tryz.func62 rfl (by decide) (by decide) fun (d : Dx) hd hp => ⟨fun _ => none, 0, by
    have s : d.Sm 268435456 := hp
    have m0 := Dx.Wf.m0 hd
    obtain ⟨z1, z2⟩ := near_sm1 m0 s (by omega)
    show execF _ _ _ _ _ (fun t => t = dT (nearD d))
    have e0 : (⟨false, [1], -1⟩ : Dx) = halfD := rfl
    refine (rNear_vc d _).mpr ?_
    rw [e0]
    have p1 := floorD_p (d := plusD d halfD)
    have z3 : (lessD (floorD (plusD d halfD)) d).Sm 68719476736 := (plusD_sm (N := 4294967300) p1 negD_p z2 ((negD_sm s m0).mono (by omega))).mono (by omega)
    have z5 : Dx.Sm 34359738368 (mkS 1 0) := mkS_sm5.mono (by omega)
    refine ⟨⟨s.mono (by omega), halfD_sm.mono (by omega)⟩, z1.mono (by omega), rfl, ?_⟩
    unfold nearD
    refine br_intro (fun h1 => br_intro (fun h2 => ⟨⟨z2.mono (by omega), s.mono (by omega)⟩, ⟨z3, halfD_sm.mono (by omega)⟩, br_intro (fun h3 => ⟨⟨by omega, by omega⟩, ⟨z2.mono (by omega), z5⟩, rfl, ?_⟩) fun h3 => ?_⟩) fun h2 => ?_) fun h1 => ?_
    · rw [if_pos ⟨eqI_true.1 h1, zeroB_false.1 (not_true h2), eqI_true.1 h3⟩]
    · rw [if_neg fun k => eqI_false.1 h3 k.2.2]
    · rw [if_neg fun k => k.2.1 (zeroB_true.1 (not_false' h2))]
    · rw [if_neg fun k => eqI_false.1 h1 k.1]⟩
/-! ### The rest by 4. -/
theorem by4_low {m e : Int} (m0 : 0 < m) (e0 : 0 ≤ e) (e1 : e ≤ 1) : bitsI .and .i64 (IntKind.wrap .i64 (shlI .u64 (nth (ws m) 0) e)) 3 = m * 2 ^ e.toNat % 4 := by
  rw [and_mask3, ws_pos m0, nth_cons_zero, shlI, IntKind.wrap_i64, IntKind.wrap_u64]
  rcases (show e = 0 ∨ e = 1 by omega) with rfl | rfl
  · rw [show min (0 : Int).toNat IntKind.u64.bits = 0 by decide, show (0 : Int).toNat = 0 by decide]; omega
  · rw [show min (1 : Int).toNat IntKind.u64.bits = 1 by decide, show (1 : Int).toNat = 1 by decide]; omega
theorem by4_great {d : Dx} (h : 2 ≤ d.e) : by4I d = 0 := by
  obtain ⟨k, hk⟩ : ∃ k, d.e.toNat = k + 2 := ⟨d.e.toNat - 2, by omega⟩
  unfold by4I wholeS
  rw [hk, Int.pow_succ, Int.pow_succ, ← Int.mul_assoc, ← Int.mul_assoc]; omega
theorem by4_zero {d : Dx} (h : d.m = 0) : by4I d = 0 := by
  have : d.sm = 0 := by unfold Dx.sm; rw [h]; simp
  unfold by4I wholeS; rw [this]; simp
theorem oneD_id {d : Dx} (h : OneF d) : oneD d = d := (oneD_f h.p).ext h (rv_one h.p)
def rBy4 : Spec := specK [.d] fun (d : Dx) => (some (OneF d ∧ 0 ≤ d.e ∧ d.e ≤ 4611686018427387904), iT (by4I d))
theorem rBy4_vc (d : Dx) (Q : Tv → Prop) : execF ⟨tys, sNear⟩ (fun _ => none) 0 Tryz.f65 [.agg (dyL false d)] Q = (((-4611686018427387904 : Int) ≤ d.e ∧ d.e ≤ (4611686018427387904 : Int)) ∧ br (Dx.zeroB (oneD d)) (Q (iT 0)) (br (ltI (1 : Int) (oneD d).e) (Q (iT 0)) (((0 : Int) ≤ (0 : Int) ∧ (0 : Int) < (↑(List.length (oneD d).xs) : Int)) ∧ (0 : Int) ≤ (oneD d).e ∧ true = true ∧ br (oneD d).neg (inR ((0 : Int) - bitsI BinOp.and IntKind.i64 (IntKind.wrap IntKind.i64 (shlI IntKind.u64 (nth (oneD d).xs (0 : Nat)) (oneD d).e)) (3 : Int)) ∧ Q (iT (bitsI BinOp.and IntKind.i64 ((0 : Int) - bitsI BinOp.and IntKind.i64 (IntKind.wrap IntKind.i64 (shlI IntKind.u64 (nth (oneD d).xs (0 : Nat)) (oneD d).e)) (3 : Int)) (3 : Int)))) (Q (iT (bitsI BinOp.and IntKind.i64 (IntKind.wrap IntKind.i64 (shlI IntKind.u64 (nth (oneD d).xs (0 : Nat)) (oneD d).e)) (3 : Int))))))) := by kernel_rfl
theorem rBy4_ok : SpecOk Tryz.prog 65 rBy4 :=
  specK_ok (envOk tys_ok sNear_ok) mixed Tryz.func65 rfl (by decide) (by decide) fun (d : Dx) _ hp => ⟨fun _ => none, 0, by
    obtain ⟨f, e0, e1⟩ : OneF d ∧ 0 ≤ d.e ∧ d.e ≤ 4611686018427387904 := hp
    show execF _ _ _ _ _ (fun t => t = iT (by4I d))
    refine (rBy4_vc d _).mpr ?_
    rw [oneD_id f]
    refine ⟨⟨by omega, e1⟩, br_intro (fun h => ?_) fun h => br_intro (fun h1 => ?_) fun h1 => ?_⟩
    · rw [by4_zero (zeroB_true.1 h)]
    · rw [by4_great (by have := ltI_true.1 h1; omega)]
    · have h1 := ltI_false.1 h1
      have m0 := f.p
      have mp : 0 < d.m := by have := zeroB_false.1 h; omega
      rw [f.xs, by4_low mp e0 (by omega)]
      have hl : 0 < ((ws d.m).length : Int) := by rw [ws_pos mp]; simp
      refine ⟨⟨by omega, hl⟩, e0, rfl, br_intro (fun h2 => ⟨⟨by omega, by omega⟩, ?_⟩) fun h2 => ?_⟩
      · rw [and_mask3]
        have : by4I d = (0 - d.m * 2 ^ d.e.toNat % 4) % 4 := by
          unfold by4I wholeS Dx.sm; rw [if_pos h2, Int.neg_mul]; omega
        rw [this]
      · have : by4I d = d.m * 2 ^ d.e.toNat % 4 := by
          unfold by4I wholeS Dx.sm; rw [if_neg (by rw [h2]; simp)]
        rw [this]⟩
end Go.Proofs.YtdnbckfhfhfkoaaGreatDoor

namespace Go.Proofs.YtdnbckfhfhfkoaaGreatDoor
open Go.RowKit
theorem div3_word {qs : List Int} (hq : Words qs) {t : Int} {i q r : Nat} (hr : r < 64) (hi : i = 64 * q + r) (e : val qs = 2 ^ (i + 1) * t) : nth qs q + 2 ^ r < 18446744073709551616 := by
  have b := bit_word hq hr hi
  have wq := hq.nth q
  have p := two_pow_pos i
  have pr := two_pow_pos r
  rw [e, Int.pow_succ, Int.mul_assoc, Int.mul_ediv_cancel_left _ (by omega), Int.mul_emod_right] at b
  obtain ⟨s, hs⟩ : ∃ s, 64 = r + (s + 1) := ⟨63 - r, by omega⟩
  have e64 : (18446744073709551616 : Int) = 2 ^ r * (2 ^ s * 2) := by
    have : (18446744073709551616 : Int) = 2 ^ 64 := by decide
    rw [this, hs, Int.pow_add, Int.pow_succ]
  have x1 : nth qs q / 2 ^ r < 2 ^ s * 2 := Int.ediv_lt_of_lt_mul pr (by rw [Int.mul_comm, ← e64]; exact wq.2)
  have dm := Int.mul_ediv_add_emod (nth qs q) (2 ^ r)
  have ml := Int.emod_lt_of_pos (nth qs q) pr
  have x2 : nth qs q / 2 ^ r + 2 ≤ 2 ^ s * 2 := by omega
  have m := Int.mul_le_mul_of_nonneg_left x2 (show (0 : Int) ≤ 2 ^ r by omega)
  rw [← e64, Int.mul_add] at m
  omega
/-- What there is behind so many bits of the quotient. -/
structure Div3At (a b : Int) (qs : List Int) (rr : Int) (k M : Nat) : Prop where
  len : qs.length = M
  wq : Words qs
  top : ∃ t : Int, val qs = 2 ^ k * t
  eq : val qs * b + rr = a
  r0 : 0 ≤ rr
  r1 : rr < b * 2 ^ k
theorem div3At_start {a b : Int} {n M : Nat} (ha : 0 ≤ a) (hb : 0 < b) (hn : blen a = n + blen b) : Div3At a b (List.replicate M 0) a (n + 1) M := by
  have p := two_pow_pos (n + 1)
  refine ⟨by simp, Words.zeros _, ⟨0, by rw [val_zeros]; simp⟩, by rw [val_zeros]; simp, ha, ?_⟩
  have h1 := blen_lt a
  have h2 := blen_ge hb
  rw [hn] at h1
  have bb := blen_pos hb
  have m := Int.mul_le_mul_of_nonneg_right h2 (show (0 : Int) ≤ 2 ^ (n + 1) by omega)
  rw [← Int.pow_add, show blen b - 1 + (n + 1) = n + blen b by omega] at m
  omega
theorem wpow_two (q : Nat) : wpow q = 2 ^ (64 * q) := by rw [wpow_eq]
theorem Div3At.yes {a b : Int} {qs : List Int} {rr : Int} {i q r M : Nat} (h : Div3At a b qs rr (i + 1) M) (hr : r < 64) (hi : i = 64 * q + r) (hq : q < M) (hle : b * 2 ^ i ≤ rr) :
    Div3At a b (qs.set q (nth qs q + 2 ^ r)) (rr - b * 2 ^ i) i M := by
  obtain ⟨t, e⟩ := h.top
  have w := div3_word h.wq hr hi e
  have wq := h.wq.nth q
  have pr := two_pow_pos r
  have l := h.len
  have v : val (qs.set q (nth qs q + 2 ^ r)) = val qs + 2 ^ i := by
    rw [val_set _ _ _ (by omega), wpow_two, show nth qs q + 2 ^ r - nth qs q = 2 ^ r by omega, ← Int.pow_add, ← hi]
  have r1 := h.r1
  have eq := h.eq
  refine ⟨by simpa using l, h.wq.set _ ⟨by have := wq.1; omega, w⟩, ⟨2 * t + 1, by rw [v, e, Int.pow_succ]; grind⟩, by rw [v, ← eq]; grind, by omega, ?_⟩
  rw [Int.pow_succ] at r1
  grind
theorem Div3At.no {a b : Int} {qs : List Int} {rr : Int} {i M : Nat} (h : Div3At a b qs rr (i + 1) M) (hlt : rr < b * 2 ^ i) : Div3At a b qs rr i M := by
  obtain ⟨t, e⟩ := h.top
  exact ⟨h.len, h.wq, ⟨2 * t, by rw [e, Int.pow_succ, Int.mul_assoc]⟩, h.eq, h.r0, hlt⟩
theorem Div3At.fin {a b : Int} {qs : List Int} {rr : Int} {M : Nat} (h : Div3At a b qs rr 0 M) (hb : 0 < b) : val qs = a / b ∧ rr = a % b := by
  have r1 := h.r1
  have r0 := h.r0
  simp only [Int.pow_zero, Int.mul_one] at r1
  rw [← h.eq]
  refine ⟨?_, ?_⟩
  · rw [Int.add_comm, Int.add_mul_ediv_right _ _ (by omega), Int.ediv_eq_zero_of_lt r0 r1, Int.zero_add]
  · rw [Int.add_comm, Int.add_mul_emod_self_right, Int.emod_eq_of_lt r0 r1]
theorem half_step (b : Int) (i : Nat) : b * 2 ^ (i + 1) / 2 ^ 1 = b * 2 ^ i := by
  rw [Int.pow_succ, ← Int.mul_assoc]; simp
end Go.Proofs.YtdnbckfhfhfkoaaGreatDoor

namespace Go.Proofs.YtdnbckfhfhfkoaaGreatDoor
open Go.RowKit
theorem nat_set_row {B g o : Nat} {w : World} {v : Value} {xs : List Int} (h : NatAt B w v xs) (hg : g < B) (x : Value) : NatAt B (w.setCell ⟨g, o, none⟩ x) v xs :=
  h.isIn.ext (D' := fun g => B ≤ g) (by simp) fun k _ hk => ⟨hk, heap_setCell_other _ _ _ _ (by show k ≠ g; have : B ≤ k := hk; omega)⟩
set_option maxRecDepth 100000 in
set_option maxHeartbeats 3200000 in
theorem div3_calls {B B' : Nat} {w : World} {v v' : Value} {xs ys : List Int} (h : NatAt B w v xs) (h' : NatAt B' w v' ys) (hb : 0 < val ys) (hl : blen (val xs) ≤ 1073741824) (hl' : ys.length ≤ 8796093022208) :
    Calls Tryz.prog 130 #[v, v'] w (RNat2 w (ws (val xs / val ys)) (ws (val xs % val ys))) := by
  have hvx : Hid (0 ≤ val xs) := val_nonneg h.words
  have HX0 := Lib.hid h; have HY0 := Lib.hid h'
  have hbs := blen_small h'.words h'.len
  clear h h'
  go_enter Tryz.func130, Tryz.ntmps130
  go_wp2_with fail
  refine (len3_calls HX0.out).mono ?_
  rintro e w1 ⟨rfl, hb1⟩
  have HB1 := Lib.hid hb1
  clear hb1
  go_wp2_with fail
  refine (len3_calls (HY0.out.below HB1.out)).mono ?_
  rintro e w2 ⟨rfl, hb2⟩
  have HB2 : Hid (Below w.heap.size w w2) := below_then HB1.out hb2
  clear hb2 HB1
  have HX1 : Hid (NatAt B w2 v xs) := HX0.out.below HB2.out
  have HY1 : Hid (NatAt B' w2 v' ys) := HY0.out.below HB2.out
  by_cases hlt : blen (val xs) < blen (val ys)
  · have hq : Hid (val xs / val ys = 0 ∧ val xs % val ys = val xs) := divstep_pos (by
      have a := blen_lt (val xs)
      have b := blen_ge hb
      have c : (2 : Int) ^ blen (val xs) ≤ 2 ^ (blen (val ys) - 1) := two_pow_le (by omega)
      omega) hvx.out
    go_wp2_with fail
    refine (norm_calls HX1.out).mono ?_
    rintro e w3 ⟨v1, rfl, hn, hb3⟩
    have HN := Lib.hid hn; have HB := Lib.hid (below_then HB2.out hb3)
    clear hn hb3
    go_wp2
    go_ret2
    rw [hq.out.1, hq.out.2]
    exact ⟨_, v1, rfl, by rw [ws_zero]; exact NatAt.nil _ _, HN.out.mono HB2.out.size, HB.out⟩
  · obtain ⟨n, hn⟩ : ∃ n : Nat, blen (val xs) = n + blen (val ys) := ⟨blen (val xs) - blen (val ys), by omega⟩
    have hnI : Hid ((blen (val xs) : Int) - (blen (val ys) : Int) = (n : Int)) := by show _ = _; omega
    have hst : Hid (Div3At (val xs) (val ys) (List.replicate (n / 64 + 1) 0) (val xs) (n + 1) (n / 64 + 1)) := div3At_start hvx.out hb hn
    have hn1 : n ≤ 1073741824 := by omega
    have htd : ((n : Int)).tdiv 64 = ((n / 64 : Nat) : Int) := by rw [Int.tdiv_eq_ediv_of_nonneg (by omega)]; omega
    have hmk := make_run 23 Tryz.underlying23 (n / 64 + 1) (by omega)
    rw [show ((n / 64 + 1 : Nat) : Int) = (n : Int) / 64 + 1 from by omega] at hmk
    have hlt' : ¬ ((n : Int) < 0) := by omega
    have ha : Hid (∀ rr : Int, 0 ≤ rr → rr ≤ val xs → (ws rr).length ≤ 17592186044414) := fun rr r0 r1 => by have := ws_len_blen r0; have := blen_mono r1; omega
    have hd : Hid (∀ k : Nat, k ≤ n → (ws (val ys * 2 ^ k)).length ≤ 17592186044414) := fun k hk => by
      have := ws_len_blen (Int.mul_nonneg (show 0 ≤ val ys by omega) (show (0 : Int) ≤ 2 ^ k by have := two_pow_pos k; omega))
      rw [blen_mul_pow hb] at this; omega
    have hab : Hid (0 < val ys) := hb
    clear hlt htd
    go_wp2_with (rw [hnI.out])
    generalize hwm : w2.alloc (Obj.cells (cellsOf (List.replicate (n / 64 + 1) 0)) 63) = wm
    have hrow0 : Hid (RowAt wm w2.heap.size (List.replicate (n / 64 + 1) 0)) := by show RowAt _ _ _; rw [← hwm]; exact RowAt.made _ _
    have hb0 : Hid (Below w2.heap.size w2 wm) := by show Below _ _ _; rw [← hwm]; exact below_also _ _
    have hG0 : Hid (w2.heap.size + 1 = wm.heap.size) := by show _ = _; rw [← hwm]; simp
    have HX2 : Hid (NatAt B wm v xs) := HX1.out.below hb0.out
    have HY2 : Hid (NatAt B' wm v' ys) := HY1.out.below hb0.out
    clear hwm hmk hb hvx HX0 HY0 HX1 HY1
    refine (norm_calls HX2.out).mono ?_
    rintro e w3 ⟨v1, rfl, hn1', hb3⟩
    have HB3 := Lib.hid hb3; have HN1 := Lib.hid hn1'
    clear hb3 hn1'
    go_wp2_with fail
    refine (shl3_calls (n : Int) (HY2.out.below HB3.out) (by omega) (by omega) (by omega)).mono ?_
    rintro e w4 ⟨v2, rfl, hn2, hb4⟩
    have HB4 : Hid (Below wm.heap.size wm w4) := below_then HB3.out hb4
    have HN2 : Hid (NatAt wm.heap.size w4 v1 (ws (val xs))) := HN1.out.below hb4
    have HN3 : Hid (NatAt wm.heap.size w4 v2 (ws (val ys * 2 ^ n))) := by have := hn2.mono HB3.out.size; rwa [Int.toNat_natCast] at this
    have hrow4 : Hid (RowAt w4 w2.heap.size (List.replicate (n / 64 + 1) 0)) := hrow0.out.below HB4.out
    have hB4 : Hid (Below w2.heap.size w2 w4) := below_then hb0.out HB4.out
    have hG4 : Hid (w2.heap.size < w4.heap.size) := by show _ < _; have := hG0.out; have := HB4.out.size; omega
    rw [← hG0.out] at HN2 HN3
    clear hb4 hn2 HB3 HN1 hb0 hrow0 HX2 HY2 hbs hl hl'
    have hGw : Hid (w.heap.size ≤ w2.heap.size) := HB2.out.size
    generalize w2.heap.size = G at *
    go_wp2
    go_loopw [8, 9, 10] (fun r d i wr => ∃ (k : Nat) (qs : List Int) (rr dd : Int), k ≤ n + 1 ∧ i = .int .i64 ((k : Int) - 1) ∧ NatAt (G + 1) wr r (ws rr) ∧ NatAt (G + 1) wr d (ws dd) ∧ G < wr.heap.size ∧ RowAt wr G qs ∧ Below G w2 wr ∧ Hid (Div3At (val xs) (val ys) qs rr k (n / 64 + 1) ∧ (0 < k → dd = val ys * 2 ^ (k - 1)))) (fun _ _ i _ => (intOf i + 1).toNat)
    case atStart =>
      exact ⟨n + 1, _, val xs, val ys * 2 ^ n, Nat.le_refl _, by go_num, HN2.out, HN3.out, hG4.out, hrow4.out, hB4.out, hst.out, fun _ => rfl⟩
    case round =>
      obtain ⟨k, qs, rr, dd, hk, rfl, hr, hdv, hG, hrow, hbel, hinv⟩ := hrel
      by_cases h0 : 0 < k
      · obtain ⟨i, rfl⟩ : ∃ i, k = i + 1 := ⟨k - 1, by omega⟩
        have e0 : ((i + 1 : Nat) : Int) - 1 = (i : Int) := by omega
        rw [e0]
        clear e0
        have hD := hinv.out.1
        have hdd := hinv.out.2 (by omega)
        rw [Nat.add_sub_cancel] at hdd
        have hdd2 : Hid (dd = val ys * 2 ^ i) := hdd
        have hd0 : 0 ≤ dd := by rw [hdd]; exact Int.mul_nonneg (by have := hab.out; omega) (by have := two_pow_pos i; omega)
        have hvr : Hid (val (ws rr) = rr) := val_ws hD.r0
        have hvd : Hid (val (ws dd) = dd) := val_ws hd0
        have hra : rr ≤ val xs := by
          have := Int.mul_nonneg (val_nonneg hD.wq) (show 0 ≤ val ys by have := hab.out; omega)
          have := hD.eq; omega
        have lr : Hid ((ws rr).length ≤ 17592186044414) := ha.out rr hD.r0 hra
        have ld : Hid ((ws dd).length ≤ 17592186044414) := by show _ ≤ _; rw [hdd]; exact hd.out i (by omega)
        have hR := Lib.hid hr; have hDv := Lib.hid hdv; have hRow := Lib.hid hrow; have hBel := Lib.hid hbel
        clear hr hdv hrow hbel
        go_wp2_with fail
        refine (cmp3_calls hR.out hDv.out).mono ?_
        rintro e w' ⟨rfl, rfl⟩
        rw [hvr.out, hvd.out]
        by_cases hle : dd ≤ rr
        · have hc : Hid (0 ≤ cmpI rr dd) := by show _ ≤ _; unfold cmpI; split <;> (try split) <;> omega
          have hst2 : Hid (Div3At (val xs) (val ys) (qs.set (i / 64) (nth qs (i / 64) + 2 ^ (i % 64))) (rr - dd) i (n / 64 + 1)) := by
            have := hD.yes (q := i / 64) (r := i % 64) (by omega) (by omega) (by omega) (by rw [← hdd]; exact hle)
            rwa [← hdd] at this
          have hw : Hid (nth qs (i / 64) + 2 ^ (i % 64) < 18446744073709551616) := by
            obtain ⟨t, ht⟩ := hD.top
            exact div3_word hD.wq (by omega) (show i = 64 * (i / 64) + i % 64 by omega) ht
          have hwq := hD.wq.nth (i / 64)
          have hlen := hD.len
          have hc' := hc.out
          clear hD hdd hd0 hinv
          go_wp2_with fail
          refine (sub3_calls hR.out hDv.out lr.out ld.out (by rw [hvr.out, hvd.out]; exact hle)).mono ?_
          rintro e w5 ⟨v5, rfl, hn5, hb5⟩
          rw [hvr.out, hvd.out] at hn5
          have HN5 := Lib.hid hn5; have HB5 := Lib.hid hb5
          clear hn5 hb5
          have htd : ((i : Int)).tdiv 64 = ((i / 64 : Nat) : Int) := by rw [Int.tdiv_eq_ediv_of_nonneg (by omega)]; omega
          have htm : ((i : Int)).tmod 64 = ((i % 64 : Nat) : Int) := by rw [Int.tmod_eq_emod_of_nonneg (by omega)]; omega
          have hrow5 := hRow.out.below HB5.out
          have hout : w5.cell? ⟨G, i / 64, none⟩ = some (.int .u64 (nth qs (i / 64))) := hrow5.cell (by omega)
          have hfr : w5.frozen? ⟨G, i / 64, none⟩ = false := hrow5.frozen _
          have hp0 := two_pow_pos (i % 64)
          have e1 : IntKind.u64.wrap (2 ^ (i % 64)) = 2 ^ (i % 64) := by rw [wrap_lo]; exact Int.emod_eq_of_lt (by omega) (by have := hw.out; have := hwq.1; omega)
          have e2 : IntKind.u64.wrap (nth qs (i / 64) + 2 ^ (i % 64)) = nth qs (i / 64) + 2 ^ (i % 64) := by rw [wrap_lo]; exact Int.emod_eq_of_lt (by have := hwq.1; omega) (by have := hw.out; omega)
          go_wp2_with fail
          have hb6 : Hid (Below wr.heap.size wr w5) := HB5
          have hnew : Hid (RowAt (w5.setCell ⟨G, i / 64, none⟩ (.int .u64 (nth qs (i / 64) + 2 ^ (i % 64)))) G (qs.set (i / 64) (nth qs (i / 64) + 2 ^ (i % 64)))) := hrow5.set _ _
          have hbel5 : Hid (Below G w2 (w5.setCell ⟨G, i / 64, none⟩ (.int .u64 (nth qs (i / 64) + 2 ^ (i % 64))))) := (hBel.out.trans (HB5.out.mono (by omega))).setCell (Nat.le_refl _) _
          have hR5 : Hid (NatAt (G + 1) (w5.setCell ⟨G, i / 64, none⟩ (.int .u64 (nth qs (i / 64) + 2 ^ (i % 64)))) v5 (ws (rr - dd))) := nat_set_row (HN5.out.mono (by omega)) (by omega) _
          have hD5 : Hid (NatAt (G + 1) (w5.setCell ⟨G, i / 64, none⟩ (.int .u64 (nth qs (i / 64) + 2 ^ (i % 64)))) u9 (ws dd)) := nat_set_row (hDv.out.below HB5.out) (by omega) _
          have hG5 : G < (w5.setCell ⟨G, i / 64, none⟩ (.int .u64 (nth qs (i / 64) + 2 ^ (i % 64)))).heap.size := by have := HB5.out.size; simp; omega
          generalize w5.setCell ⟨G, i / 64, none⟩ (.int .u64 (nth qs (i / 64) + 2 ^ (i % 64))) = w6 at *
          clear hrow5 hout hfr e1 e2 HN5 HB5 hb6 hR hRow hBel
          refine (shr3_calls 1 hD5.out (by omega) (by omega)).mono ?_
          rintro e w7 ⟨v7, rfl, hn7, hb7⟩
          have HR7 : Hid (NatAt (G + 1) w7 v5 (ws (rr - dd))) := hR5.out.below hb7
          have HD7 : Hid (NatAt (G + 1) w7 v7 (ws (val (ws dd) / 2 ^ 1))) := hn7.mono (by omega)
          have HW7 : Hid (RowAt w7 G (qs.set (i / 64) (nth qs (i / 64) + 2 ^ (i % 64)))) := hnew.out.below hb7
          have HB7 : Hid (Below G w2 w7) := hbel5.out.trans (hb7.mono (by omega))
          have HG7 : Hid (G < w7.heap.size) := by show _ < _; have := hb7.size; omega
          clear hn7 hb7 hR5 hD5 hnew hbel5 hG5 htd htm hwq hlen hc' hp0
          rw [hvd.out] at HD7
          go_wp2
          go_roundw
          case rel => exact ⟨i, _, _, _, by omega, by go_num, HR7.out, HD7.out, HG7.out, HW7.out, HB7.out, hst2.out, fun hi => by
            obtain ⟨j, rfl⟩ : ∃ j, i = j + 1 := ⟨i - 1, by omega⟩
            rw [hdd2.out, half_step, Nat.add_sub_cancel]⟩
          case measure => simp [intOf]
        · have hc : Hid (cmpI rr dd < 0) := by show _ < _; unfold cmpI; split <;> (try split) <;> omega
          have hst2 : Hid (Div3At (val xs) (val ys) qs rr i (n / 64 + 1)) := hD.no (by rw [← hdd]; omega)
          have hc' := hc.out
          clear hD hdd hd0 hinv
          go_wp2_with fail
          refine (shr3_calls 1 hDv.out (by omega) (by omega)).mono ?_
          rintro e w7 ⟨v7, rfl, hn7, hb7⟩
          have HR7 : Hid (NatAt (G + 1) w7 u8 (ws rr)) := hR.out.below hb7
          have HD7 : Hid (NatAt (G + 1) w7 v7 (ws (val (ws dd) / 2 ^ 1))) := hn7.mono (by omega)
          have HW7 : Hid (RowAt w7 G qs) := hRow.out.below hb7
          have HB7 : Hid (Below G w2 w7) := hBel.out.trans (hb7.mono (by omega))
          have HG7 : Hid (G < w7.heap.size) := by show _ < _; have := hb7.size; omega
          clear hn7 hb7 hR hDv hRow hBel hG hc'
          rw [hvd.out] at HD7
          go_wp2
          go_roundw
          case rel => exact ⟨i, _, _, _, by omega, by go_num, HR7.out, HD7.out, HG7.out, HW7.out, HB7.out, hst2.out, fun hi => by
            obtain ⟨j, rfl⟩ : ∃ j, i = j + 1 := ⟨i - 1, by omega⟩
            rw [hdd2.out, half_step, Nat.add_sub_cancel]⟩
          case measure => simp [intOf]
      · obtain rfl : k = 0 := by omega
        have hD := hinv.out.1
        obtain ⟨f1, f2⟩ := hD.fin hab.out
        have hq : Hid (val qs = val xs / val ys ∧ rr = val xs % val ys) := ⟨f1, f2⟩
        have hn8 : Hid (NatAt G wr (.slice (some ⟨G, 0, none⟩) (n / 64 + 1) (n / 64 + 1)) qs) := hrow.nat (Nat.le_refl _) hD.wq _ hD.len (by rw [hD.len]; omega)
        have HR8 := Lib.hid hr; have HB8 := Lib.hid hbel
        clear hD f1 f2 hr hdv hrow hbel hinv
        go_wp2_with fail
        refine (norm_calls hn8.out).mono ?_
        rintro e w9 ⟨v9, rfl, hn9, hb9⟩
        have HN9 := Lib.hid hn9; have HB9 := Lib.hid hb9
        clear hn9 hb9
        go_wp2
        go_ret2
        have hGw := hGw.out
        have hfin : Below w.heap.size w w9 := (HB2.out.trans (HB8.out.mono (by omega))).trans (HB9.out.mono (by omega))
        refine ⟨v9, u8, rfl, ?_, ?_, hfin⟩
        · rw [← hq.out.1]; exact HN9.out.mono (by omega)
        · rw [← hq.out.2]; exact (HR8.out.below HB9.out).mono (by omega)
end Go.Proofs.YtdnbckfhfhfkoaaGreatDoor

namespace Go.Proofs.YtdnbckfhfhfkoaaGreatDoor
open Go.RowKit
def leftM (m k : Int) : Int := if 0 ≤ k then m * 2 ^ k.toNat else m / 2 ^ (-k).toNat
def leftB (m k : Int) : Bool := if 0 ≤ k then false else lostB m (-k).toNat
theorem leftM_rv (m k : Int) : ∃ f : Rat, 0 ≤ f ∧ f < 1 ∧ (m : Rat) * p2 k = (leftM m k : Rat) + f ∧ (leftB m k = false → f = 0) ∧ (leftB m k = true → 0 < f) := by
  unfold leftM leftB
  split
  · rename_i h
    exact ⟨0, by grind, by grind, by rw [Rat.intCast_mul, ← p2_toNat h]; grind, fun _ => rfl, fun h => by cases h⟩
  · rename_i h
    have e := amt_split m (-k).toNat
    rw [show -(((-k).toNat : Nat) : Int) = k by omega] at e
    have p := two_pow_pos (-k).toNat
    have a0 := Int.emod_nonneg m (show (2 : Int) ^ (-k).toNat ≠ 0 by omega)
    have a1 := Int.emod_lt_of_pos m p
    have pk := p2_pos k
    have b1 := (mul_p2_lt k).2 (cast_lt.2 a1)
    have e2 : ((2 ^ (-k).toNat : Int) : Rat) * p2 k = 1 := by
      rw [← p2_toNat (show 0 ≤ -k by omega), ← p2_add, Int.add_left_neg, p2_zero]
    rw [e2] at b1
    have b0 := (mul_p2_le k).2 (cast_le.2 a0)
    have e0 : ((0 : Int) : Rat) = 0 := rfl
    rw [e0, Rat.zero_mul] at b0
    refine ⟨_, b0, b1, e, fun hl => ?_, fun hl => ?_⟩
    · have : m % 2 ^ (-k).toNat = 0 := by
        refine Classical.byContradiction fun hne => ?_
        rw [(lost_iff m (-k).toNat).2 hne] at hl; cases hl
      rw [this, e0, Rat.zero_mul]
    · have := (lost_iff m (-k).toNat).1 hl
      have c := (mul_p2_lt k).2 (cast_lt.2 (show 0 < m % 2 ^ (-k).toNat by omega))
      rwa [e0, Rat.zero_mul] at c
def overRK (x y : Dx) (p : Int) : Int := p + 2 + blen y.m - blen x.m
def overRX (x y : Dx) (p : Int) (up : Bool) : Dx :=
  if x.m = 0 then ⟨false, [], 0⟩ else
  cutD (mkD (!(x.neg == y.neg)) (stickyM (leftM x.m (overRK x y p) / y.m) (decide (leftM x.m (overRK x y p) % y.m ≠ 0) || leftB x.m (overRK x y p))) (x.e - y.e - overRK x y p - 1)) p up
def overR (a b : Dx) (p : Int) (up : Bool) : Dx := overRX (oneD a) (oneD b) p up
theorem leftM_blen {m k : Int} (hm : 0 < m) (_ : 0 ≤ (blen m : Int) + k) (hp : 0 < (blen m : Int) + k) : 0 < leftM m k ∧ (blen (leftM m k) : Int) = blen m + k := by
  unfold leftM
  split
  · rename_i hk
    have pk := two_pow_pos k.toNat
    exact ⟨Int.mul_pos hm pk, by rw [blen_mul_pow hm]; omega⟩
  · rename_i hk
    have pk := two_pow_pos (-k).toNat
    have g1 := blen_ge hm
    have g2 := blen_lt m
    obtain ⟨s, hs⟩ : ∃ s : Nat, blen m = s + 1 + (-k).toNat := ⟨blen m - 1 - (-k).toNat, by omega⟩
    have l1 : 2 ^ s ≤ m / 2 ^ (-k).toNat := by
      rw [Int.le_ediv_iff_mul_le pk, ← Int.pow_add, show s + (-k).toNat = blen m - 1 by omega]; exact g1
    have l2 : m / 2 ^ (-k).toNat < 2 ^ (s + 1) := by
      refine Int.ediv_lt_of_lt_mul pk ?_
      rw [← Int.pow_add, ← hs]; exact g2
    have := blen_eq l1 l2
    have ps := two_pow_pos s
    exact ⟨by omega, by omega⟩
theorem overR_best {a b : Dx} {p : Int} {q : Rat} (ha : 0 ≤ a.m) (hb : 0 ≤ b.m) (hb0 : b.m ≠ 0) (hp : 1 ≤ p) (hq : q * b.rv = a.rv) : Dn p q (overR a b p false).rv ∧ Up p q (overR a b p true).rv := by
  unfold overR overRX
  have m1 := oneD_p (d := a)
  have m2 := oneD_p (d := b)
  have m20 : (oneD b).m ≠ 0 := fun h => hb0 ((mkD_m_zero hb).1 h)
  rw [← rv_one ha, ← rv_one hb] at hq
  generalize oneD a = x at *
  generalize oneD b = y at *
  have ypos : 0 < y.m := by omega
  by_cases hx0 : x.m = 0
  · rw [if_pos hx0, if_pos hx0]
    have e0 : x.rv = 0 := rv_zero hx0
    have y0 : y.rv ≠ 0 := by
      rw [sm_amt]
      have := Rat.mul_pos (cast_ne ypos) (p2_pos y.e)
      cases y.neg <;> simp <;> grind
    have q0 : q = 0 := by
      rw [e0] at hq
      rcases Rat.mul_eq_zero.1 hq with h | h
      · exact h
      · exact absurd h y0
    rw [q0, show (⟨false, [], 0⟩ : Dx).rv = 0 from rv_zero rfl]
    exact ⟨.self (.zero p), .self (.zero p)⟩
  · rw [if_neg hx0, if_neg hx0]
    have xpos : 0 < x.m := by omega
    obtain ⟨k, hk⟩ : ∃ k : Int, overRK x y p = k := ⟨_, rfl⟩
    have hk' : k = p + 2 + (blen y.m : Int) - (blen x.m : Int) := hk.symm
    rw [hk]
    have by0 := blen_pos ypos
    obtain ⟨hM, hMb⟩ := leftM_blen (m := x.m) (k := k) xpos (by omega) (by omega)
    obtain ⟨f, f0, f1, hf, hf2, hf3⟩ := leftM_rv x.m k
    generalize leftM x.m k = M at *
    generalize leftB x.m k = lo at *
    have g1 := blen_ge hM
    have g2 := blen_lt y.m
    have hQ : (2 : Int) ^ (p - 1).toNat ≤ M / y.m := by
      rw [Int.le_ediv_iff_mul_le ypos]
      have bx := blen_pos xpos
      have e1 : (2 : Int) ^ (blen M - 1) = 2 ^ (blen M - 1 - blen y.m) * 2 ^ blen y.m := by rw [← Int.pow_add]; congr 1; omega
      have e2 := two_pow_le (j := (p - 1).toNat) (k := blen M - 1 - blen y.m) (by omega)
      have e3 : (2 : Int) ^ (p - 1).toNat * y.m ≤ 2 ^ (blen M - 1 - blen y.m) * 2 ^ blen y.m := by
        have := two_pow_pos (p - 1).toNat
        exact Int.mul_le_mul e2 (Int.le_of_lt g2) m2 (by have := two_pow_pos (blen M - 1 - blen y.m); omega)
      omega
    have d1 := Int.mul_ediv_add_emod M y.m
    have d2 := Int.emod_nonneg M m20
    have d3 := Int.emod_lt_of_pos M ypos
    generalize M / y.m = Q at *
    -- the quotient of the amounts
    obtain ⟨q', hq'⟩ : ∃ q' : Rat, q' = (if (!(x.neg == y.neg)) then -1 else 1) * q := ⟨_, rfl⟩
    have hqa : q' * (y.m : Rat) = ((M : Rat) + f) * p2 (x.e - y.e - k) := by
      rw [sm_amt, sm_amt x] at hq
      have e1 : p2 x.e = p2 (x.e - y.e - k) * (p2 y.e * p2 k) := by rw [← p2_add, ← p2_add]; congr 1; omega
      have h1 : q' * ((y.m : Rat) * p2 y.e) = (x.m : Rat) * p2 x.e := by
        rw [hq']
        cases hx : x.neg <;> cases hy : y.neg <;> rw [hx, hy] at hq <;> simp at hq ⊢ <;> grind
      rw [e1] at h1
      have p0 := p2_pos y.e
      have h2 : (q' * (y.m : Rat)) * p2 y.e = (((M : Rat) + f) * p2 (x.e - y.e - k)) * p2 y.e := by rw [← hf]; grind
      have h3 : q' * (y.m : Rat) ≤ ((M : Rat) + f) * p2 (x.e - y.e - k) := by rw [← mul_p2_le y.e]; grind
      have h4 : ((M : Rat) + f) * p2 (x.e - y.e - k) ≤ q' * (y.m : Rat) := by rw [← mul_p2_le y.e]; grind
      exact Rat.le_antisymm h3 h4
    have y0 := cast_ne ypos
    have cmp : ∀ c : Int, (c : Rat) * p2 (x.e - y.e - k) * (y.m : Rat) = ((y.m * c : Int) : Rat) * p2 (x.e - y.e - k) := fun c => by rw [Rat.intCast_mul]; grind
    have key := sticky_best (p := p) (E := x.e - y.e - k - 1) (Q := Q) (q := q') (b := decide (M % y.m ≠ 0) || lo) hp hQ (fun hb => by
        rw [Bool.or_eq_false_iff] at hb
        have hr : M % y.m = 0 := by simpa using hb.1
        have hf0 := hf2 hb.2
        rw [hr, Int.add_zero] at d1
        rw [hf0, Rat.add_zero] at hqa
        rw [show x.e - y.e - k - 1 + 1 = x.e - y.e - k by omega]
        have e := cmp Q
        rw [d1, ← hqa] at e
        have h3 : q' ≤ (Q : Rat) * p2 (x.e - y.e - k) := by rw [← Rat.not_lt, ← Rat.mul_lt_mul_right y0]; grind
        have h4 : (Q : Rat) * p2 (x.e - y.e - k) ≤ q' := by rw [← Rat.not_lt, ← Rat.mul_lt_mul_right y0]; grind
        exact Rat.le_antisymm h3 h4) (fun hb => by
        rw [show x.e - y.e - k - 1 + 1 = x.e - y.e - k by omega]
        have l1 : ((y.m * Q : Int) : Rat) < (M : Rat) + f := by
          rcases Bool.or_eq_true_iff.1 hb with h | h
          · have hr : M % y.m ≠ 0 := by simpa using h
            have := cast_lt.2 (show y.m * Q < M by omega); grind
          · have h1 := hf3 h
            have := cast_le.2 (show y.m * Q ≤ M by omega); grind
        have l2 : (M : Rat) + f < ((y.m * (Q + 1) : Int) : Rat) := by
          have := cast_le.2 (show M + 1 ≤ y.m * (Q + 1) by rw [Int.mul_add, Int.mul_one]; omega)
          rw [Rat.intCast_add] at this
          have e1 : ((1 : Int) : Rat) = 1 := rfl
          rw [e1] at this; grind
        constructor
        · rw [← Rat.mul_lt_mul_right y0, cmp, hqa, mul_p2_lt]; exact l1
        · rw [← Rat.mul_lt_mul_right y0, cmp, hqa, mul_p2_lt]; exact l2)
    have hS := (sticky_blen (q := Q) (b := decide (M % y.m ≠ 0) || lo) (by have := two_pow_pos (p - 1).toNat; omega)).1
    have best := cutD_best (d := mkD (!(x.neg == y.neg)) (stickyM Q (decide (M % y.m ≠ 0) || lo)) (x.e - y.e - k - 1)) mkD_p hp
    rw [rv_mkD hS] at best
    cases hs : (!(x.neg == y.neg)) with
    | false =>
      rw [hs] at best hq'
      simp only [Bool.false_eq_true, if_false] at best hq'
      have : q' = q := by grind
      rw [this] at key
      exact ⟨key.1 _ best.1, key.2 _ best.2⟩
    | true =>
      rw [hs] at best hq'
      simp only [if_true, Rat.intCast_neg, Rat.neg_mul] at best hq'
      have e1 : q = -q' := by grind
      have b1 := best.1.neg
      have b2 := best.2.neg
      rw [Rat.neg_neg] at b1 b2
      have c1 := (key.2 _ b1).neg
      have c2 := (key.1 _ b2).neg
      rw [Rat.neg_neg] at c1 c2
      rw [e1]
      exact ⟨c1, c2⟩
theorem zeroD_f : OneF ⟨false, [], 0⟩ := ⟨false, 0, 0, Int.le_refl _, (mkD_zero _ _).symm⟩
theorem overR_f {a b : Dx} {p : Int} {up : Bool} : OneF (overR a b p up) := by
  unfold overR overRX; split
  · exact zeroD_f
  · exact cutD_f mkD_p
theorem overD_f {a b : Dx} {p : Int} {up : Bool} : OneF (overD a b p up) := by
  unfold overD overX; split
  · exact zeroD_f
  · exact cutD_f mkD_p
theorem rv_ne0 {b : Dx} (hb : 0 ≤ b.m) (hb0 : b.m ≠ 0) : b.rv ≠ 0 := fun h => hb0 (by
  have := (zeroB_rv hb).2 h
  simpa [Dx.zeroB] using this)
theorem quo_ex {a b : Dx} (hb : 0 ≤ b.m) (hb0 : b.m ≠ 0) : ∃ q : Rat, q * b.rv = a.rv := ⟨a.rv / b.rv, Rat.div_mul_cancel (rv_ne0 hb hb0)⟩
theorem overR_eq {a b : Dx} {p : Int} {up : Bool} (ha : 0 ≤ a.m) (hb : 0 ≤ b.m) (hb0 : b.m ≠ 0) (hp : 1 ≤ p) : overR a b p up = overD a b p up := by
  obtain ⟨q, hq⟩ := quo_ex (a := a) hb hb0
  have h1 := overR_best ha hb hb0 hp hq
  have h2 := over_best ha hb hb0 hp hq
  refine overR_f.ext overD_f ?_
  cases up
  · exact h1.1.uniq h2.1
  · exact h1.2.uniq h2.2
end Go.Proofs.YtdnbckfhfhfkoaaGreatDoor

namespace Go.Proofs.YtdnbckfhfhfkoaaGreatDoor
open Go.RowKit
def nDiv : Spec := specK [.w, .w] fun (xs : List Int) (ys : List Int) => (some (0 < val ys ∧ blen (val xs) ≤ 1073741824 ∧ ys.length ≤ 8796093022208), .tup [.one (.words true (ws (val xs / val ys))), .one (.words true (ws (val xs % val ys)))])
theorem nDiv_ok : SpecOk Tryz.prog 130 nDiv :=
  handK_ok Tryz.func130 rfl (by decide) fun _ _ hC hX _ => fun _ _ _ h _ _ _ h' hp => nat2_back hC hX (div3_calls (rep_natAt h) (rep_natAt h') hp.1 hp.2.1 hp.2.2)
def fWhole : Spec := specK [.d] fun (d : Dx) => (some (d.Sm 68719476736), dT (floorD d))
theorem fWhole_vc (d : Dx) (Q : Tv → Prop) : execF ⟨tys2, sRef4⟩ (fun _ => none) 0 Tryz.f97 [.agg (dyL false d)] Q = (eB (4611686018427387904 : Int) d ∧ br (leI (0 : Int) (oneD d).e) (Q (Tv.sv (Sv.agg (dyL true (oneD d))))) (inR ((0 : Int) - (oneD d).e) ∧ ((0 : Int) ≤ (0 : Int) - (oneD d).e ∧ (0 : Int) - (oneD d).e ≤ (9007199254740992 : Int)) ∧ br (lostB (val (oneD d).xs) (Int.toNat ((0 : Int) - (oneD d).e))) (br (oneD d).neg (Word (1 : Int) ∧ (List.length (ws (val (oneD d).xs / (2 : Int) ^ Int.toNat ((0 : Int) - (oneD d).e))) ≤ (17592186044414 : Nat) ∧ List.length (ws (1 : Int)) ≤ (17592186044414 : Nat)) ∧ ((-4611686018427387904 : Int) ≤ (0 : Int) ∧ (0 : Int) ≤ (4611686018427387904 : Int)) ∧ Q (Tv.sv (Sv.agg (dyL true (mkD (oneD d).neg (val (ws (val (ws (val (oneD d).xs / (2 : Int) ^ Int.toNat ((0 : Int) - (oneD d).e))) + val (ws (1 : Int))))) (0 : Int)))))) (((-4611686018427387904 : Int) ≤ (0 : Int) ∧ (0 : Int) ≤ (4611686018427387904 : Int)) ∧ Q (Tv.sv (Sv.agg (dyL true (mkD (oneD d).neg (val (ws (val (oneD d).xs / (2 : Int) ^ Int.toNat ((0 : Int) - (oneD d).e)))) (0 : Int))))))) (((-4611686018427387904 : Int) ≤ (0 : Int) ∧ (0 : Int) ≤ (4611686018427387904 : Int)) ∧ Q (Tv.sv (Sv.agg (dyL true (mkD (oneD d).neg (val (ws (val (oneD d).xs / (2 : Int) ^ Int.toNat ((0 : Int) - (oneD d).e)))) (0 : Int)))))))) := by kernel_rfl
theorem fWhole_ok : SpecOk Tryz.prog 97 fWhole :=
  specK_ok (envOk tys2_ok sRef4_ok) mixed Tryz.func97 rfl (by decide) (by decide) fun (d : Dx) hd hp => ⟨fun _ => none, 0, by
    obtain ⟨s1, s2, s3⟩ : d.Sm 68719476736 := hp
    have m1 := one_m0 (Dx.Wf.m0 hd)
    obtain ⟨z1, z2, z3⟩ := one_sm (Dx.Wf.m0 hd) ⟨s1, s2, s3⟩
    have p0 := two_pow_pos (-(oneD d).e).toNat
    have hq : 0 ≤ (oneD d).m / 2 ^ (-(oneD d).e).toNat := Int.ediv_nonneg m1 (by omega)
    have hql : (ws ((oneD d).m / 2 ^ (-(oneD d).e).toNat)).length ≤ 17592186044414 := ws_blen hq (by
      have := blen_mono (m := (oneD d).m / 2 ^ (-(oneD d).e).toNat) (n := (oneD d).m) (Int.ediv_le_self _ m1); omega)
    show execF _ _ _ _ _ (fun t => t = dT (floorD d))
    refine (fWhole_vc d _).mpr ⟨⟨by omega, by omega⟩, br_intro (fun h => ?_) fun h => ?_⟩
    · rw [floorD, if_pos (leI_true.1 h)]
    · have h := leI_false.1 h
      rw [Int.zero_sub, val_ws_one]
      have ev : val (oneD d).xs = (oneD d).m := rfl
      rw [ev, val_ws hq, floorD, if_neg h]
      refine ⟨⟨by omega, by omega⟩, ⟨by omega, by omega⟩, br_intro (fun h1 => br_intro (fun h2 => ⟨word_one, ⟨hql, by simp [ws_one]⟩, ⟨by omega, by omega⟩, ?_⟩) fun h2 => ⟨⟨by omega, by omega⟩, ?_⟩) fun h1 => ⟨⟨by omega, by omega⟩, ?_⟩⟩
      · rw [val_ws (by omega), h1, h2]; rfl
      · rw [h1, h2]; simp
      · rw [h1]; simp⟩
def gLeft : Spec := specK [.w, .i .i64] fun (xs : List Int) (k : Int) => (some (k ≤ 1099511627776 ∧ -9007199254740992 ≤ k ∧ xs.length ≤ 8796093022208), .tup [.one (.words true (ws (leftM (val xs) k))), .one (.bool (leftB (val xs) k))])
theorem gLeft_vc (xs : List Int) (k : Int) (Q : Tv → Prop) : execF ⟨tys2, sRef4⟩ (fun _ => none) 0 Tryz.f129 [.one (.words false xs), .one (.int .i64 k)] Q = (br (leI (0 : Int) k) (((0 : Int) ≤ k ∧ k ≤ (1099511627776 : Int) ∧ List.length xs ≤ (8796093022208 : Nat)) ∧ Q (Tv.tup [Sv.one (At.words true (ws (val xs * (2 : Int) ^ Int.toNat k))), Sv.one (At.bool false)])) (inR ((0 : Int) - k) ∧ ((0 : Int) ≤ (0 : Int) - k ∧ (0 : Int) - k ≤ (9007199254740992 : Int)) ∧ Q (Tv.tup [Sv.one (At.words true (ws (val xs / (2 : Int) ^ Int.toNat ((0 : Int) - k)))), Sv.one (At.bool (lostB (val xs) (Int.toNat ((0 : Int) - k))))]))) := by kernel_rfl
theorem gLeft_ok : SpecOk Tryz.prog 129 gLeft :=
  specK_ok (envOk tys2_ok sRef4_ok) mixed Tryz.func129 rfl (by decide) (by decide) fun (xs : List Int) _ (k : Int) _ hp => ⟨fun _ => none, 0, by
    obtain ⟨k1, k0, l⟩ : k ≤ 1099511627776 ∧ -9007199254740992 ≤ k ∧ xs.length ≤ 8796093022208 := hp
    show execF _ _ _ _ _ (fun t => t = .tup [.one (.words true (ws (leftM (val xs) k))), .one (.bool (leftB (val xs) k))])
    refine (gLeft_vc xs k _).mpr (br_intro (fun h => ⟨⟨leI_true.1 h, by omega, l⟩, ?_⟩) fun h => ⟨⟨by omega, by omega⟩, ⟨by have := leI_false.1 h; omega, by omega⟩, ?_⟩)
    · rw [leftM, leftB, if_pos (leI_true.1 h), if_pos (leI_true.1 h)]
    · rw [leftM, leftB, if_neg (leI_false.1 h), if_neg (leI_false.1 h), Int.zero_sub]⟩
def sOv : List (FuncId × Spec) := [(130, nDiv), (129, gLeft)] ++ sRef4
theorem sOv_ok : SpecsOk Tryz.prog sOv := ⟨nDiv_ok, gLeft_ok, sRef4_ok⟩
theorem gOver_vc (a b : Dx) (p : Int) (up : Bool) (Q : Tv → Prop) : execF ⟨tys2, sOv⟩ (fun _ => none) 0 Tryz.f98 [.agg (dyL false a), .agg (dyL false b), .one (.int .i64 p), .one (.bool up)] Q = (eB (4611686018427387904 : Int) a ∧ eB (4611686018427387904 : Int) b ∧ true = true ∧ br (eqI (↑(List.length (oneD a).xs) : Int) (0 : Int)) (Q (Tv.sv (Sv.agg [At.bool false, At.words true [], At.int .i64 0]))) (inR (p + (2 : Int)) ∧ inR (p + (2 : Int) + (↑(blen (val (oneD b).xs)) : Int)) ∧ inR (p + (2 : Int) + (↑(blen (val (oneD b).xs)) : Int) - (↑(blen (val (oneD a).xs)) : Int)) ∧ true = true ∧ (p + (2 : Int) + (↑(blen (val (oneD b).xs)) : Int) - (↑(blen (val (oneD a).xs)) : Int) ≤ (1099511627776 : Int) ∧ (-9007199254740992 : Int) ≤ p + (2 : Int) + (↑(blen (val (oneD b).xs)) : Int) - (↑(blen (val (oneD a).xs)) : Int) ∧ List.length (oneD a).xs ≤ (8796093022208 : Nat)) ∧ ((0 : Int) < val (oneD b).xs ∧ blen (val (ws (leftM (val (oneD a).xs) (p + (2 : Int) + (↑(blen (val (oneD b).xs)) : Int) - (↑(blen (val (oneD a).xs)) : Int))))) ≤ (1073741824 : Nat) ∧ List.length (oneD b).xs ≤ (8796093022208 : Nat)) ∧ ((0 : Int) ≤ (1 : Int) ∧ (1 : Int) ≤ (1099511627776 : Int) ∧ List.length (ws (val (ws (leftM (val (oneD a).xs) (p + (2 : Int) + (↑(blen (val (oneD b).xs)) : Int) - (↑(blen (val (oneD a).xs)) : Int)))) / val (oneD b).xs)) ≤ (8796093022208 : Nat)) ∧ br (ltI (0 : Int) (↑(List.length (ws (val (ws (leftM (val (oneD a).xs) (p + (2 : Int) + (↑(blen (val (oneD b).xs)) : Int) - (↑(blen (val (oneD a).xs)) : Int)))) % val (oneD b).xs))) : Int)) (Word (1 : Int) ∧ (List.length (ws (val (ws (val (ws (leftM (val (oneD a).xs) (p + (2 : Int) + (↑(blen (val (oneD b).xs)) : Int) - (↑(blen (val (oneD a).xs)) : Int)))) / val (oneD b).xs)) * (2 : Int) ^ (1 : Nat))) ≤ (17592186044414 : Nat) ∧ List.length (ws (1 : Int)) ≤ (17592186044414 : Nat)) ∧ inR ((oneD a).e - (oneD b).e) ∧ inR ((oneD a).e - (oneD b).e - (p + (2 : Int) + (↑(blen (val (oneD b).xs)) : Int) - (↑(blen (val (oneD a).xs)) : Int))) ∧ inR ((oneD a).e - (oneD b).e - (p + (2 : Int) + (↑(blen (val (oneD b).xs)) : Int) - (↑(blen (val (oneD a).xs)) : Int)) - (1 : Int)) ∧ ((-4611686018427387904 : Int) ≤ (oneD a).e - (oneD b).e - (p + (2 : Int) + (↑(blen (val (oneD b).xs)) : Int) - (↑(blen (val (oneD a).xs)) : Int)) - (1 : Int) ∧ (oneD a).e - (oneD b).e - (p + (2 : Int) + (↑(blen (val (oneD b).xs)) : Int) - (↑(blen (val (oneD a).xs)) : Int)) - (1 : Int) ≤ (4611686018427387904 : Int)) ∧ (Dx.Sm (34359738368 : Nat) (mkD (!(oneD a).neg == (oneD b).neg) (val (ws (val (ws (val (ws (val (ws (leftM (val (oneD a).xs) (p + (2 : Int) + (↑(blen (val (oneD b).xs)) : Int) - (↑(blen (val (oneD a).xs)) : Int)))) / val (oneD b).xs)) * (2 : Int) ^ (1 : Nat))) + val (ws (1 : Int))))) ((oneD a).e - (oneD b).e - (p + (2 : Int) + (↑(blen (val (oneD b).xs)) : Int) - (↑(blen (val (oneD a).xs)) : Int)) - (1 : Int))) ∧ (0 : Int) ≤ p ∧ p ≤ (1099511627776 : Int)) ∧ Q (Tv.sv (Sv.agg (dyL true (cutD (mkD (!(oneD a).neg == (oneD b).neg) (val (ws (val (ws (val (ws (val (ws (leftM (val (oneD a).xs) (p + (2 : Int) + (↑(blen (val (oneD b).xs)) : Int) - (↑(blen (val (oneD a).xs)) : Int)))) / val (oneD b).xs)) * (2 : Int) ^ (1 : Nat))) + val (ws (1 : Int))))) ((oneD a).e - (oneD b).e - (p + (2 : Int) + (↑(blen (val (oneD b).xs)) : Int) - (↑(blen (val (oneD a).xs)) : Int)) - (1 : Int))) p up))))) (br (leftB (val (oneD a).xs) (p + (2 : Int) + (↑(blen (val (oneD b).xs)) : Int) - (↑(blen (val (oneD a).xs)) : Int))) (Word (1 : Int) ∧ (List.length (ws (val (ws (val (ws (leftM (val (oneD a).xs) (p + (2 : Int) + (↑(blen (val (oneD b).xs)) : Int) - (↑(blen (val (oneD a).xs)) : Int)))) / val (oneD b).xs)) * (2 : Int) ^ (1 : Nat))) ≤ (17592186044414 : Nat) ∧ List.length (ws (1 : Int)) ≤ (17592186044414 : Nat)) ∧ inR ((oneD a).e - (oneD b).e) ∧ inR ((oneD a).e - (oneD b).e - (p + (2 : Int) + (↑(blen (val (oneD b).xs)) : Int) - (↑(blen (val (oneD a).xs)) : Int))) ∧ inR ((oneD a).e - (oneD b).e - (p + (2 : Int) + (↑(blen (val (oneD b).xs)) : Int) - (↑(blen (val (oneD a).xs)) : Int)) - (1 : Int)) ∧ ((-4611686018427387904 : Int) ≤ (oneD a).e - (oneD b).e - (p + (2 : Int) + (↑(blen (val (oneD b).xs)) : Int) - (↑(blen (val (oneD a).xs)) : Int)) - (1 : Int) ∧ (oneD a).e - (oneD b).e - (p + (2 : Int) + (↑(blen (val (oneD b).xs)) : Int) - (↑(blen (val (oneD a).xs)) : Int)) - (1 : Int) ≤ (4611686018427387904 : Int)) ∧ (Dx.Sm (34359738368 : Nat) (mkD (!(oneD a).neg == (oneD b).neg) (val (ws (val (ws (val (ws (val (ws (leftM (val (oneD a).xs) (p + (2 : Int) + (↑(blen (val (oneD b).xs)) : Int) - (↑(blen (val (oneD a).xs)) : Int)))) / val (oneD b).xs)) * (2 : Int) ^ (1 : Nat))) + val (ws (1 : Int))))) ((oneD a).e - (oneD b).e - (p + (2 : Int) + (↑(blen (val (oneD b).xs)) : Int) - (↑(blen (val (oneD a).xs)) : Int)) - (1 : Int))) ∧ (0 : Int) ≤ p ∧ p ≤ (1099511627776 : Int)) ∧ Q (Tv.sv (Sv.agg (dyL true (cutD (mkD (!(oneD a).neg == (oneD b).neg) (val (ws (val (ws (val (ws (val (ws (leftM (val (oneD a).xs) (p + (2 : Int) + (↑(blen (val (oneD b).xs)) : Int) - (↑(blen (val (oneD a).xs)) : Int)))) / val (oneD b).xs)) * (2 : Int) ^ (1 : Nat))) + val (ws (1 : Int))))) ((oneD a).e - (oneD b).e - (p + (2 : Int) + (↑(blen (val (oneD b).xs)) : Int) - (↑(blen (val (oneD a).xs)) : Int)) - (1 : Int))) p up))))) (inR ((oneD a).e - (oneD b).e) ∧ inR ((oneD a).e - (oneD b).e - (p + (2 : Int) + (↑(blen (val (oneD b).xs)) : Int) - (↑(blen (val (oneD a).xs)) : Int))) ∧ inR ((oneD a).e - (oneD b).e - (p + (2 : Int) + (↑(blen (val (oneD b).xs)) : Int) - (↑(blen (val (oneD a).xs)) : Int)) - (1 : Int)) ∧ ((-4611686018427387904 : Int) ≤ (oneD a).e - (oneD b).e - (p + (2 : Int) + (↑(blen (val (oneD b).xs)) : Int) - (↑(blen (val (oneD a).xs)) : Int)) - (1 : Int) ∧ (oneD a).e - (oneD b).e - (p + (2 : Int) + (↑(blen (val (oneD b).xs)) : Int) - (↑(blen (val (oneD a).xs)) : Int)) - (1 : Int) ≤ (4611686018427387904 : Int)) ∧ (Dx.Sm (34359738368 : Nat) (mkD (!(oneD a).neg == (oneD b).neg) (val (ws (val (ws (val (ws (leftM (val (oneD a).xs) (p + (2 : Int) + (↑(blen (val (oneD b).xs)) : Int) - (↑(blen (val (oneD a).xs)) : Int)))) / val (oneD b).xs)) * (2 : Int) ^ (1 : Nat)))) ((oneD a).e - (oneD b).e - (p + (2 : Int) + (↑(blen (val (oneD b).xs)) : Int) - (↑(blen (val (oneD a).xs)) : Int)) - (1 : Int))) ∧ (0 : Int) ≤ p ∧ p ≤ (1099511627776 : Int)) ∧ Q (Tv.sv (Sv.agg (dyL true (cutD (mkD (!(oneD a).neg == (oneD b).neg) (val (ws (val (ws (val (ws (leftM (val (oneD a).xs) (p + (2 : Int) + (↑(blen (val (oneD b).xs)) : Int) - (↑(blen (val (oneD a).xs)) : Int)))) / val (oneD b).xs)) * (2 : Int) ^ (1 : Nat)))) ((oneD a).e - (oneD b).e - (p + (2 : Int) + (↑(blen (val (oneD b).xs)) : Int) - (↑(blen (val (oneD a).xs)) : Int)) - (1 : Int))) p up)))))))) := by kernel_rfl
def gOver : Spec := specK [.d, .d, .i .i64, .b] fun (a : Dx) (b : Dx) (p : Int) (up : Bool) => (some (a.Sm 67108864 ∧ b.Sm 67108864 ∧ b.m ≠ 0 ∧ 1 ≤ p ∧ p ≤ 67108864), dT (overD a b p up))
theorem gOver_ok : SpecOk Tryz.prog 98 gOver :=
  specK_ok (envOk tys2_ok sOv_ok) mixed Tryz.func98 rfl (by decide) (by decide) fun (a : Dx) ha (b : Dx) hb (p : Int) _ (up : Bool) _ hp => ⟨fun _ => none, 0, by
    obtain ⟨s1, s2, hb0, p0, p1⟩ : Dx.Sm 67108864 a ∧ Dx.Sm 67108864 b ∧ Dx.m b ≠ 0 ∧ 1 ≤ p ∧ p ≤ 67108864 := hp
    have ma := Dx.Wf.m0 ha
    have mb := Dx.Wf.m0 hb
    have m1 := one_m0 ma
    have m2 := one_m0 mb
    have m2p : 0 < (oneD b).m := by have := (one_m_zero mb).1; omega
    have z1 := one_sm ma s1
    have z2 := one_sm mb s2
    have hl := one_len ma
    have f1 : OneF (oneD a) := oneD_f ma
    have f2 : OneF (oneD b) := oneD_f mb
    show execF _ _ _ _ _ (fun t => t = dT (overD a b p up))
    rw [← overR_eq ma mb hb0 p0]
    show execF _ _ _ _ _ (fun t => t = dT (overRX (oneD a) (oneD b) p up))
    refine (gOver_vc a b p up _).mpr ⟨s1.eB (by omega), s2.eB (by omega), rfl, ?_⟩
    rw [hl]
    generalize oneD a = x at *
    generalize oneD b = y at *
    refine br_intro (fun h => ?_) fun h => ?_
    · rw [overRX, if_pos (of_decide_eq_true h)]; rfl
    · have hx0 : x.m ≠ 0 := of_decide_eq_false h
      have hG : overRX x y p up = cutD (mkD (!(x.neg == y.neg)) (stickyM (leftM x.m (overRK x y p) / y.m) (decide (leftM x.m (overRK x y p) % y.m ≠ 0) || leftB x.m (overRK x y p))) (x.e - y.e - overRK x y p - 1)) p up := by rw [overRX, if_neg hx0]
      rw [hG]
      have hK : overRK x y p = p + 2 + (blen y.m : Int) - (blen x.m : Int) := rfl
      obtain ⟨s3, s4, s5⟩ := z1
      obtain ⟨s6, s7, s8⟩ := z2
      have by0 := blen_pos m2p
      obtain ⟨hM, hMb⟩ := leftM_blen (m := x.m) (k := overRK x y p) (by omega) (by omega) (by omega)
      have ex : val x.xs = x.m := rfl
      have ey : val y.xs = y.m := rfl
      have lx : x.xs.length ≤ 8796093022208 := by rw [f1.xs]; exact ws_blen m1 (by omega)
      have ly : y.xs.length ≤ 8796093022208 := by rw [f2.xs]; exact ws_blen m2 (by omega)
      rw [ex, ey]
      rw [← hK]
      generalize overRK x y p = k at *
      generalize leftM x.m k = M at *
      generalize leftB x.m k = lo at *
      have hQ : 0 ≤ M / y.m := Int.ediv_nonneg (by omega) m2
      have hQb := blen_mono (m := M / y.m) (n := M) (Int.ediv_le_self _ (by omega))
      have hR : 0 ≤ M % y.m := Int.emod_nonneg _ (by omega)
      have hQ2 : 0 ≤ M / y.m * 2 ^ 1 := by omega
      have lQ := ws_blen (k := 8796093022206) hQ (by omega)
      rw [val_ws (show 0 ≤ M by omega), val_ws hQ, len_pos hR, val_ws hQ2, val_ws_one, val_ws (show 0 ≤ M / y.m * 2 ^ 1 + 1 by omega)]
      have st1 : ∀ bb : Bool, (decide (M % y.m ≠ 0) || lo) = bb → bb = true → M / y.m * 2 ^ 1 + 1 = stickyM (M / y.m) (decide (M % y.m ≠ 0) || lo) := fun bb h1 h2 => by rw [h1, h2]; rfl
      have lQ2 : (ws (M / y.m * 2 ^ 1)).length ≤ 17592186044414 := by
        have := ws_blen (n := M / y.m * 2 ^ 1) (k := 17592186044414) hQ2 (by
          by_cases h0 : M / y.m = 0
          · rw [h0]; simp [blen]
          · rw [blen_mul_pow (by omega)]; omega)
        exact this
      have sz : ∀ bb : Bool, Dx.Sm 34359738368 (mkD (!x.neg == y.neg) (stickyM (M / y.m) bb) (x.e - y.e - k - 1)) := fun bb => by
        obtain ⟨t1, t2⟩ := sticky_blen (b := bb) hQ
        exact (mkD_sm (N := 1073741824) (M := 1073741824) t1 (by omega) (by omega) (by omega)).mono (by omega)
      have e1 : M / y.m * 2 ^ 1 + 1 = stickyM (M / y.m) true := rfl
      have e0 : M / y.m * 2 ^ 1 = stickyM (M / y.m) false := by show _ = M / y.m * 2 + 0; omega
      refine ⟨⟨by omega, by omega⟩, ⟨by omega, by omega⟩, ⟨by omega, by omega⟩, rfl, ⟨by omega, by omega, lx⟩, ⟨m2p, by omega, ly⟩, ⟨by omega, by omega, by omega⟩, br_intro (fun hr => ?_) fun hr => br_intro (fun hlo => ?_) fun hlo => ?_⟩
      · rw [hr, Bool.true_or, e1]
        exact ⟨word_one, ⟨lQ2, by simp [ws_one]⟩, ⟨by omega, by omega⟩, ⟨by omega, by omega⟩, ⟨by omega, by omega⟩, ⟨by omega, by omega⟩, ⟨sz true, by omega, by omega⟩, rfl⟩
      · rw [hr, hlo, Bool.false_or, e1]
        exact ⟨word_one, ⟨lQ2, by simp [ws_one]⟩, ⟨by omega, by omega⟩, ⟨by omega, by omega⟩, ⟨by omega, by omega⟩, ⟨by omega, by omega⟩, ⟨sz true, by omega, by omega⟩, rfl⟩
      · rw [hr, hlo, Bool.false_or, e0]
        exact ⟨⟨by omega, by omega⟩, ⟨by omega, by omega⟩, ⟨by omega, by omega⟩, ⟨by omega, by omega⟩, ⟨sz false, by omega, by omega⟩, rfl⟩⟩
def gLess : Spec := specK [.v, .v, .i .i64] fun (v : Vx) (u : Vx) (p : Int) => (some (v.Sm 134217728 ∧ u.Sm 134217728 ∧ 0 ≤ p ∧ p ≤ 1099511627776), vT (lessV v u p))
theorem gLess_vc (v u : Vx) (p : Int) (Q : Tv → Prop) : execF ⟨tys2, sG3⟩ (fun _ => none) 0 Tryz.f58 [.agg (ivL false v), .agg (ivL false u), .one (.int .i64 p)] Q = ((eB (4611686018427387904 : Int) u.lo ∧ eB (4611686018427387904 : Int) u.hi) ∧ (Vx.Sm (268435456 : Nat) v ∧ Vx.Sm (268435456 : Nat) (turnV u) ∧ (0 : Int) ≤ p ∧ p ≤ (1099511627776 : Int)) ∧ true = true ∧ Q (Tv.sv (Sv.agg (ivL true (plusV v (turnV u) p))))) := by kernel_rfl
theorem gLess_ok : SpecOk Tryz.prog 58 gLess :=
  specK_ok (envOk tys2_ok sG3_ok) mixed Tryz.func58 rfl (by decide) (by decide) fun (v : Vx) hv (u : Vx) hu (p : Int) _ hp => ⟨fun _ => none, 0, by
    obtain ⟨⟨a1, a2⟩, ⟨b1, b2⟩, p0, p1⟩ : v.Sm 134217728 ∧ u.Sm 134217728 ∧ 0 ≤ p ∧ p ≤ 1099511627776 := hp
    have n1 := negD_sm b1 (Dx.Wf.m0 hu.1)
    have n2 := negD_sm b2 (Dx.Wf.m0 hu.2)
    exact (gLess_vc v u p _).mpr ⟨⟨b1.eB (by omega), b2.eB (by omega)⟩, ⟨⟨a1.mono (by omega), a2.mono (by omega)⟩, ⟨n2.mono (by omega), n1.mono (by omega)⟩, p0, p1⟩, rfl, rfl⟩⟩
def sNr : List (FuncId × Spec) := (97, fWhole) :: sRef4
theorem sNr_ok : SpecsOk Tryz.prog sNr := ⟨fWhole_ok, sRef4_ok⟩
theorem hNear_vc (d : Dx) (Q : Tv → Prop) : execF ⟨tys2, sNr⟩ (fun _ => none) 0 Tryz.f56 [.agg (dyL false d)] Q = (Word (1 : Int) ∧ (Dx.Sm (68719476736 : Nat) d ∧ Dx.Sm (68719476736 : Nat) (Dx.mk false (ws (1 : Int)) (-1 : Int))) ∧ Dx.Sm (68719476736 : Nat) (plusD d (Dx.mk false (ws (1 : Int)) (-1 : Int))) ∧ (Dx.Sm (34359738368 : Nat) (floorD (plusD d (Dx.mk false (ws (1 : Int)) (-1 : Int)))) ∧ Dx.Sm (34359738368 : Nat) d) ∧ br (sameD (lessD (floorD (plusD d (Dx.mk false (ws (1 : Int)) (-1 : Int)))) d) (Dx.mk false (ws (1 : Int)) (-1 : Int))) (br (ltI (0 : Int) (↑(List.length (floorD (plusD d (Dx.mk false (ws (1 : Int)) (-1 : Int)))).xs) : Int)) (true = true ∧ br (eqI (floorD (plusD d (Dx.mk false (ws (1 : Int)) (-1 : Int)))).e (0 : Int)) (inR (1 : Int) ∧ (Dx.Sm (34359738368 : Nat) (floorD (plusD d (Dx.mk false (ws (1 : Int)) (-1 : Int)))) ∧ Dx.Sm (34359738368 : Nat) (mkS (1 : Int) (0 : Int))) ∧ true = true ∧ Q (Tv.sv (Sv.agg (dyL true (lessD (floorD (plusD d (Dx.mk false (ws (1 : Int)) (-1 : Int)))) (mkS (1 : Int) (0 : Int))))))) (Q (Tv.sv (Sv.agg (dyL true (floorD (plusD d (Dx.mk false (ws (1 : Int)) (-1 : Int))))))))) (true = true ∧ Q (Tv.sv (Sv.agg (dyL true (floorD (plusD d (Dx.mk false (ws (1 : Int)) (-1 : Int))))))))) (true = true ∧ Q (Tv.sv (Sv.agg (dyL true (floorD (plusD d (Dx.mk false (ws (1 : Int)) (-1 : Int))))))))) := by kernel_rfl
def hNear : Spec := specK [.d] fun (d : Dx) => (some (d.Sm 268435456), dT (nearD d))
theorem ws_1 : (⟨false, ws 1, -1⟩ : Dx) = halfD := by rw [ws_one]; rfl
theorem sameD_refl2 (d : Dx) : sameD d d = true := by simp [sameD, eqI]
theorem sameD_eq2 {a b : Dx} (h : sameD a b = true) : a = b := by
  obtain ⟨n, xs, e⟩ := a
  obtain ⟨n', xs', e'⟩ := b
  simp [sameD, eqI] at h
  obtain ⟨rfl, rfl, rfl⟩ := h
  rfl
theorem same_iff {a b : Dx} (ha : OneF a) (hb : OneF b) : sameD a b = true ↔ a.rv = b.rv := by
  constructor
  · intro h
    have : a = b := sameD_eq2 h
    rw [this]
  · intro h
    rw [ha.ext hb h]; exact sameD_refl2 _
theorem hNear_ok : SpecOk Tryz.prog 56 hNear :=
  specK_ok (envOk tys2_ok sNr_ok) mixed Tryz.func56 rfl (by decide) (by decide) fun (d : Dx) hd hp => ⟨fun _ => none, 0, by
    have s : d.Sm 268435456 := hp
    have m0 := Dx.Wf.m0 hd
    obtain ⟨z1, z2⟩ := near_sm1 m0 s (by omega)
    show execF _ _ _ _ _ (fun t => t = dT (nearD d))
    refine (hNear_vc d _).mpr ?_
    rw [ws_1]
    have p1 := floorD_p (d := plusD d halfD)
    have ff := floorD_f (d := plusD d halfD) plusD_p
    have z3 : (lessD (floorD (plusD d halfD)) d).Sm 68719476736 := (plusD_sm (N := 4294967300) p1 negD_p z2 ((negD_sm s m0).mono (by omega))).mono (by omega)
    have z5 : Dx.Sm 34359738368 (mkS 1 0) := mkS_sm5.mono (by omega)
    have hc : sameD (lessD (floorD (plusD d halfD)) d) halfD = true ↔ cmpD (lessD (floorD (plusD d halfD)) d) halfD = 0 := by
      rw [same_iff (lessD_f p1) halfD_f, cmpD_eq0]
    have hl : ltI 0 ((floorD (plusD d halfD)).xs.length : Nat) = decide ((floorD (plusD d halfD)).m ≠ 0) := by
      rw [ff.xs, len_pos p1]
    rw [hl]
    refine ⟨word_one, ⟨s.mono (by omega), halfD_sm.mono (by omega)⟩, z1.mono (by omega), ⟨z2.mono (by omega), s.mono (by omega)⟩, ?_⟩
    unfold nearD
    refine br_intro (fun h1 => br_intro (fun h2 => ⟨rfl, br_intro (fun h3 => ⟨⟨by omega, by omega⟩, ⟨z2.mono (by omega), z5⟩, rfl, ?_⟩) fun h3 => ?_⟩) fun h2 => ⟨rfl, ?_⟩) fun h1 => ⟨rfl, ?_⟩
    · rw [if_pos ⟨eqI_true.1 h3, of_decide_eq_true h2, hc.1 h1⟩]
    · rw [if_neg fun k => eqI_false.1 h3 k.1]
    · rw [if_neg fun k => of_decide_eq_false h2 k.2.1]
    · rw [if_neg fun k => by rw [hc.2 k.2.2] at h1; cases h1]⟩
def tyUint : TyRow := ⟨94, 1, false, [.int .u64 0], .int .u64⟩
def tysU : List TyRow := tyUint :: tys2
theorem tysU_ok : RowsOk Tryz.prog tysU := ⟨by kernel_rfl, tys2_ok⟩
def hBy4 : Spec := specK [.d] fun (d : Dx) => (some (OneF d ∧ 0 ≤ d.e), iT (by4I d))
theorem hBy4_vc (d : Dx) (Q : Tv → Prop) : execF ⟨tysU, sNr⟩ (fun _ => none) 0 Tryz.f81 [.agg (dyL false d)] Q = (br (Dx.zeroB d) (Q (iT 0)) (br (leI (2 : Int) d.e) (Q (iT 0)) (((0 : Int) ≤ (0 : Int) ∧ (0 : Int) < (↑(List.length d.xs) : Int)) ∧ (0 : Int) ≤ IntKind.wrap IntKind.u64 d.e ∧ true = true ∧ br d.neg (inR ((4 : Int) - bitsI BinOp.and IntKind.i64 (IntKind.wrap IntKind.i64 (shlI IntKind.u64 (nth d.xs (0 : Nat)) (IntKind.wrap IntKind.u64 d.e))) (3 : Int)) ∧ Q (iT (bitsI BinOp.and IntKind.i64 ((4 : Int) - bitsI BinOp.and IntKind.i64 (IntKind.wrap IntKind.i64 (shlI IntKind.u64 (nth d.xs (0 : Nat)) (IntKind.wrap IntKind.u64 d.e))) (3 : Int)) (3 : Int)))) (Q (iT (bitsI BinOp.and IntKind.i64 (IntKind.wrap IntKind.i64 (shlI IntKind.u64 (nth d.xs (0 : Nat)) (IntKind.wrap IntKind.u64 d.e))) (3 : Int))))))) := by kernel_rfl
theorem hBy4_ok : SpecOk Tryz.prog 81 hBy4 :=
  specK_ok (envOk tysU_ok sNr_ok) mixed Tryz.func81 rfl (by decide) (by decide) fun (d : Dx) _ hp => ⟨fun _ => none, 0, by
    obtain ⟨f, e0⟩ : OneF d ∧ 0 ≤ d.e := hp
    show execF _ _ _ _ _ (fun t => t = iT (by4I d))
    refine (hBy4_vc d _).mpr (br_intro (fun h => ?_) fun h => br_intro (fun h1 => ?_) fun h1 => ?_)
    · rw [by4_zero (zeroB_true.1 h)]
    · rw [by4_great (leI_true.1 h1)]
    · have h1 := leI_false.1 h1
      have m0 := f.p
      have mp : 0 < d.m := by have := zeroB_false.1 h; omega
      have ew : IntKind.wrap .u64 d.e = d.e := wrap_w ⟨e0, by omega⟩
      rw [ew, f.xs, by4_low mp e0 (by omega)]
      have hl : 0 < ((ws d.m).length : Int) := by rw [ws_pos mp]; simp
      refine ⟨⟨by omega, hl⟩, e0, rfl, br_intro (fun h2 => ⟨⟨by omega, by omega⟩, ?_⟩) fun h2 => ?_⟩
      · rw [and_mask3]
        have : by4I d = (4 - d.m * 2 ^ d.e.toNat % 4) % 4 := by
          unfold by4I wholeS Dx.sm; rw [if_pos h2, Int.neg_mul]; omega
        rw [this]
      · have : by4I d = d.m * 2 ^ d.e.toNat % 4 := by
          unfold by4I wholeS Dx.sm; rw [if_neg (by rw [h2]; simp)]
        rw [this]⟩
/-! ### Quotients of intervals. -/
def sDv : List (FuncId × Spec) := [(77, gSpan), (98, gOver)]
theorem sDv_ok : SpecsOk Tryz.prog sDv := ⟨gSpan_ok, gOver_ok, trivial⟩
def gDiv : Spec := specK [.v, .v, .i .i64] fun (v : Vx) (u : Vx) (p : Int) => (some (v.Sm 16777216 ∧ u.Sm 16777216 ∧ u.lo.m ≠ 0 ∧ u.hi.m ≠ 0 ∧ 1 ≤ p ∧ p ≤ 16777216), vF (divV v u p))
theorem gDiv_vc (v u : Vx) (p : Int) (Q : Tv → Prop) : execF ⟨tys2, sDv⟩ (fun _ => none) 0 Tryz.f57 [.agg (ivL false v), .agg (ivL false u), .one (.int .i64 p)] Q = ((Dx.Sm (67108864 : Nat) v.lo ∧ Dx.Sm (67108864 : Nat) u.lo ∧ Dx.m u.lo ≠ (0 : Int) ∧ (1 : Int) ≤ p ∧ p ≤ (67108864 : Int)) ∧ (Dx.Sm (67108864 : Nat) v.lo ∧ Dx.Sm (67108864 : Nat) u.hi ∧ Dx.m u.hi ≠ (0 : Int) ∧ (1 : Int) ≤ p ∧ p ≤ (67108864 : Int)) ∧ (Dx.Sm (67108864 : Nat) v.hi ∧ Dx.Sm (67108864 : Nat) u.lo ∧ Dx.m u.lo ≠ (0 : Int) ∧ (1 : Int) ≤ p ∧ p ≤ (67108864 : Int)) ∧ (Dx.Sm (67108864 : Nat) v.hi ∧ Dx.Sm (67108864 : Nat) u.hi ∧ Dx.m u.hi ≠ (0 : Int) ∧ (1 : Int) ≤ p ∧ p ≤ (67108864 : Int)) ∧ true = true ∧ (Dx.Sm (67108864 : Nat) v.lo ∧ Dx.Sm (67108864 : Nat) u.lo ∧ Dx.m u.lo ≠ (0 : Int) ∧ (1 : Int) ≤ p ∧ p ≤ (67108864 : Int)) ∧ (Dx.Sm (67108864 : Nat) v.lo ∧ Dx.Sm (67108864 : Nat) u.hi ∧ Dx.m u.hi ≠ (0 : Int) ∧ (1 : Int) ≤ p ∧ p ≤ (67108864 : Int)) ∧ (Dx.Sm (67108864 : Nat) v.hi ∧ Dx.Sm (67108864 : Nat) u.lo ∧ Dx.m u.lo ≠ (0 : Int) ∧ (1 : Int) ≤ p ∧ p ≤ (67108864 : Int)) ∧ (Dx.Sm (67108864 : Nat) v.hi ∧ Dx.Sm (67108864 : Nat) u.hi ∧ Dx.m u.hi ≠ (0 : Int) ∧ (1 : Int) ≤ p ∧ p ≤ (67108864 : Int)) ∧ true = true ∧ (Dx.Sm (34359738368 : Nat) (overD v.lo u.lo p false) ∧ Dx.Sm (34359738368 : Nat) (overD v.lo u.hi p false) ∧ Dx.Sm (34359738368 : Nat) (overD v.hi u.lo p false) ∧ Dx.Sm (34359738368 : Nat) (overD v.hi u.hi p false)) ∧ (Dx.Sm (34359738368 : Nat) (overD v.lo u.lo p true) ∧ Dx.Sm (34359738368 : Nat) (overD v.lo u.hi p true) ∧ Dx.Sm (34359738368 : Nat) (overD v.hi u.lo p true) ∧ Dx.Sm (34359738368 : Nat) (overD v.hi u.hi p true)) ∧ Q (Tv.sv (Sv.agg (ivL false (Vx.mk (spanL (overD v.lo u.lo p false) [overD v.lo u.hi p false, overD v.hi u.lo p false, overD v.hi u.hi p false]).lo (spanL (overD v.lo u.lo p true) [overD v.lo u.hi p true, overD v.hi u.lo p true, overD v.hi u.hi p true]).hi))))) := by kernel_rfl
theorem gDiv_ok : SpecOk Tryz.prog 57 gDiv :=
  specK_ok (envOk tys2_ok sDv_ok) mixed Tryz.func57 rfl (by decide) (by decide) fun (v : Vx) hv (u : Vx) hu (p : Int) _ hp => ⟨fun _ => none, 0, by
    obtain ⟨⟨a1, a2⟩, ⟨b1, b2⟩, z1, z2, p0, p1⟩ : v.Sm 16777216 ∧ u.Sm 16777216 ∧ u.lo.m ≠ 0 ∧ u.hi.m ≠ 0 ∧ 1 ≤ p ∧ p ≤ 16777216 := hp
    have v1 := Dx.Wf.m0 hv.1
    have v2 := Dx.Wf.m0 hv.2
    have u1 := Dx.Wf.m0 hu.1
    have u2 := Dx.Wf.m0 hu.2
    have sz : ∀ {a b : Dx} {up : Bool}, 0 ≤ a.m → 0 ≤ b.m → a.Sm 16777216 → b.Sm 16777216 → (overD a b p up).Sm 34359738368 := fun ha hb sa sb => (overD_sm ha hb sa sb (by omega) p1).mono (by omega)
    have k1 := a1.mono (M := 67108864) (by omega)
    have k2 := a2.mono (M := 67108864) (by omega)
    have k3 := b1.mono (M := 67108864) (by omega)
    have k4 := b2.mono (M := 67108864) (by omega)
    have kp : p ≤ 67108864 := by omega
    exact (gDiv_vc v u p _).mpr ⟨⟨k1, k3, z1, p0, kp⟩, ⟨k1, k4, z2, p0, kp⟩, ⟨k2, k3, z1, p0, kp⟩, ⟨k2, k4, z2, p0, kp⟩, rfl, ⟨k1, k3, z1, p0, kp⟩, ⟨k1, k4, z2, p0, kp⟩, ⟨k2, k3, z1, p0, kp⟩, ⟨k2, k4, z2, p0, kp⟩, rfl, ⟨sz v1 u1 a1 b1, sz v1 u2 a1 b2, sz v2 u1 a2 b1, sz v2 u2 a2 b2⟩, ⟨sz v1 u1 a1 b1, sz v1 u2 a1 b2, sz v2 u1 a2 b1, sz v2 u2 a2 b2⟩, rfl⟩⟩
end Go.Proofs.YtdnbckfhfhfkoaaGreatDoor

namespace Go.Proofs.YtdnbckfhfhfkoaaGreatDoor
open Go.RowKit
section
variable {C : Base} {w : World} {A : Nat → Option Nat}
theorem repA_wf1 {v : Value} {a : At} (h : Rep C A w v a) : wf1 a := by
  cases h with
  | words h => obtain ⟨_, _, _, h1, h2, h3, _⟩ := h; exact ⟨h3, h2.2⟩
  | _ => exact trivial
theorem repA_wfL (f : Nat → Value) : ∀ (l : List At) (k : Nat), (∀ (i : Nat) a, l[i]? = some a → Rep C A w (f (k + i)) a) → wfL l
  | [], _, _ => trivial
  | a :: l, k, h => ⟨repA_wf1 (h 0 a rfl), repA_wfL f l (k + 1) fun i x hx => by have := h (i + 1) x hx; rwa [show k + (i + 1) = k + 1 + i by omega] at this⟩
theorem repA_wfB {v : Value} {a : At} (h : Rep C A w v a) : wfB a := by
  cases h with
  | words h => exact repA_wf1 (.words h)
  | ref vs _ _ _ h => exact repA_wfL vs _ 0 fun i a hi => by rw [Nat.zero_add]; exact h i a hi
  | rows vs _ _ _ _ _ _ _ _ h => exact repA_wfL vs _ 0 fun i a hi => by rw [Nat.zero_add]; exact h i a hi
  | _ => exact trivial
theorem repA_wfBs : ∀ {vs : List Value} {l : List At}, RepL C A w vs l → wfBs l
  | [], [], _ => trivial
  | _ :: _, _ :: _, ⟨h, k⟩ => ⟨repA_wfB h, repA_wfBs k⟩
theorem repA_wfBs' : ∀ {vs : List Value} {l : List At}, vs.length = l.length → (∀ (i : Nat) v a, vs[i]? = some v → l[i]? = some a → Rep C A w v a) → wfBs l
  | [], [], _, _ => trivial
  | v :: _, a :: _, hl, h => ⟨repA_wfB (h 0 v a rfl rfl), repA_wfBs' (by simpa using hl) fun i v a hv ha => h (i + 1) v a hv ha⟩
theorem repA_wfS {v : Value} {s : Sv} (h : RepS C A w v s) : wfS s := by
  cases s with
  | agg l => obtain ⟨vs, e, h⟩ := h; exact repA_wfBs h
  | one a =>
    have q : Rep C A w v a := h
    clear h
    cases q with
    | fn hl k => exact repA_wfBs' hl k
    | words k => exact repA_wfB (.words k)
    | ref vs hg ha hc k => exact repA_wfB (.ref vs hg ha hc k)
    | rows vs hl hn hm hg ha hX hb hc k => exact repA_wfB (.rows vs hl hn hm hg ha hX hb hc k)
    | _ => exact trivial
theorem repA_wfSs : ∀ {vs : List Value} {l : List Sv}, RepSs C A w vs l → wfSs l
  | [], [], _ => trivial
  | _ :: _, _ :: _, ⟨h, k⟩ => ⟨repA_wfS h, repA_wfSs k⟩
end
theorem fg_toTv : ∀ l : List Sv, fgT (toTv l) = toTv (fgSs l)
  | [] => rfl
  | [_] => rfl
  | _ :: _ :: _ => rfl
theorem flat_fgA (a : At) : flat0 (fgA a) = flat0 a := by cases a <;> rfl
theorem allFlat_fg : ∀ l : List At, allFlat (fgL l) = allFlat l
  | [] => rfl
  | a :: l => by simp only [fgL, allFlat, flat_fgA, allFlat_fg l]
/-- A word of a function that may write a box of its caller, out of its run; it may forget what is new. -/
theorem effOk_pat {P : Program} {E : Env} (hE : EnvOk P E) (hm : P.follows .mixedOrders = true) {f : FuncId} {fn : Func} {c : Code} (hf : P.funcs[f]? = some fn) (hb : fn.body = some c) (hname : (fn.name == "runtime.NumGoroutine") = false) {sp : Spec} (k : Nat) (hk : k ≤ fn.ntmps)
    (h : ∀ l args p t, wfBs l → wfSs args → sp (.agg l :: args) = (p, t) → (match p with | none => True | some p => p) → args.length ≤ k ∧ ∃ inv fuel, execFE E inv fuel fn l args (fun x => x = t ∨ fgT x = t)) : EffOk P f sp := by
  refine ⟨⟨fn, c, hf, hname, hb⟩, fun C w us l vs ss new rs hn hX0 hX hT hL hus hcell hvs hp hsp hfn hlen => ?_⟩
  obtain ⟨hl, inv, fuel, h⟩ := h l ss (sp (.agg l :: ss)).1 (sp (.agg l :: ss)).2 (repA_wfBs hus) (repA_wfSs hvs) rfl hp
  refine (execFE_ok hE hm hf h hn hX0 hX hT hL hus hcell hvs (by rw [hvs.length]; omega)).mono ?_
  rintro e w' ⟨v, new', rs', rfl, hq, h1, h2⟩
  rw [hsp] at hq
  rcases hq with hq | hq
  · cases hq
    exact ⟨v, rfl, h1, h2 hfn⟩
  · have hq : Tv.tup (Sv.agg (fgL new') :: fgSs rs') = .tup (.agg new :: rs) := hq
    cases hq
    refine ⟨v, rfl, fg_toTv rs' ▸ rep_fgT h1, ?_⟩
    obtain ⟨e1, e2, ⟨us', e3, e4⟩, e5⟩ := h2 (by rw [← allFlat_fg]; exact hfn)
    exact ⟨e1, e2, ⟨us', rep_fgL e3, e4⟩, e5⟩
end Go.Proofs.YtdnbckfhfhfkoaaGreatDoor

namespace Go.Proofs.YtdnbckfhfhfkoaaGreatDoor
open Go.RowKit
def parG (b : Nat) (r : Nat → Rat) (n : Nat) : Rat := sumTo (fun k => if k % 2 = b then r k else 0) n
def sgnS (turned : Bool) (r : Nat → Rat) (n : Nat) : Rat := sumTo (fun k => (if turned = true then alt k else 1) * r k) n
theorem sgnS_par (r : Nat → Rat) : ∀ n, sgnS true r n = parG 0 r n - parG 1 r n
  | 0 => by show (0 : Rat) = 0 - 0; grind
  | n + 1 => by
    have h := sgnS_par r n
    have e1 : sgnS true r (n + 1) = sgnS true r n + alt n * r n := rfl
    have e2 : ∀ b, parG b r (n + 1) = parG b r n + (if n % 2 = b then r n else 0) := fun _ => rfl
    rw [e1, e2, e2, h]
    unfold alt
    rcases (show n % 2 = 0 ∨ n % 2 = 1 by omega) with k | k <;> rw [k] <;> simp <;> grind
theorem sumS_par (r : Nat → Rat) : ∀ n, sgnS false r n = parG 0 r n + parG 1 r n
  | 0 => by show (0 : Rat) = 0 + 0; grind
  | n + 1 => by
    have h := sumS_par r n
    have e1 : sgnS false r (n + 1) = sgnS false r n + 1 * r n := rfl
    have e2 : ∀ b, parG b r (n + 1) = parG b r n + (if n % 2 = b then r n else 0) := fun _ => rfl
    rw [e1, e2, e2, h]
    rcases (show n % 2 = 0 ∨ n % 2 = 1 by omega) with k | k <;> rw [k] <;> simp <;> grind
theorem parG_tail {r : Nat → Rat} (h0 : ∀ k, 0 ≤ r k) (h : ∀ k, 12 * r (k + 1) ≤ r k) (b K : Nat) : ∀ d, parG b r K ≤ parG b r (K + d) ∧ 11 * (parG b r (K + d) - parG b r K) ≤ 12 * (r K - r (K + d))
  | 0 => by constructor <;> grind
  | d + 1 => by
    have ih := parG_tail h0 h b K d
    have t0 := h0 (K + d)
    have t1 := h (K + d)
    have e : parG b r (K + (d + 1)) = parG b r (K + d) + (if (K + d) % 2 = b then r (K + d) else 0) := rfl
    rw [e, ← Nat.add_assoc]
    split <;> constructor <;> grind
theorem altG_enc {r : Nat → Rat} (h0 : ∀ k, 0 ≤ r k) (h : ∀ k, 12 * r (k + 1) ≤ r k) {K : Nat} {a b c d q : Rat} (h1 : a ≤ parG 0 r K) (h2 : parG 0 r K ≤ b) (h3 : c ≤ parG 1 r K) (h4 : parG 1 r K ≤ d) (h5 : 12 * r K ≤ 11 * q) : Enc (sgnS true r) (a - (d + q)) (b + q - c) := fun e he => ⟨K, fun n hn => by
  obtain ⟨m, rfl⟩ : ∃ m, n = K + m := ⟨n - K, by omega⟩
  have p := parG_tail h0 h 0 K m
  have q := parG_tail h0 h 1 K m
  have t := h0 (K + m)
  rw [sgnS_par]
  constructor <;> grind⟩
theorem sumG_enc {r : Nat → Rat} (h0 : ∀ k, 0 ≤ r k) (h : ∀ k, 12 * r (k + 1) ≤ r k) {K : Nat} {a b c d q : Rat} (h1 : a ≤ parG 0 r K) (h2 : parG 0 r K ≤ b) (h3 : c ≤ parG 1 r K) (h4 : parG 1 r K ≤ d) (h5 : 12 * r K ≤ 11 * q) : Enc (sgnS false r) (a + c) (b + q + (d + q)) := fun e he => ⟨K, fun n hn => by
  obtain ⟨m, rfl⟩ : ∃ m, n = K + m := ⟨n - K, by omega⟩
  have p := parG_tail h0 h 0 K m
  have q := parG_tail h0 h 1 K m
  have t := h0 (K + m)
  rw [sumS_par]
  constructor <;> grind⟩
/-! ### In fixed point. -/
/-- The sums of the terms at even, at odd places. -/
def SmT (T : Nat → Fx) (b : Nat) : Nat → Fx
  | 0 => ⟨0, 0⟩
  | k + 1 => if k % 2 = b then addF (SmT T b k) (T k) else SmT T b k
theorem smT_in {w : Int} {T : Nat → Fx} {r : Nat → Rat} (h : ∀ k, InF w (T k) (r k)) (b : Nat) : ∀ k, InF w (SmT T b k) (parG b r k)
  | 0 => InF.zero w
  | k + 1 => by
    have e : parG b r (k + 1) = parG b r k + (if k % 2 = b then r k else 0) := rfl
    rw [e]; unfold SmT
    split
    · exact (smT_in h b k).add (h k)
    · rw [Rat.add_zero]; exact smT_in h b k
/-- A limit, enclosed in fixed point. -/
def EncF (w : Int) (z : Fx) (s : Nat → Rat) : Prop := Enc s ((z.a : Rat) * p2 (-w)) (((z.a + z.e : Int) : Rat) * p2 (-w))
theorem scale_le {w : Int} {a : Int} {x : Rat} (h : (a : Rat) ≤ x * p2 w) : (a : Rat) * p2 (-w) ≤ x := le_div_p2 h
theorem altT_encF {w : Int} {T : Nat → Fx} {r : Nat → Rat} (hT : ∀ k, InF w (T k) (r k)) (h0 : ∀ k, 0 ≤ r k) (h : ∀ k, 12 * r (k + 1) ≤ r k) {K : Nat} {c : Int} (hK : 12 * (r K * p2 w) ≤ 11 * (c : Rat)) :
    EncF w (subF (widerF (SmT T 0 K) c) (widerF (SmT T 1 K) c)) (sgnS true r) ∧ EncF w (addF (widerF (SmT T 0 K) c) (widerF (SmT T 1 K) c)) (sgnS false r) := by
  obtain ⟨a0, e0, l0, u0⟩ := smT_in hT 0 K
  obtain ⟨a1, e1, l1, u1⟩ := smT_in hT 1 K
  have q : 12 * r K ≤ 11 * ((c : Rat) * p2 (-w)) := by
    have p := Rat.mul_le_mul_of_nonneg_right hK (Rat.le_of_lt (p2_pos (-w)))
    have i := p2_neg w
    have e : 12 * (r K * p2 w) * p2 (-w) = 12 * r K := by rw [show 12 * (r K * p2 w) * p2 (-w) = 12 * (r K * (p2 w * p2 (-w))) by grind, Rat.mul_comm (p2 w), i, Rat.mul_one]
    rw [e] at p
    grind
  have x := altG_enc h0 h (K := K) (scale_le l0) (div_p2_le u0) (scale_le l1) (div_p2_le u1) q
  have y := sumG_enc h0 h (K := K) (scale_le l0) (div_p2_le u0) (scale_le l1) (div_p2_le u1) q
  unfold EncF
  constructor
  · refine x.wide ?_ ?_
    · show ((((SmT T 0 K).a - ((SmT T 1 K).a + ((SmT T 1 K).e + c)) : Int)) : Rat) * p2 (-w) ≤ _
      rw [Rat.intCast_sub, Rat.intCast_add, Rat.intCast_add, Rat.intCast_add]; grind
    · show _ ≤ ((((SmT T 0 K).a - ((SmT T 1 K).a + ((SmT T 1 K).e + c))) + ((SmT T 0 K).e + c + ((SmT T 1 K).e + c)) : Int) : Rat) * p2 (-w)
      rw [show (SmT T 0 K).a - ((SmT T 1 K).a + ((SmT T 1 K).e + c)) + ((SmT T 0 K).e + c + ((SmT T 1 K).e + c)) = (SmT T 0 K).a + (SmT T 0 K).e + c - (SmT T 1 K).a by omega, Rat.intCast_sub, Rat.intCast_add, Rat.intCast_add]
      rw [Rat.intCast_add]; grind
  · refine y.wide ?_ ?_
    · show (((SmT T 0 K).a + (SmT T 1 K).a : Int) : Rat) * p2 (-w) ≤ _
      rw [Rat.intCast_add]; grind
    · show _ ≤ (((SmT T 0 K).a + (SmT T 1 K).a + ((SmT T 0 K).e + c + ((SmT T 1 K).e + c)) : Int) : Rat) * p2 (-w)
      simp only [Rat.intCast_add]; grind
end Go.Proofs.YtdnbckfhfhfkoaaGreatDoor

namespace Go.Proofs.YtdnbckfhfhfkoaaGreatDoor
open Go.RowKit
def apow (n : Int) : Nat → Rat
  | 0 => (n : Rat)⁻¹
  | k + 1 => apow n k * ((n * n : Int) : Rat)⁻¹
def atT (n : Int) (k : Nat) : Rat := apow n k * ((2 * (k : Int) + 1 : Int) : Rat)⁻¹
theorem apow_nonneg {n : Int} (hn : 0 < n) : ∀ k, 0 ≤ apow n k
  | 0 => Rat.le_of_lt (Rat.inv_pos.2 (cast_lt (a := 0).2 hn))
  | k + 1 => Rat.mul_nonneg (apow_nonneg hn k) (Rat.le_of_lt (Rat.inv_pos.2 (cast_lt (a := 0).2 (Int.mul_pos hn hn))))
theorem atT_nonneg {n : Int} (hn : 0 < n) (k : Nat) : 0 ≤ atT n k := Rat.mul_nonneg (apow_nonneg hn k) (Rat.le_of_lt (Rat.inv_pos.2 (cast_lt (a := 0).2 (by omega))))
theorem atT_mul (n : Int) (k : Nat) : atT n k * ((2 * (k : Int) + 1 : Int) : Rat) = apow n k := by
  have h : ((2 * (k : Int) + 1 : Int) : Rat) ≠ 0 := by
    have := cast_lt (a := 0) (b := 2 * (k : Int) + 1).2 (by omega)
    grind
  rw [atT, Rat.mul_assoc, Rat.inv_mul_cancel _ h, Rat.mul_one]
theorem sq_ge {n : Int} (hn : 5 ≤ n) : 25 ≤ n * n := by
  have := Int.mul_le_mul hn hn (by omega) (by omega)
  omega
theorem atT_fall {n : Int} (hn : 5 ≤ n) (k : Nat) : 12 * atT n (k + 1) ≤ atT n k := by
  have a := atT_mul n k
  have b := atT_mul n (k + 1)
  have hN : (25 : Rat) ≤ ((n * n : Int) : Rat) := cast_le (a := 25).2 (sq_ge hn)
  have e : apow n (k + 1) * ((n * n : Int) : Rat) = apow n k := by
    rw [apow, Rat.mul_assoc, Rat.inv_mul_cancel _ (by grind), Rat.mul_one]
  rw [← b] at e
  rw [← e] at a
  have m0 := atT_nonneg (show 0 < n by omega) (k + 1)
  have c : (1 : Rat) ≤ ((2 * (k : Int) + 1 : Int) : Rat) := cast_le (a := 1).2 (by omega)
  have d : ((2 * ((k + 1 : Nat) : Int) + 1 : Int) : Rat) = ((2 * (k : Int) + 1 : Int) : Rat) + 2 := by
    rw [show (2 * ((k + 1 : Nat) : Int) + 1 : Int) = 2 * (k : Int) + 1 + 2 by omega, Rat.intCast_add]; rfl
  rw [d] at a
  generalize ((2 * (k : Int) + 1 : Int) : Rat) = u at *
  have x1 := Rat.mul_nonneg m0 (show 0 ≤ u by grind)
  have x2 := Rat.mul_le_mul_of_nonneg_left hN (show 0 ≤ atT n (k + 1) * (u + 2) by have := Rat.mul_nonneg m0 (show 0 ≤ u + 2 by grind); exact this)
  refine Rat.not_lt.1 fun g => ?_
  have x3 := Rat.mul_lt_mul_of_pos_right g (show 0 < u by grind)
  grind
/-! ### In fixed point. -/
def invP (n w : Int) : Nat → Fx
  | 0 => shortF ⟨2 ^ w.toNat, 0⟩ n
  | k + 1 => shortF (invP n w k) (n * n)
def invT (n w : Int) : Nat → Fx
  | 0 => invP n w 0
  | k + 1 => shortF (invP n w (k + 1)) (2 * ((k + 1 : Nat) : Int) + 1)
structure InvOk (n w : Int) : Prop where
  n0 : 5 ≤ n
  n1 : n ≤ 10000
  w0 : 32 ≤ w
  w1 : w ≤ 65536
section
variable {n w : Int} (h : InvOk n w)
include h
theorem invP_in : ∀ k, InF w (invP n w k) (apow n k)
  | 0 => by
    have := h.n0
    have k := (InF.one (w := w) (by have := h.w0; omega)).short (d := n) (by omega)
    rwa [Rat.one_mul] at k
  | k + 1 => (invP_in k).short (d := n * n) (by have := sq_ge h.n0; omega)
theorem invT_in : ∀ k, InF w (invT n w k) (atT n k)
  | 0 => by
    have e : atT n 0 = apow n 0 := by have := atT_mul n 0; rw [← this]; simp
    rw [e]; exact invP_in h 0
  | k + 1 => (invP_in h (k + 1)).short (by omega)
theorem invP_e : ∀ k, (invP n w k).e = 2
  | 0 => by show 0 / n + 2 = 2; simp
  | k + 1 => by
    show (invP n w k).e / (n * n) + 2 = 2
    rw [invP_e k, Int.ediv_eq_zero_of_lt (by omega) (by have := sq_ge h.n0; omega)]; omega
theorem invT_e : ∀ k, (invT n w k).e = 2
  | 0 => invP_e h 0
  | k + 1 => by
    show (invP n w (k + 1)).e / _ + 2 = 2
    rw [invP_e h, Int.ediv_eq_zero_of_lt (by omega) (by omega)]; omega
theorem invP_small : ∀ k, (invP n w k).a * 2 ^ k ≤ 2 ^ w.toNat
  | 0 => by
    show 2 ^ w.toNat / n * 2 ^ 0 ≤ 2 ^ w.toNat
    have := Int.ediv_le_self n (show (0 : Int) ≤ 2 ^ w.toNat by have := two_pow_pos w.toNat; omega)
    omega
  | k + 1 => by
    have ih := invP_small k
    have a0 := (invP_in h k).a0
    have q : (invP n w k).a / (n * n) ≤ (invP n w k).a / 2 := div_anti a0 (by omega) (by have := sq_ge h.n0; omega)
    show (invP n w k).a / (n * n) * 2 ^ (k + 1) ≤ 2 ^ w.toNat
    have p := two_pow_pos k
    have m := Int.mul_le_mul_of_nonneg_right (show 2 * ((invP n w k).a / (n * n)) ≤ (invP n w k).a by omega) (show (0 : Int) ≤ 2 ^ k by omega)
    rw [Int.pow_succ]
    have e : (invP n w k).a / (n * n) * (2 ^ k * 2) = 2 * ((invP n w k).a / (n * n)) * 2 ^ k := by rw [Int.mul_comm (2 ^ k : Int) 2, ← Int.mul_assoc, Int.mul_comm ((invP n w k).a / (n * n)) 2]
    rw [e]; omega
theorem invT_le (k : Nat) : (invT n w k).a ≤ (invP n w k).a := by
  cases k with
  | zero => exact Int.le_refl _
  | succ k => exact Int.ediv_le_self _ (invP_in h (k + 1)).a0
theorem invT_end : (invT n w (w.toNat + 1)).a = 0 := by
  have a := invP_small h (w.toNat + 1)
  have b := invT_le h (w.toNat + 1)
  have c := (invT_in h (w.toNat + 1)).a0
  have p := two_pow_pos w.toNat
  have z : (invP n w (w.toNat + 1)).a < 1 := by
    refine Int.not_le.1 fun g => ?_
    have m := Int.mul_le_mul_of_nonneg_right g (show (0 : Int) ≤ 2 ^ (w.toNat + 1) by have := two_pow_pos (w.toNat + 1); omega)
    rw [Int.one_mul] at m
    have e : (2 : Int) ^ (w.toNat + 1) = 2 * 2 ^ w.toNat := by rw [Int.pow_succ]; omega
    omega
  omega
def invK (n w : Int) : Nat := findK (fun k => decide ((invT n w k).a = 0)) 1048576 1
theorem invK_spec : 1 ≤ invK n w ∧ (invK n w : Int) ≤ w + 1 ∧ (invT n w (invK n w)).a = 0 ∧ ∀ k, 1 ≤ k → k < invK n w → (invT n w k).a ≠ 0 := by
  have w0 := h.w0
  have w1 := h.w1
  obtain ⟨a, b, c, d⟩ := findK_spec (P := fun k => decide ((invT n w k).a = 0)) 1048576 1 (w.toNat + 1) (by omega) (by omega) (by simpa using invT_end h)
  exact ⟨a, by unfold invK; omega, of_decide_eq_true c, fun k x y => of_decide_eq_false (d k x y)⟩
end
/-- What series.Sum tells of it. -/
def invR (n w : Int) (b : Nat) : Fx := widerF (SmT (invT n w) b (invK n w)) ((invT n w (invK n w)).e + 4)
def invS (n w : Int) (turned : Bool) : Fx := if turned = true then subF (invR n w 0) (invR n w 1) else addF (invR n w 0) (invR n w 1)
theorem invS_enc {n w : Int} (h : InvOk n w) (turned : Bool) : EncF w (invS n w turned) (sgnS turned (atT n)) := by
  obtain ⟨k1, k2, k3, k4⟩ := invK_spec h
  have u := (invT_in h (invK n w)).2.2.2
  rw [k3, invT_e h] at u
  have e := altT_encF (w := w) (T := invT n w) (r := atT n) (invT_in h) (atT_nonneg (by have := h.n0; omega)) (atT_fall h.n0) (K := invK n w) (c := 6) (by
    have : ((0 + 2 : Int) : Rat) = 2 := rfl
    rw [this] at u
    have : ((6 : Int) : Rat) = 6 := rfl
    rw [this]; grind)
  unfold invS invR
  rw [invT_e h]
  cases turned with
  | true => rw [if_pos rfl]; exact e.1
  | false => rw [if_neg (by simp)]; exact e.2
end Go.Proofs.YtdnbckfhfhfkoaaGreatDoor

namespace Go.Proofs.YtdnbckfhfhfkoaaGreatDoor
open Go.RowKit
section
variable {n w : Int} (h : InvOk n w)
include h
theorem invP_half (k : Nat) : 25 * (invP n w (k + 1)).a ≤ (invP n w k).a := by
  have a0 := (invP_in h k).a0
  have q : (invP n w k).a / (n * n) ≤ (invP n w k).a / 25 := div_anti a0 (by omega) (sq_ge h.n0)
  show 25 * ((invP n w k).a / (n * n)) ≤ (invP n w k).a
  omega
theorem smI_a (b : Nat) : ∀ k, 0 ≤ (SmT (invT n w) b k).a ∧ (SmT (invT n w) b k).a + 2 * (invP n w k).a ≤ 2 * (invP n w 0).a
  | 0 => ⟨Int.le_refl _, by show 0 + 2 * (invP n w 0).a ≤ _; omega⟩
  | k + 1 => by
    obtain ⟨i0, i1⟩ := smI_a b k
    have p := invP_half h k
    have p0 := (invP_in h (k + 1)).a0
    have t := invT_le h k
    have t0 := (invT_in h k).a0
    unfold SmT
    split
    · exact ⟨by show 0 ≤ _ + _; omega, by show _ + (invT n w k).a + _ ≤ _; omega⟩
    · exact ⟨i0, by omega⟩
theorem smI_e (b : Nat) : ∀ k, 0 ≤ (SmT (invT n w) b k).e ∧ (SmT (invT n w) b k).e ≤ 2 * (k : Int)
  | 0 => ⟨Int.le_refl _, by show (0 : Int) ≤ _; omega⟩
  | k + 1 => by
    obtain ⟨i0, i1⟩ := smI_e b k
    have t := invT_e h k
    unfold SmT
    split
    · exact ⟨by show 0 ≤ _ + _; omega, by show _ + (invT n w k).e ≤ _; omega⟩
    · exact ⟨i0, by omega⟩
theorem smI_even : ∀ k, (invP n w 0).a ≤ (SmT (invT n w) 0 (k + 1)).a
  | 0 => by
    show _ ≤ (addF ⟨0, 0⟩ (invT n w 0)).a
    show (invP n w 0).a ≤ 0 + (invP n w 0).a
    omega
  | k + 1 => by
    have i := smI_even k
    have t0 := (invT_in h (k + 1)).a0
    rw [SmT]
    split
    · show _ ≤ _ + _; omega
    · exact i
theorem smI_odd : ∀ k, (SmT (invT n w) 1 (k + 1)).a + 2 * (invP n w (k + 1)).a ≤ 2 * (invP n w 1).a
  | 0 => by
    show (0 : Int) + 2 * (invP n w 1).a ≤ 2 * (invP n w 1).a
    omega
  | k + 1 => by
    have i := smI_odd k
    have p := invP_half h (k + 1)
    have p0 := (invP_in h (k + 1 + 1)).a0
    have t := invT_le h (k + 1)
    rw [SmT]
    split
    · show _ + (invT n w (k + 1)).a + _ ≤ _; omega
    · omega
/-- The sums that Sum tells: even ones at least the first term, odd ones hardly anything. -/
theorem invR_bd : (invP n w 0).a ≤ (invR n w 0).a ∧ (invR n w 0).a ≤ 2 * (invP n w 0).a ∧ 0 ≤ (invR n w 1).a ∧ 25 * (invR n w 1).a ≤ 2 * (invP n w 0).a ∧ 6 ≤ (invR n w 0).e ∧ (invR n w 0).e ≤ 2 * w + 8 ∧ 6 ≤ (invR n w 1).e ∧ (invR n w 1).e ≤ 2 * w + 8 := by
  obtain ⟨k1, k2, k3, k4⟩ := invK_spec h
  obtain ⟨j, hj⟩ : ∃ j, invK n w = j + 1 := ⟨invK n w - 1, by omega⟩
  have a := smI_a h 0 (invK n w)
  have b := smI_a h 1 (invK n w)
  have c := smI_e h 0 (invK n w)
  have d := smI_e h 1 (invK n w)
  have e := smI_even h j
  have f := smI_odd h j
  have g := (invP_in h (j + 1)).a0
  have i := invP_half h 0
  have p := (invP_in h (invK n w)).a0
  have te := invT_e h (invK n w)
  rw [← hj] at e f g
  unfold invR widerF
  rw [te]
  show (invP n w 0).a ≤ (SmT (invT n w) 0 (invK n w)).a ∧ (SmT (invT n w) 0 (invK n w)).a ≤ _ ∧ 0 ≤ (SmT (invT n w) 1 (invK n w)).a ∧ 25 * (SmT (invT n w) 1 (invK n w)).a ≤ _ ∧ 6 ≤ (SmT (invT n w) 0 (invK n w)).e + (2 + 4) ∧ (SmT (invT n w) 0 (invK n w)).e + (2 + 4) ≤ _ ∧ 6 ≤ (SmT (invT n w) 1 (invK n w)).e + (2 + 4) ∧ (SmT (invT n w) 1 (invK n w)).e + (2 + 4) ≤ _
  refine ⟨e, by omega, b.1, ?_, by omega, by omega, by omega, by omega⟩
  have i' : 25 * (invP n w 1).a ≤ (invP n w 0).a := i
  omega
end
theorem pow_big : ∀ k : Nat, ((k : Int) + 1) * 4294967296 ≤ 2 ^ (k + 32)
  | 0 => by decide
  | k + 1 => by
    have i := pow_big k
    have e : (2 : Int) ^ (k + 1 + 32) = 2 * 2 ^ (k + 32) := by rw [show k + 1 + 32 = k + 32 + 1 by omega, Int.pow_succ]; omega
    rw [e]
    omega
theorem InvOk.big {n w : Int} (h : InvOk n w) : 429496 * (w - 31) ≤ (invP n w 0).a + 1 := by
  have w0 := h.w0
  have n0 := h.n0
  have n1 := h.n1
  have p := pow_big (w.toNat - 32)
  rw [show w.toNat - 32 + 32 = w.toNat by omega] at p
  show 429496 * (w - 31) ≤ 2 ^ w.toNat / n + 1
  have q : 2 ^ w.toNat / 10000 ≤ 2 ^ w.toNat / n := div_anti (by have := two_pow_pos w.toNat; omega) (by omega) n1
  omega
theorem Enc.scale {s : Nat → Rat} {a b c : Rat} (h : Enc s a b) (hc : 0 ≤ c) : Enc (fun n => c * s n) (c * a) (c * b) := by
  refine Enc.mul (Enc.const c) h ?_
  have l := Rat.mul_le_mul_of_nonneg_left h.self hc
  rintro x y (rfl | rfl) (rfl | rfl) <;> exact ⟨by grind, by grind⟩
def timesF (z : Fx) (n : Int) : Fx := ⟨z.a * n, z.e * n⟩
theorem EncF.times {w : Int} {z : Fx} {s : Nat → Rat} (h : EncF w z s) {n : Int} (hn : 0 ≤ n) : EncF w (timesF z n) (fun m => (n : Rat) * s m) := by
  have k := h.scale (c := (n : Rat)) (by rw [show (0 : Rat) = ((0 : Int) : Rat) from rfl]; exact cast_le.2 hn)
  unfold EncF timesF
  refine k.wide ?_ ?_
  · show ((z.a * n : Int) : Rat) * p2 (-w) ≤ _
    rw [Rat.intCast_mul]; grind
  · show _ ≤ ((z.a * n + z.e * n : Int) : Rat) * p2 (-w)
    rw [← Int.add_mul, Rat.intCast_mul]; grind
theorem EncF.sub {w : Int} {x y : Fx} {s t : Nat → Rat} (h : EncF w x s) (k : EncF w y t) : EncF w (subF x y) (fun m => s m + -t m) := by
  have e := h.add k.neg
  unfold EncF subF
  refine e.wide ?_ ?_
  · show ((x.a - (y.a + y.e) : Int) : Rat) * p2 (-w) ≤ _
    rw [Rat.intCast_sub]; grind
  · show _ ≤ ((x.a - (y.a + y.e) + (x.e + y.e) : Int) : Rat) * p2 (-w)
    rw [show x.a - (y.a + y.e) + (x.e + y.e) = x.a + x.e - y.a by omega, Rat.intCast_sub]; grind
/-- Pi by Machin, and the sums whose limit it is. -/
def piF (w : Int) : Fx := subF (timesF (invS 5 w true) 16) (timesF (invS 239 w true) 4)
def piS (m : Nat) : Rat := 16 * sgnS true (atT 5) m + -(4 * sgnS true (atT 239) m)
theorem piF_enc {w : Int} (w0 : 32 ≤ w) (w1 : w ≤ 65536) : EncF w (piF w) piS :=
  ((invS_enc ⟨by omega, by omega, w0, w1⟩ true).times (n := 16) (by omega)).sub ((invS_enc ⟨by omega, by omega, w0, w1⟩ true).times (n := 4) (by omega))
end Go.Proofs.YtdnbckfhfhfkoaaGreatDoor

namespace Go.Proofs.YtdnbckfhfhfkoaaGreatDoor
open Go.RowKit
def refP (n w : Int) : Nat → Fx
  | 0 => shortF ⟨2 ^ w.toNat, 0⟩ n
  | k + 1 => shortF (shortF (refP n w k) n) n
def refT (n w : Int) : Nat → Fx
  | 0 => refP n w 0
  | k + 1 => shortF (refP n w (k + 1)) (2 * ((k + 1 : Nat) : Int) + 1)
section
variable {n w : Int} (h : InvOk n w)
include h
theorem refP_in : ∀ k, InF w (refP n w k) (apow n k)
  | 0 => by
    have := h.n0
    have k := (InF.one (w := w) (by have := h.w0; omega)).short (d := n) (by omega)
    rwa [Rat.one_mul] at k
  | k + 1 => by
    have n0 := h.n0
    have i := ((refP_in k).short (d := n) (by omega)).short (d := n) (by omega)
    have e : apow n (k + 1) = apow n k * (n : Rat)⁻¹ * (n : Rat)⁻¹ := by
      rw [apow, Rat.intCast_mul, Rat.inv_mul_rev, Rat.mul_assoc]
    rw [e]; exact i
theorem refT_in : ∀ k, InF w (refT n w k) (atT n k)
  | 0 => by
    have e : atT n 0 = apow n 0 := by have := atT_mul n 0; rw [← this]; simp
    rw [e]; exact refP_in h 0
  | k + 1 => (refP_in h (k + 1)).short (by omega)
theorem refP_e : ∀ k, (refP n w k).e = 2
  | 0 => by show 0 / n + 2 = 2; simp
  | k + 1 => by
    have n0 := h.n0
    show ((refP n w k).e / n + 2) / n + 2 = 2
    have z : (2 : Int) / n = 0 := Int.ediv_eq_zero_of_lt (by omega) (by omega)
    rw [refP_e k, z, Int.zero_add, z]; omega
theorem refT_e : ∀ k, (refT n w k).e = 2
  | 0 => refP_e h 0
  | k + 1 => by
    show (refP n w (k + 1)).e / _ + 2 = 2
    rw [refP_e h, Int.ediv_eq_zero_of_lt (by omega) (by omega)]; omega
theorem refP_half (k : Nat) : 25 * (refP n w (k + 1)).a ≤ (refP n w k).a := by
  have a0 := (refP_in h k).a0
  have n0 := h.n0
  have q0 := Int.ediv_nonneg a0 (show (0 : Int) ≤ n by omega)
  have q1 : (refP n w k).a / n ≤ (refP n w k).a / 5 := div_anti a0 (by omega) n0
  have q2 : (refP n w k).a / n / n ≤ (refP n w k).a / n / 5 := div_anti q0 (by omega) n0
  show 25 * ((refP n w k).a / n / n) ≤ (refP n w k).a
  omega
theorem refT_le (k : Nat) : (refT n w k).a ≤ (refP n w k).a := by
  cases k with
  | zero => exact Int.le_refl _
  | succ k => exact Int.ediv_le_self _ (refP_in h (k + 1)).a0
theorem refP_small : ∀ k, (refP n w k).a * 2 ^ k ≤ 2 ^ w.toNat
  | 0 => by
    show 2 ^ w.toNat / n * 2 ^ 0 ≤ 2 ^ w.toNat
    have := Int.ediv_le_self n (show (0 : Int) ≤ 2 ^ w.toNat by have := two_pow_pos w.toNat; omega)
    omega
  | k + 1 => by
    have ih := refP_small k
    have a0 := (refP_in h (k + 1)).a0
    have q := refP_half h k
    have m := Int.mul_le_mul_of_nonneg_right (show 2 * (refP n w (k + 1)).a ≤ (refP n w k).a by omega) (show (0 : Int) ≤ 2 ^ k by have := two_pow_pos k; omega)
    rw [Int.pow_succ]
    have e : (refP n w (k + 1)).a * (2 ^ k * 2) = 2 * (refP n w (k + 1)).a * 2 ^ k := by rw [Int.mul_comm (2 ^ k : Int) 2, ← Int.mul_assoc, Int.mul_comm (refP n w (k + 1)).a 2]
    rw [e]; omega
theorem refP_end : (refP n w (w.toNat + 1)).a = 0 := by
  have a := refP_small h (w.toNat + 1)
  have c := (refP_in h (w.toNat + 1)).a0
  have p := two_pow_pos w.toNat
  have z : (refP n w (w.toNat + 1)).a < 1 := by
    refine Int.not_le.1 fun g => ?_
    have m := Int.mul_le_mul_of_nonneg_right g (show (0 : Int) ≤ 2 ^ (w.toNat + 1) by have := two_pow_pos (w.toNat + 1); omega)
    rw [Int.one_mul] at m
    have e : (2 : Int) ^ (w.toNat + 1) = 2 * 2 ^ w.toNat := by rw [Int.pow_succ]; omega
    omega
  omega
/-- The first power that is nothing. -/
def refK (n w : Int) : Nat := findK (fun k => decide ((refP n w k).a = 0)) 1048576 0
theorem refK_spec : (refK n w : Int) ≤ w + 1 ∧ (refP n w (refK n w)).a = 0 ∧ ∀ k, k < refK n w → (refP n w k).a ≠ 0 := by
  have w0 := h.w0
  have w1 := h.w1
  obtain ⟨a, b, c, d⟩ := findK_spec (P := fun k => decide ((refP n w k).a = 0)) 1048576 0 (w.toNat + 1) (by omega) (by omega) (by simpa using refP_end h)
  exact ⟨by unfold refK; omega, of_decide_eq_true c, fun k y => of_decide_eq_false (d k (Nat.zero_le _) y)⟩
theorem smR_a (b : Nat) : ∀ k, 0 ≤ (SmT (refT n w) b k).a ∧ (SmT (refT n w) b k).a + 2 * (refP n w k).a ≤ 2 * (refP n w 0).a
  | 0 => ⟨Int.le_refl _, by show 0 + 2 * (refP n w 0).a ≤ _; omega⟩
  | k + 1 => by
    obtain ⟨i0, i1⟩ := smR_a b k
    have p := refP_half h k
    have p0 := (refP_in h (k + 1)).a0
    have t := refT_le h k
    have t0 := (refT_in h k).a0
    unfold SmT
    split
    · exact ⟨by show 0 ≤ _ + _; omega, by show _ + (refT n w k).a + _ ≤ _; omega⟩
    · exact ⟨i0, by omega⟩
theorem smR_e (b : Nat) : ∀ k, 0 ≤ (SmT (refT n w) b k).e ∧ (SmT (refT n w) b k).e ≤ 2 * (k : Int)
  | 0 => ⟨Int.le_refl _, by show (0 : Int) ≤ _; omega⟩
  | k + 1 => by
    obtain ⟨i0, i1⟩ := smR_e b k
    have t := refT_e h k
    unfold SmT
    split
    · exact ⟨by show 0 ≤ _ + _; omega, by show _ + (refT n w k).e ≤ _; omega⟩
    · exact ⟨i0, by omega⟩
theorem smR_even : ∀ k, (refP n w 0).a ≤ (SmT (refT n w) 0 (k + 1)).a
  | 0 => by
    show (refP n w 0).a ≤ 0 + (refP n w 0).a
    omega
  | k + 1 => by
    have i := smR_even k
    have t0 := (refT_in h (k + 1)).a0
    rw [SmT]
    split
    · show _ ≤ _ + _; omega
    · exact i
theorem smR_odd : ∀ k, (SmT (refT n w) 1 (k + 1)).a + 2 * (refP n w (k + 1)).a ≤ 2 * (refP n w 1).a
  | 0 => by
    show (0 : Int) + 2 * (refP n w 1).a ≤ 2 * (refP n w 1).a
    omega
  | k + 1 => by
    have i := smR_odd k
    have p := refP_half h (k + 1)
    have p0 := (refP_in h (k + 1 + 1)).a0
    have t := refT_le h (k + 1)
    rw [SmT]
    split
    · show _ + (refT n w (k + 1)).a + _ ≤ _; omega
    · omega
end
def refS (n w : Int) : Fx := subF (widerF (SmT (refT n w) 0 (refK n w + 1)) 4) (widerF (SmT (refT n w) 1 (refK n w + 1)) 4)
theorem refS_enc {n w : Int} (h : InvOk n w) : EncF w (refS n w) (sgnS true (atT n)) := by
  obtain ⟨k2, k3, k4⟩ := refK_spec h
  have u := (refP_in h (refK n w)).2.2.2
  rw [k3, refP_e h] at u
  refine (altT_encF (w := w) (T := refT n w) (r := atT n) (refT_in h) (atT_nonneg (by have := h.n0; omega)) (atT_fall h.n0) (K := refK n w + 1) (c := 4) ?_).1
  have f := atT_fall h.n0 (refK n w)
  have m := atT_mul n (refK n w)
  have t0 := atT_nonneg (show 0 < n by have := h.n0; omega) (refK n w)
  have c : (1 : Rat) ≤ ((2 * (refK n w : Int) + 1 : Int) : Rat) := cast_le (a := 1).2 (by omega)
  have m1 := Rat.mul_le_mul_of_nonneg_left c t0
  rw [m] at m1
  have m2 := Rat.mul_le_mul_of_nonneg_right (show 12 * atT n (refK n w + 1) ≤ apow n (refK n w) by grind) (Rat.le_of_lt (p2_pos w))
  have e2 : ((0 + 2 : Int) : Rat) = 2 := rfl
  have e4 : ((4 : Int) : Rat) = 4 := rfl
  rw [e2] at u
  rw [e4]
  grind
def piR (w : Int) : Fx := subF (timesF (refS 5 w) 16) (timesF (refS 239 w) 4)
theorem piR_enc {w : Int} (w0 : 32 ≤ w) (w1 : w ≤ 65536) : EncF w (piR w) piS :=
  ((refS_enc ⟨by omega, by omega, w0, w1⟩).times (n := 16) (by omega)).sub ((refS_enc ⟨by omega, by omega, w0, w1⟩).times (n := 4) (by omega))
end Go.Proofs.YtdnbckfhfhfkoaaGreatDoor

namespace Go.Proofs.YtdnbckfhfhfkoaaGreatDoor
open Go.RowKit
/-- The closure: the power in the box is made shorter, and the term told. -/
def wInv (gP : Fx → Int → Fx) (gT : Fx → Int → Int → Fx) (pr : Fx → Int → Int → Prop) : Spec := fun l => match l with
  | [.agg [.words false ps, .int .u64 pe], .agg [.words false _, .int .u64 _], .one (.int .i64 k), .one (.ptr 0 0), .one (.ref [.int .u64 sq])] =>
    (some (ps = ws (val ps) ∧ pr ⟨val ps, pe⟩ k sq), .tup [.agg (fwL false (fw (gP ⟨val ps, pe⟩ sq))), .agg (fwL false (fw (gT ⟨val ps, pe⟩ k sq)))])
  | _ => noSpec
def sI1 : List (FuncId × Spec) := [(157, seShort)]
theorem sI1_ok : SpecsOk Tryz.prog sI1 := ⟨seShort_ok, trivial⟩
theorem cInv_vc (ps xs : List Int) (pe e k sq : Int) (Q : Tv → Prop) : execFE ⟨tys3, sI1⟩ (fun _ => none) 0 Tryz.f163 [.words false ps, .int .u64 pe] [.agg [.words false xs, .int .u64 e], .one (.int .i64 k), .one (.ptr 0 0), .one (.ref [.int .u64 sq])] Q = (((0 : Int) ≤ pe ∧ pe ≤ (1099511627776 : Int) ∧ (0 : Int) < sq ∧ sq < (18446744073709551616 : Int)) ∧ inR ((2 : Int) * k) ∧ inR ((2 : Int) * k + (1 : Int)) ∧ ((0 : Int) ≤ (fw (shortF (Fw.f (Fw.mk ps pe)) sq)).e ∧ (fw (shortF (Fw.f (Fw.mk ps pe)) sq)).e ≤ (1099511627776 : Int) ∧ (0 : Int) < IntKind.wrap IntKind.u64 ((2 : Int) * k + (1 : Int)) ∧ IntKind.wrap IntKind.u64 ((2 : Int) * k + (1 : Int)) < (18446744073709551616 : Int)) ∧ Q (Tv.tup [Sv.agg (fwL false (fw (shortF (Fw.f (Fw.mk ps pe)) sq))), Sv.agg (fwL false (fw (shortF (Fw.f (fw (shortF (Fw.f (Fw.mk ps pe)) sq))) (IntKind.wrap IntKind.u64 ((2 : Int) * k + (1 : Int))))))])) := by kernel_rfl
def gPI (x : Fx) (sq : Int) : Fx := shortF x sq
def gTI (x : Fx) (k sq : Int) : Fx := shortF (shortF x sq) (2 * k + 1)
def prI (x : Fx) (k sq : Int) : Prop := x.Ok ∧ x.e ≤ 549755813888 ∧ 0 < sq ∧ sq < 18446744073709551616 ∧ 1 ≤ k ∧ k ≤ 1048577
theorem cInv_ok : EffOk Tryz.prog 163 (wInv gPI gTI prI) :=
  effOk_pat (envOk tys3_ok sI1_ok) mixed Tryz.func163 rfl (by decide) 4 (by decide) fun l args p t _ _ e hp => by
    unfold wInv at e
    split at e
    · rename_i ps pe xs e0 k sq heq
      cases heq
      cases e
      obtain ⟨hx, ox, xe, s0, s1, k0, k1⟩ : ps = ws (val ps) ∧ prI ⟨val ps, pe⟩ k sq := hp
      have z := shortF_e0 (x := ⟨val ps, pe⟩) (d := sq) ox.1 ox.2.2.1 s0
      refine ⟨Nat.le_refl 4, fun _ => none, 0, (cInv_vc ps xs pe e0 k sq _).mpr ?_⟩
      have e1 : IntKind.u64.wrap (2 * k + 1) = 2 * k + 1 := wrap_w ⟨by omega, by omega⟩
      have e2 : (fw (shortF ⟨val ps, pe⟩ sq)).f = shortF ⟨val ps, pe⟩ sq := fw_f z.1
      have e3 : (Fw.mk ps pe).f = ⟨val ps, pe⟩ := rfl
      have e4 : ∀ z : Fx, (fw z).e = z.e := fun _ => rfl
      have b1 : (0 : Int) ≤ pe := ox.2.2.1
      have b2 : pe ≤ 549755813888 := xe
      have b3 := z.2.2
      have b4 : (⟨val ps, pe⟩ : Fx).e = pe := rfl
      rw [e3, e2, e1, e4]
      exact ⟨⟨by omega, by omega, s0, s1⟩, ⟨by omega, by omega⟩, ⟨by omega, by omega⟩, ⟨by omega, by omega, by omega, by omega⟩, .inl rfl⟩
    · cases e; exact hp.elim
/-! ### The terms by the first power and the square. -/
def pwQ (p0 : Fx) (sq : Int) : Nat → Fx
  | 0 => p0
  | k + 1 => shortF (pwQ p0 sq k) sq
def tmQ (p0 : Fx) (sq : Int) : Nat → Fx
  | 0 => p0
  | k + 1 => shortF (pwQ p0 sq (k + 1)) (2 * ((k + 1 : Nat) : Int) + 1)
theorem pwQ_inv (n w : Int) : ∀ k, pwQ (shortF ⟨2 ^ w.toNat, 0⟩ n) (n * n) k = invP n w k
  | 0 => rfl
  | k + 1 => by show shortF (pwQ _ _ k) _ = shortF (invP n w k) _; rw [pwQ_inv n w k]
theorem tmQ_inv (n w : Int) (k : Nat) : tmQ (shortF ⟨2 ^ w.toNat, 0⟩ n) (n * n) k = invT n w k := by
  cases k with
  | zero => rfl
  | succ k => show shortF (pwQ _ _ (k + 1)) _ = shortF (invP n w (k + 1)) _; rw [pwQ_inv]
def kQ (p0 : Fx) (sq : Int) : Nat := findK (fun k => decide ((tmQ p0 sq k).a = 0)) 1048576 1
def sumQ (p0 : Fx) (sq : Int) (b : Nat) : Fx := widerF (SmT (tmQ p0 sq) b (kQ p0 sq)) ((tmQ p0 sq (kQ p0 sq)).e + 4)
def QOk (p0 : Fx) (sq : Int) : Prop :=
  1 ≤ kQ p0 sq ∧ kQ p0 sq ≤ 1048577 ∧ (tmQ p0 sq (kQ p0 sq)).a = 0 ∧ (∀ k, 1 ≤ k → k < kQ p0 sq → (tmQ p0 sq k).a ≠ 0) ∧ (∀ k, k < kQ p0 sq → prI (pwQ p0 sq k) ((k : Int) + 1) sq) ∧
    (∀ k, k ≤ kQ p0 sq → ((tmQ p0 sq k).Ok ∧ (tmQ p0 sq k).e ≤ 549755813888) ∧ (SmT (tmQ p0 sq) 0 k).Ok ∧ (SmT (tmQ p0 sq) 1 k).Ok)
/-! ### Sum. -/
def sSmI (gP : Fx → Int → Fx) (gT : Fx → Int → Int → Fx) (pr : Fx → Int → Int → Prop) : List (FuncId × Spec) := [(153, seAdd), (164, seWid), (163 + effK, wInv gP gT pr)]
theorem sSmI_ok : SpecsOk Tryz.prog (sSmI gPI gTI prI) := ⟨seAdd_ok, seWid_ok, cInv_ok, trivial⟩
def siK : LKeep := ⟨[1, 4, 5, 6, 7, 8], [(0, 2), (2, 2), (3, 2), (5, 4), (8, 2)], 11⟩
def invFn (sq : Int) : At := .fn 163 [.ptr 0 0, .ref [.int .u64 sq]]
def siCells (P T S0 S1 : Nat → Fx) (k j : Nat) (n0 n1 : Bool) : List (Nat × Nat × At) :=
  clX 0 0 false (fw (P k)) ++ ([(2, 0, .words true []), (2, 1, .int .u64 0), (3, 0, .words true []), (3, 1, .int .u64 0)] ++ (clX 5 0 n0 (fw (S0 j)) ++ (clX 5 2 n1 (fw (S1 j)) ++ clX 8 0 false (fw (T k)))))
def siSlots (sq : Int) (k : Nat) : List (Nat × Tv) := [(1, .sv (.one (invFn sq))), (4, .sv (.one (.ptr 2 0))), (5, .sv (.one (.ptr 3 0))), (6, .sv (.one (.ptr 5 0))), (7, .sv (.one (.ptr 8 0))), (8, iT (k : Nat))]
def siSt (sq : Int) (P T S0 S1 : Nat → Fx) (a : Nat × Bool × Bool) : List (Nat × Tv) × List (Nat × Nat × At) := (siSlots sq a.1, siCells P T S0 S1 a.1 a.1 a.2.1 a.2.2)
def siSt7 (sq : Int) (P T S0 S1 : Nat → Fx) (a : Nat × Bool × Bool) : List (Nat × Tv) × List (Nat × Nat × At) := (siSlots sq a.1, siCells P T S0 S1 a.1 (a.1 + 1) a.2.1 a.2.2)
def siCut (sq : Int) (P T S0 S1 : Nat → Fx) (K : Nat) (a : Nat × Bool × Bool) (n : Nat) : Option LInv :=
  match Nat.beq 6 n with
  | true => some (.cut siK (Nat × Bool × Bool) (siSt sq P T S0 S1) (fun x => x.1 = a.1 ∧ x.1 < K))
  | false => match Nat.beq 7 n with
    | true => some (.cut siK (Nat × Bool × Bool) (siSt7 sq P T S0 S1) (fun x => x.1 = a.1 ∧ x.1 < K))
    | false => none
def siInv (sq : Int) (P T S0 S1 : Nat → Fx) (K : Nat) : Nat → Option LInv :=
  invAt 4 (.relI siK (Nat × Bool × Bool) (siSt sq P T S0 S1) (fun a => a.1 ≤ K) (fun a => K - a.1) (siCut sq P T S0 S1 K))
theorem sumI_vc (gP : Fx → Int → Fx) (gT : Fx → Int → Int → Fx) (pr : Fx → Int → Int → Prop) (P T S0 S1 : Nat → Fx) (K : Nat) (t : Fw) (ps : List Int) (pe sq : Int) (Q : Tv → Prop) : execFE ⟨tys4, sSmI gP gT pr⟩ (siInv sq P T S0 S1 K) 0 Tryz.f154 [.words false ps, .int .u64 pe] [.agg (fwL false t), .one (invFn sq)] Q = (true = true ∧ (∃ (a : Nat × Bool × Bool), a.fst ≤ K ∧ Sg.mk [(1, Tv.sv (Sv.one (At.fn 163 [At.ptr 0 0, At.ref [At.int .u64 sq]]))), (4, Tv.sv (Sv.one (At.ptr ((1 : Nat) + (1 : Nat)) (0 : Nat)))), (5, Tv.sv (Sv.one (At.ptr ((1 : Nat) + (2 : Nat)) (0 : Nat)))), (6, Tv.sv (Sv.one (At.ptr ((4 : Nat) + (1 : Nat)) (0 : Nat)))), (7, Tv.sv (Sv.one (At.ptr ((7 : Nat) + (1 : Nat)) (0 : Nat)))), (8, iT 0)] [(0, 0, At.words false ps), (0, 1, At.int .u64 pe), (2, 0, At.words true []), (2, 1, At.int .u64 0), (3, 0, At.words true []), (3, 1, At.int .u64 0), (5, 0, At.words true []), (5, 1, At.int .u64 0), (5, 2, At.words true []), (5, 3, At.int .u64 0), (8, 0, At.words false t.xs), (8, 1, At.int .u64 t.e)] (11 : Nat) = LKeep.at siK (siSt sq P T S0 S1 a)) ∧ ∀ (a : Nat × Bool × Bool), a.fst ≤ K → br (ltI (0 : Int) (↑(List.length (fw (T a.fst)).xs) : Int)) (true = true ∧ ∃ (x : Nat × Bool × Bool), (x.fst = a.fst ∧ x.fst < K) ∧ Sg.mk [(1, Tv.sv (Sv.one (At.fn 163 [At.ptr 0 0, At.ref [At.int .u64 sq]]))), (4, Tv.sv (Sv.one (At.ptr 2 0))), (5, Tv.sv (Sv.one (At.ptr 3 0))), (6, Tv.sv (Sv.one (At.ptr 5 0))), (7, Tv.sv (Sv.one (At.ptr 8 0))), (8, iT (↑a.fst : Int))] [(0, 0, At.words false (fw (P a.fst)).xs), (0, 1, At.int .u64 (fw (P a.fst)).e), (2, 0, At.words true []), (2, 1, At.int .u64 0), (3, 0, At.words true []), (3, 1, At.int .u64 0), (5, 0, At.words a.snd.fst (fw (S0 a.fst)).xs), (5, 1, At.int .u64 (fw (S0 a.fst)).e), (5, 2, At.words a.snd.snd (fw (S1 a.fst)).xs), (5, 3, At.int .u64 (fw (S1 a.fst)).e), (8, 0, At.words false (fw (T a.fst)).xs), (8, 1, At.int .u64 (fw (T a.fst)).e)] (11 : Nat) = LKeep.at siK (siSt sq P T S0 S1 x)) (br (eqI (↑a.fst : Int) (0 : Int)) (true = true ∧ ∃ (x : Nat × Bool × Bool), (x.fst = a.fst ∧ x.fst < K) ∧ Sg.mk [(1, Tv.sv (Sv.one (At.fn 163 [At.ptr 0 0, At.ref [At.int .u64 sq]]))), (4, Tv.sv (Sv.one (At.ptr 2 0))), (5, Tv.sv (Sv.one (At.ptr 3 0))), (6, Tv.sv (Sv.one (At.ptr 5 0))), (7, Tv.sv (Sv.one (At.ptr 8 0))), (8, iT (↑a.fst : Int))] [(0, 0, At.words false (fw (P a.fst)).xs), (0, 1, At.int .u64 (fw (P a.fst)).e), (2, 0, At.words true []), (2, 1, At.int .u64 0), (3, 0, At.words true []), (3, 1, At.int .u64 0), (5, 0, At.words a.snd.fst (fw (S0 a.fst)).xs), (5, 1, At.int .u64 (fw (S0 a.fst)).e), (5, 2, At.words a.snd.snd (fw (S1 a.fst)).xs), (5, 3, At.int .u64 (fw (S1 a.fst)).e), (8, 0, At.words false (fw (T a.fst)).xs), (8, 1, At.int .u64 (fw (T a.fst)).e)] (11 : Nat) = LKeep.at siK (siSt sq P T S0 S1 x)) (((0 : Int) ≤ (0 : Int) ∧ (0 : Int) < (↑(2 : Nat) : Int)) ∧ (Fw.Ok (fw (S0 a.fst)) ∧ (0 : Int) ≤ IntKind.wrap IntKind.u64 ((fw (T a.fst)).e + (4 : Int)) ∧ IntKind.wrap IntKind.u64 ((fw (T a.fst)).e + (4 : Int)) ≤ (1099511627776 : Int) ∧ (fw (S0 a.fst)).xs = ws (val (fw (S0 a.fst)).xs)) ∧ ((0 : Int) ≤ (1 : Int) ∧ (1 : Int) < (↑(2 : Nat) : Int)) ∧ (Fw.Ok (fw (S1 a.fst)) ∧ (0 : Int) ≤ IntKind.wrap IntKind.u64 ((fw (T a.fst)).e + (4 : Int)) ∧ IntKind.wrap IntKind.u64 ((fw (T a.fst)).e + (4 : Int)) ≤ (1099511627776 : Int) ∧ (fw (S1 a.fst)).xs = ws (val (fw (S1 a.fst)).xs)) ∧ true = true ∧ Q (Tv.tup [Sv.agg (fwL false (fw (P a.fst))), Sv.agg (fwL false (fw (widerF (Fw.f (fw (S0 a.fst))) (IntKind.wrap IntKind.u64 ((fw (T a.fst)).e + (4 : Int)))))), Sv.agg (fwL false (fw (widerF (Fw.f (fw (S1 a.fst))) (IntKind.wrap IntKind.u64 ((fw (T a.fst)).e + (4 : Int))))))]))) ∧ ∀ (x : Nat × Bool × Bool), x.fst = a.fst ∧ x.fst < K → ((2 : Int) ≠ (0 : Int) ∧ (2 : Int) ≠ (0 : Int) ∧ br (eqI (Int.tmod (↑x.fst : Int) (2 : Int)) (0 : Int)) (((0 : Int) ≤ Int.tmod (↑x.fst : Int) (2 : Int) ∧ Int.tmod (↑x.fst : Int) (2 : Int) < (↑(2 : Nat) : Int)) ∧ (Fw.Ok (fw (S0 x.fst)) ∧ Fw.Ok (fw (T x.fst))) ∧ br (eqI (Int.tmod (↑x.fst : Int) (2 : Int)) (0 : Int)) (((0 : Int) ≤ Int.tmod (↑x.fst : Int) (2 : Int) ∧ Int.tmod (↑x.fst : Int) (2 : Int) < (↑(2 : Nat) : Int)) ∧ true = true ∧ true = true ∧ ∃ (x_1 : Nat × Bool × Bool), (x_1.fst = a.fst ∧ x_1.fst < K) ∧ Sg.mk [(1, Tv.sv (Sv.one (At.fn 163 [At.ptr 0 0, At.ref [At.int .u64 sq]]))), (4, Tv.sv (Sv.one (At.ptr 2 0))), (5, Tv.sv (Sv.one (At.ptr 3 0))), (6, Tv.sv (Sv.one (At.ptr 5 0))), (7, Tv.sv (Sv.one (At.ptr 8 0))), (8, iT (↑x.fst : Int))] [(0, 0, At.words false (fw (P x.fst)).xs), (0, 1, At.int .u64 (fw (P x.fst)).e), (2, 0, At.words true []), (2, 1, At.int .u64 0), (3, 0, At.words true []), (3, 1, At.int .u64 0), (5, 0, At.words false (fw (addF (Fw.f (fw (S0 x.fst))) (Fw.f (fw (T x.fst))))).xs), (5, 1, At.int .u64 (fw (addF (Fw.f (fw (S0 x.fst))) (Fw.f (fw (T x.fst))))).e), (5, 2, At.words x.snd.snd (fw (S1 x.fst)).xs), (5, 3, At.int .u64 (fw (S1 x.fst)).e), (8, 0, At.words false (fw (T x.fst)).xs), (8, 1, At.int .u64 (fw (T x.fst)).e)] (11 : Nat) = LKeep.at siK (siSt7 sq P T S0 S1 x_1)) (((0 : Int) ≤ Int.tmod (↑x.fst : Int) (2 : Int) ∧ Int.tmod (↑x.fst : Int) (2 : Int) < (↑(2 : Nat) : Int)) ∧ true = true ∧ true = true ∧ ∃ (x_1 : Nat × Bool × Bool), (x_1.fst = a.fst ∧ x_1.fst < K) ∧ Sg.mk [(1, Tv.sv (Sv.one (At.fn 163 [At.ptr 0 0, At.ref [At.int .u64 sq]]))), (4, Tv.sv (Sv.one (At.ptr 2 0))), (5, Tv.sv (Sv.one (At.ptr 3 0))), (6, Tv.sv (Sv.one (At.ptr 5 0))), (7, Tv.sv (Sv.one (At.ptr 8 0))), (8, iT (↑x.fst : Int))] [(0, 0, At.words false (fw (P x.fst)).xs), (0, 1, At.int .u64 (fw (P x.fst)).e), (2, 0, At.words true []), (2, 1, At.int .u64 0), (3, 0, At.words true []), (3, 1, At.int .u64 0), (5, 0, At.words x.snd.fst (fw (S0 x.fst)).xs), (5, 1, At.int .u64 (fw (S0 x.fst)).e), (5, 2, At.words false (fw (addF (Fw.f (fw (S0 x.fst))) (Fw.f (fw (T x.fst))))).xs), (5, 3, At.int .u64 (fw (addF (Fw.f (fw (S0 x.fst))) (Fw.f (fw (T x.fst))))).e), (8, 0, At.words false (fw (T x.fst)).xs), (8, 1, At.int .u64 (fw (T x.fst)).e)] (11 : Nat) = LKeep.at siK (siSt7 sq P T S0 S1 x_1))) (((0 : Int) ≤ Int.tmod (↑x.fst : Int) (2 : Int) ∧ Int.tmod (↑x.fst : Int) (2 : Int) < (↑(2 : Nat) : Int)) ∧ (Fw.Ok (fw (S1 x.fst)) ∧ Fw.Ok (fw (T x.fst))) ∧ br (eqI (Int.tmod (↑x.fst : Int) (2 : Int)) (0 : Int)) (((0 : Int) ≤ Int.tmod (↑x.fst : Int) (2 : Int) ∧ Int.tmod (↑x.fst : Int) (2 : Int) < (↑(2 : Nat) : Int)) ∧ true = true ∧ true = true ∧ ∃ (x_1 : Nat × Bool × Bool), (x_1.fst = a.fst ∧ x_1.fst < K) ∧ Sg.mk [(1, Tv.sv (Sv.one (At.fn 163 [At.ptr 0 0, At.ref [At.int .u64 sq]]))), (4, Tv.sv (Sv.one (At.ptr 2 0))), (5, Tv.sv (Sv.one (At.ptr 3 0))), (6, Tv.sv (Sv.one (At.ptr 5 0))), (7, Tv.sv (Sv.one (At.ptr 8 0))), (8, iT (↑x.fst : Int))] [(0, 0, At.words false (fw (P x.fst)).xs), (0, 1, At.int .u64 (fw (P x.fst)).e), (2, 0, At.words true []), (2, 1, At.int .u64 0), (3, 0, At.words true []), (3, 1, At.int .u64 0), (5, 0, At.words false (fw (addF (Fw.f (fw (S1 x.fst))) (Fw.f (fw (T x.fst))))).xs), (5, 1, At.int .u64 (fw (addF (Fw.f (fw (S1 x.fst))) (Fw.f (fw (T x.fst))))).e), (5, 2, At.words x.snd.snd (fw (S1 x.fst)).xs), (5, 3, At.int .u64 (fw (S1 x.fst)).e), (8, 0, At.words false (fw (T x.fst)).xs), (8, 1, At.int .u64 (fw (T x.fst)).e)] (11 : Nat) = LKeep.at siK (siSt7 sq P T S0 S1 x_1)) (((0 : Int) ≤ Int.tmod (↑x.fst : Int) (2 : Int) ∧ Int.tmod (↑x.fst : Int) (2 : Int) < (↑(2 : Nat) : Int)) ∧ true = true ∧ true = true ∧ ∃ (x_1 : Nat × Bool × Bool), (x_1.fst = a.fst ∧ x_1.fst < K) ∧ Sg.mk [(1, Tv.sv (Sv.one (At.fn 163 [At.ptr 0 0, At.ref [At.int .u64 sq]]))), (4, Tv.sv (Sv.one (At.ptr 2 0))), (5, Tv.sv (Sv.one (At.ptr 3 0))), (6, Tv.sv (Sv.one (At.ptr 5 0))), (7, Tv.sv (Sv.one (At.ptr 8 0))), (8, iT (↑x.fst : Int))] [(0, 0, At.words false (fw (P x.fst)).xs), (0, 1, At.int .u64 (fw (P x.fst)).e), (2, 0, At.words true []), (2, 1, At.int .u64 0), (3, 0, At.words true []), (3, 1, At.int .u64 0), (5, 0, At.words x.snd.fst (fw (S0 x.fst)).xs), (5, 1, At.int .u64 (fw (S0 x.fst)).e), (5, 2, At.words false (fw (addF (Fw.f (fw (S1 x.fst))) (Fw.f (fw (T x.fst))))).xs), (5, 3, At.int .u64 (fw (addF (Fw.f (fw (S1 x.fst))) (Fw.f (fw (T x.fst))))).e), (8, 0, At.words false (fw (T x.fst)).xs), (8, 1, At.int .u64 (fw (T x.fst)).e)] (11 : Nat) = LKeep.at siK (siSt7 sq P T S0 S1 x_1)))) ∧ ∀ (x : Nat × Bool × Bool), x.fst = a.fst ∧ x.fst < K → inR ((↑x.fst : Int) + (1 : Int)) ∧ ((fw (P x.fst)).xs = ws (val (fw (P x.fst)).xs) ∧ pr (Fx.mk (val (fw (P x.fst)).xs) (fw (P x.fst)).e) ((↑x.fst : Int) + (1 : Int)) sq) ∧ inR ((↑x.fst : Int) + (1 : Int)) ∧ true = true ∧ ∃ (a' : Nat × Bool × Bool), a'.fst ≤ K ∧ Sg.mk [(1, Tv.sv (Sv.one (At.fn 163 [At.ptr 0 0, At.ref [At.int .u64 sq]]))), (4, Tv.sv (Sv.one (At.ptr 2 0))), (5, Tv.sv (Sv.one (At.ptr 3 0))), (6, Tv.sv (Sv.one (At.ptr 5 0))), (7, Tv.sv (Sv.one (At.ptr 8 0))), (8, iT ((↑x.fst : Int) + (1 : Int)))] [(0, 0, At.words false (fw (gP (Fx.mk (val (fw (P x.fst)).xs) (fw (P x.fst)).e) sq)).xs), (0, 1, At.int .u64 (fw (gP (Fx.mk (val (fw (P x.fst)).xs) (fw (P x.fst)).e) sq)).e), (2, 0, At.words true []), (2, 1, At.int .u64 0), (3, 0, At.words true []), (3, 1, At.int .u64 0), (5, 0, At.words x.snd.fst (fw (S0 (x.fst + (1 : Nat)))).xs), (5, 1, At.int .u64 (fw (S0 (x.fst + (1 : Nat)))).e), (5, 2, At.words x.snd.snd (fw (S1 (x.fst + (1 : Nat)))).xs), (5, 3, At.int .u64 (fw (S1 (x.fst + (1 : Nat)))).e), (8, 0, At.words false (fw (gT (Fx.mk (val (fw (P x.fst)).xs) (fw (P x.fst)).e) ((↑x.fst : Int) + (1 : Int)) sq)).xs), (8, 1, At.int .u64 (fw (gT (Fx.mk (val (fw (P x.fst)).xs) (fw (P x.fst)).e) ((↑x.fst : Int) + (1 : Int)) sq)).e)] (11 : Nat) = LKeep.at siK (siSt sq P T S0 S1 a') ∧ K - a'.fst < K - a.fst) := by kernel_rfl
def wSumI (gQ : Fx → Int → Nat → Fx) (pQ : Fx → Int → Fx) (pr : Fx → Int → Prop) : Spec := fun l => match l with
  | [.agg [.words false ps, .int .u64 pe], .agg [.words false xs, .int .u64 e], .one (.fn n [.ptr 0 0, .ref [.int .u64 sq]])] => (match Nat.beq n 163 with
    | true => (some (ps = ws (val ps) ∧ xs = ps ∧ e = pe ∧ pr ⟨val ps, pe⟩ sq),
        .tup [.agg (fwL false (fw (pQ ⟨val ps, pe⟩ sq))), .agg (fwL false (fw (gQ ⟨val ps, pe⟩ sq 0))), .agg (fwL false (fw (gQ ⟨val ps, pe⟩ sq 1)))])
    | false => noSpec)
  | _ => noSpec
def endQ (p : Fx) (sq : Int) : Fx := pwQ p sq (kQ p sq)
def seSumI : Spec := wSumI sumQ endQ QOk
theorem seSumI_ok : EffOk Tryz.prog 154 seSumI :=
  effOk_pat (envOk tys4_ok sSmI_ok) mixed Tryz.func154 rfl (by decide) 2 (by decide) fun l args p t _ _ e hp => by
    unfold seSumI wSumI at e
    split at e
    · rename_i ps pe xs e0 n sq heq
      cases heq
      split at e
      rotate_left
      · cases e; exact hp.elim
      rename_i hb
      obtain rfl := Nat.eq_of_beq_eq_true hb
      cases e
      obtain ⟨hx, hxp, hep, c1, c2, c3, c4, c5, c6⟩ : ps = ws (val ps) ∧ xs = ps ∧ e0 = pe ∧ QOk ⟨val ps, pe⟩ sq := hp
      subst hxp hep
      unfold sumQ endQ
      generalize hK : kQ ⟨val xs, e0⟩ sq = K at *
      generalize ht : (⟨val xs, e0⟩ : Fx) = t at *
      have l0 : ∀ k, k ≤ K → (ltI 0 ((ws (tmQ t sq k).a).length : Nat) = decide ((tmQ t sq k).a ≠ 0)) := fun k hk => len_pos (c6 k hk).1.1.1
      refine ⟨Nat.le_refl 2, siInv sq (pwQ t sq) (tmQ t sq) (SmT (tmQ t sq) 0) (SmT (tmQ t sq) 1) K, 0, (sumI_vc gPI gTI prI (pwQ t sq) (tmQ t sq) (SmT (tmQ t sq) 0) (SmT (tmQ t sq) 1) K ⟨xs, e0⟩ xs e0 sq _).mpr ?_⟩
      have ew : ∀ z : Fx, (fw z).e = z.e := fun _ => rfl
      have ex : ∀ z : Fx, (fw z).xs = ws z.a := fun _ => rfl
      have w4 : ∀ k, k ≤ K → IntKind.u64.wrap ((tmQ t sq k).e + 4) = (tmQ t sq k).e + 4 := fun k hk => wrap_w ⟨by have := (c6 k hk).1.1.2.2; omega, by have := (c6 k hk).1.1.2.2; omega⟩
      have fwt : ∀ k, k ≤ K → (fw (tmQ t sq k)).f = tmQ t sq k := fun k hk => fw_f (c6 k hk).1.1.1
      have fw0 : ∀ k, k ≤ K → (fw (SmT (tmQ t sq) 0 k)).f = SmT (tmQ t sq) 0 k := fun k hk => fw_f (c6 k hk).2.1.1
      have fw1 : ∀ k, k ≤ K → (fw (SmT (tmQ t sq) 1 k)).f = SmT (tmQ t sq) 1 k := fun k hk => fw_f (c6 k hk).2.2.1
      have vP : ∀ k, k < K → val (ws (pwQ t sq k).a) = (pwQ t sq k).a := fun k hk => val_ws (c5 k hk).1.1
      refine ⟨rfl, ⟨(0, true, true), Nat.zero_le _, ?_⟩, fun a ha => ⟨br_intro (fun h => ⟨rfl, a, ⟨rfl, ?_⟩, rfl⟩) fun h => br_intro (fun h' => ⟨rfl, a, ⟨rfl, ?_⟩, rfl⟩) fun h' => ?_, fun x ⟨hxa, hx⟩ => ⟨⟨by decide, by decide, ?_⟩, fun y ⟨hya, hy0⟩ => ?_⟩⟩⟩
      · have q2 : fw t = ⟨xs, e0⟩ := by rw [← ht]; show (⟨ws (val xs), e0⟩ : Fw) = _; rw [← hx]
        have q0 : ∀ b, fw (SmT (tmQ t sq) b 0) = ⟨[], 0⟩ := fun b => by show (⟨ws 0, 0⟩ : Fw) = _; rw [ws_zero]
        have z : siSt sq (pwQ t sq) (tmQ t sq) (SmT (tmQ t sq) 0) (SmT (tmQ t sq) 1) (0, true, true) = ([(1, .sv (.one (invFn sq))), (4, .sv (.one (.ptr 2 0))), (5, .sv (.one (.ptr 3 0))), (6, .sv (.one (.ptr 5 0))), (7, .sv (.one (.ptr 8 0))), (8, iT 0)],
            [(0, 0, .words false xs), (0, 1, .int .u64 e0), (2, 0, .words true []), (2, 1, .int .u64 0), (3, 0, .words true []), (3, 1, .int .u64 0), (5, 0, .words true []), (5, 1, .int .u64 0), (5, 2, .words true []), (5, 3, .int .u64 0), (8, 0, .words false xs), (8, 1, .int .u64 e0)]) := by
          unfold siSt siCells
          show (_, clX 0 0 false (fw t) ++ (_ ++ (clX 5 0 true (fw (SmT (tmQ t sq) 0 0)) ++ (clX 5 2 true (fw (SmT (tmQ t sq) 1 0)) ++ clX 8 0 false (fw t))))) = _
          rw [q0, q0, q2]; rfl
        unfold LKeep.at
        rw [z]; rfl
      · have h := (l0 a.1 ha).symm.trans h
        rcases Nat.lt_or_ge a.1 K with k | k
        · exact k
        · rw [show a.1 = K by omega, c3] at h; simp at h
      · have := eqI_true.1 h'; omega
      · have h := (l0 a.1 ha).symm.trans h
        have h' := eqI_false.1 h'
        have hk : a.1 = K := by
          rcases Nat.lt_or_ge a.1 K with k | k
          · have := c4 a.1 (by omega) k; simp at h; exact absurd h this
          · omega
        obtain ⟨o1, o2, o3⟩ := c6 K (Nat.le_refl _)
        rw [hk, ew, w4 K (Nat.le_refl _), fw0 K (Nat.le_refl _), fw1 K (Nat.le_refl _), ex, ex, val_ws o2.1, val_ws o3.1]
        have p0 := o1.1.2.2
        have p1 := o1.2
        exact ⟨⟨by omega, by omega⟩, ⟨o2.w, by omega, by omega, rfl⟩, ⟨by omega, by omega⟩, ⟨o3.w, by omega, by omega, rfl⟩, rfl, .inl rfl⟩
      · obtain ⟨o1, o2, o3⟩ := c6 x.1 (by omega)
        have i0 : (0 : Int) ≤ Int.tmod (x.1 : Int) 2 ∧ Int.tmod (x.1 : Int) 2 < ((2 : Nat) : Int) := by rw [tmod2]; omega
        rw [fw0 x.1 (by omega), fw1 x.1 (by omega), fwt x.1 (by omega)]
        refine br_intro (fun h => ⟨i0, ⟨o2.w, o1.1.w⟩, br_intro (fun h' => ⟨i0, rfl, rfl, (x.1, false, x.2.2), ⟨hxa, hx⟩, ?_⟩) fun h' => ?_⟩) fun h => ⟨i0, ⟨o3.w, o1.1.w⟩, br_intro (fun h' => ?_) fun h' => ⟨i0, rfl, rfl, (x.1, x.2.1, false), ⟨hxa, hx⟩, ?_⟩⟩
        · have h2 := eqI_true.1 h
          rw [tmod2] at h2
          have e1 : SmT (tmQ t sq) 0 (x.1 + 1) = addF (SmT (tmQ t sq) 0 x.1) (tmQ t sq x.1) := if_pos (by omega)
          have e2 : SmT (tmQ t sq) 1 (x.1 + 1) = SmT (tmQ t sq) 1 x.1 := if_neg (by omega)
          unfold LKeep.at siSt7 siCells
          rw [e1, e2]; rfl
        · rw [h] at h'; cases h'
        · rw [h] at h'; cases h'
        · have h2 := eqI_false.1 h
          rw [tmod2] at h2
          have e1 : SmT (tmQ t sq) 1 (x.1 + 1) = addF (SmT (tmQ t sq) 1 x.1) (tmQ t sq x.1) := if_pos (by omega)
          have e2 : SmT (tmQ t sq) 0 (x.1 + 1) = SmT (tmQ t sq) 0 x.1 := if_neg (by omega)
          unfold LKeep.at siSt7 siCells
          rw [e1, e2]; rfl
      · rw [ex, ew, vP y.1 (by omega)]
        refine ⟨⟨by omega, by omega⟩, ⟨rfl, c5 y.1 hy0⟩, ⟨by omega, by omega⟩, rfl, (y.1 + 1, y.2.1, y.2.2), hy0, ?_, by show K - (y.1 + 1) < K - a.1; omega⟩
        rfl
    · cases e; exact hp.elim
end Go.Proofs.YtdnbckfhfhfkoaaGreatDoor

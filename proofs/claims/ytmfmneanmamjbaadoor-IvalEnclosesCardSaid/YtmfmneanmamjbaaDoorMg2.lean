/-
Dyadic numbers: their one form, sums, products, cuts, order. Plain: no program in sight.
Symbolic execution, sixteenth part: functions of bools, numbers, words, dyadic numbers and intervals; what they are shown to answer.
Types, and the words of packages limbs and ulpref03: out of their contracts.
Package raw: numbers, first part.
Package raw: numbers, second part.
Package raw: intervals.
Dyadic numbers: sizes of what is reckoned. Plain.
Package raw: intervals, reckoned with.
Symbolic execution, seventeenth part: words told by patterns; words that forget which memory is new; what can be known of arguments.
Package ival: the words of its functions that reckon with nothing but their arguments.
Package ival: the words of all its functions.
Dyadic numbers as rational numbers: what is reckoned, and order. Plain.
-/
import Derived.Test.YtmfmneanmamjbaaDoorMg1
import Derived.Test.YtmfmneanmamjbaaDoorMg0
namespace Go.Proofs.YtmfmneanmamjbaaDoor
open Go.RowKit

/-- A dyadic number as it stands: a sign, words, an exponent. -/
structure Dx where
  neg : Bool
  xs : List Int
  e : Int
/-- The amount over the exponent. -/
def Dx.m (d : Dx) : Int := val d.xs
/-- The one form. -/
def mkD (neg : Bool) (m e : Int) : Dx := if m = 0 then ⟨false, [], 0⟩ else ⟨neg, ws (m / 2 ^ tz m), e + tz m⟩
theorem tz_small {xs : List Int} (hw : Words xs) (hl : xs.length ≤ 17592186044415) : tz (val xs) ≤ 1125899906842560 := by
  have h0 := val_nonneg hw
  by_cases hp : 0 < val xs
  · have := tz_lt_blen hp
    have := blen_small hw hl
    omega
  · rw [show val xs = 0 from by omega, tz_zero]; omega
/-- Is it 0? -/
def Dx.zeroB (d : Dx) : Bool := decide (d.m = 0)
/-- -1, 0, 1. -/
def Dx.sgn (d : Dx) : Int := if d.m = 0 then 0 else if d.neg then -1 else 1
/-- Are words and exponent few enough? -/
def Dx.fitsB (d : Dx) : Bool := !greatB d.m && decide (-32768 ≤ d.e) && decide (d.e ≤ 32768)
/-- A number of no great size. -/
def Dx.Sm (N : Nat) (d : Dx) : Prop := blen d.m ≤ N ∧ -(N : Int) ≤ d.e ∧ d.e ≤ N
theorem ws_len_blen {n : Int} (h : 0 ≤ n) : 64 * (ws n).length ≤ blen n + 63 := by
  by_cases h0 : 0 < n
  · have := blen_last h0
    have h1 := ws_last_ne h0
    have h2 := (words_ws n).nth ((ws n).length - 1)
    have := blen_pos (n := nth (ws n) ((ws n).length - 1)) (by have := h2.1; omega)
    have := ws_len_pos h0
    omega
  · rw [ws_nonpos (by omega)]; simp
/-- The product. -/
def timesD (a b : Dx) : Dx := mkD (!(a.neg == b.neg)) (a.m * b.m) (a.e + b.e)
/-- The one form of a number. -/
def oneD (d : Dx) : Dx := mkD d.neg d.m d.e
/-- The number with the other sign. -/
def negD (d : Dx) : Dx := mkD (!d.neg) d.m d.e
/-- The amount with its sign. -/
def Dx.sm (d : Dx) : Int := if d.neg then -d.m else d.m
/-- A whole number times a power of 2. -/
def mkS (s e : Int) : Dx := mkD (decide (s < 0)) (s.natAbs : Int) e
/-- The sum of two numbers in their one form. -/
def plusX (x y : Dx) : Dx :=
  if x.m = 0 then y else if y.m = 0 then x else mkS (x.sm * 2 ^ (x.e - min x.e y.e).toNat + y.sm * 2 ^ (y.e - min x.e y.e).toNat) (min x.e y.e)
def plusD (a b : Dx) : Dx := plusX (oneD a) (oneD b)
theorem mkD_zero (neg : Bool) (e : Int) : mkD neg 0 e = ⟨false, [], 0⟩ := by unfold mkD; rw [if_pos rfl]
theorem mkD_m {neg : Bool} {m e : Int} (h : 0 ≤ m) : (mkD neg m e).m = m / 2 ^ tz m := by
  unfold mkD Dx.m
  split
  · rename_i h0; rw [h0]; simp [val]
  · exact val_ws (Int.ediv_nonneg h (by have := two_pow_pos (tz m); omega))
theorem tz_div {m : Int} (h : 0 < m) : m = 2 ^ tz m * (m / 2 ^ tz m) ∧ 0 < m / 2 ^ tz m := by
  obtain ⟨k, hk, e⟩ := tz_spec h
  have p := two_pow_pos (tz m)
  have e2 : m / 2 ^ tz m = 2 * k + 1 := by
    conv => lhs; lhs; rw [e]
    exact Int.mul_ediv_cancel_left _ (by omega)
  rw [e2]; exact ⟨e, by omega⟩
theorem mkD_m_zero {neg : Bool} {m e : Int} (h : 0 ≤ m) : (mkD neg m e).m = 0 ↔ m = 0 := by
  rw [mkD_m h]
  constructor
  · intro h0
    by_cases hp : 0 < m
    · have := (tz_div hp).2; omega
    · omega
  · rintro rfl; simp
theorem mkD_words (neg : Bool) (m e : Int) : Words (mkD neg m e).xs := by
  unfold mkD; split
  · exact Words.nil
  · exact words_ws _
theorem mkD_ws {neg : Bool} {m e : Int} (h : 0 ≤ m) : (mkD neg m e).xs = ws (mkD neg m e).m := by
  rw [mkD_m h]; unfold mkD; split
  · rename_i h0; rw [h0]; simp [ws_zero]
  · rfl
theorem mkD_sm {neg : Bool} {m e : Int} {N M : Nat} (h : 0 ≤ m) (hb : blen m ≤ N) (e0 : -(M : Int) ≤ e) (e1 : e ≤ M) : (mkD neg m e).Sm (N + M) := by
  by_cases hp : 0 < m
  · have t := tz_lt_blen hp
    refine ⟨?_, ?_, ?_⟩
    · rw [mkD_m h]
      have := blen_mono (m := m / 2 ^ tz m) (n := m) (Int.ediv_le_self _ h)
      omega
    · unfold mkD; rw [if_neg (by omega)]; show _ ≤ e + (tz m : Int); omega
    · unfold mkD; rw [if_neg (by omega)]; show e + (tz m : Int) ≤ _; omega
  · obtain rfl : m = 0 := by omega
    rw [mkD_zero]; exact ⟨by simp [Dx.m, val, blen], by show _ ≤ (0 : Int); omega, by show (0 : Int) ≤ _; omega⟩
theorem Dx.Sm.mono {N M : Nat} {d : Dx} (h : d.Sm N) (hm : N ≤ M) : d.Sm M := ⟨by have := h.1; omega, by have := h.2.1; omega, by have := h.2.2; omega⟩
theorem plus_same {n : Bool} {X Y e : Int} (_ : 0 ≤ X) (_ : 0 ≤ Y) (hp : 0 < X + Y) : mkD n (X + Y) e = mkS ((if n then -X else X) + (if n then -Y else Y)) e := by
  unfold mkS
  cases n with
  | true =>
    rw [show (decide ((if true = true then -X else X) + (if true = true then -Y else Y) < 0)) = true by simp; omega]
    congr 1
    simp; omega
  | false =>
    rw [show (decide ((if false = true then -X else X) + (if false = true then -Y else Y) < 0)) = false by simp; omega]
    congr 1
    simp; omega
theorem plus_diff {n : Bool} {X Y e : Int} (h : Y ≤ X) : mkD n (X - Y) e = mkS ((if n then -X else X) + (if !n then -Y else Y)) e := by
  unfold mkS
  by_cases hz : X = Y
  · subst hz
    rw [Int.sub_self, mkD_zero]
    cases n <;> simp [mkD_zero, Int.add_right_neg, Int.add_left_neg]
  · cases n with
    | true =>
      rw [show (decide ((if true = true then -X else X) + (if (!true) = true then -Y else Y) < 0)) = true by simp; omega]
      congr 1
      simp; omega
    | false =>
      rw [show (decide ((if false = true then -X else X) + (if (!false) = true then -Y else Y) < 0)) = false by simp; omega]
      congr 1
      simp; omega
theorem sm_mul (n : Bool) (m p : Int) : (if n then -m else m) * p = if n then -(m * p) else m * p := by
  cases n <;> simp [Int.neg_mul]

theorem scaled_len {m : Int} {k : Nat} (h : 0 < m) (hb : blen m ≤ 137438953472) (hk : k ≤ 274877906944) : 0 < m * 2 ^ k ∧ (ws (m * 2 ^ k)).length ≤ 17592186044414 := by
  have p := two_pow_pos k
  have h1 := Int.mul_pos h p
  refine ⟨h1, ?_⟩
  have := ws_len_blen (n := m * 2 ^ k) (by omega)
  rw [blen_mul_pow h] at this
  omega
theorem plus_parts {x y : Dx} (hx : 0 ≤ x.m) (hy : 0 ≤ y.m) (hx0 : x.m ≠ 0) (hy0 : y.m ≠ 0) (sx : x.Sm 137438953472) (sy : y.Sm 137438953472) :
    ∃ X Y mn : Int, x.m * 2 ^ (x.e - min x.e y.e).toNat = X ∧ y.m * 2 ^ (y.e - min x.e y.e).toNat = Y ∧ min x.e y.e = mn ∧ 0 < X ∧ 0 < Y ∧ (ws X).length ≤ 17592186044414 ∧ (ws Y).length ≤ 17592186044414 ∧
      -4611686018427387904 ≤ mn ∧ mn ≤ 4611686018427387904 ∧ (x.neg = y.neg → plusX x y = mkD x.neg (X + Y) mn) ∧ (x.neg ≠ y.neg → Y ≤ X → plusX x y = mkD x.neg (X - Y) mn) ∧ (x.neg ≠ y.neg → X ≤ Y → plusX x y = mkD y.neg (Y - X) mn) := by
  obtain ⟨s1, s2, s3⟩ := sx
  obtain ⟨s4, s5, s6⟩ := sy
  have l1 := scaled_len (m := x.m) (k := (x.e - min x.e y.e).toNat) (by omega) s1 (by omega)
  have l2 := scaled_len (m := y.m) (k := (y.e - min x.e y.e).toNat) (by omega) s4 (by omega)
  have e0 : plusX x y = mkS ((if x.neg then -(x.m * 2 ^ (x.e - min x.e y.e).toNat) else x.m * 2 ^ (x.e - min x.e y.e).toNat) + (if y.neg then -(y.m * 2 ^ (y.e - min x.e y.e).toNat) else y.m * 2 ^ (y.e - min x.e y.e).toNat)) (min x.e y.e) := by
    unfold plusX; rw [if_neg hx0, if_neg hy0]; unfold Dx.sm; rw [sm_mul, sm_mul]
  refine ⟨_, _, _, rfl, rfl, rfl, l1.1, l2.1, l1.2, l2.2, by omega, by omega, ?_, ?_, ?_⟩
  · intro h
    rw [e0, ← h]; exact (plus_same (by omega) (by omega) (by omega)).symm
  · intro h hle
    have : y.neg = !x.neg := by cases hxn : x.neg <;> cases hyn : y.neg <;> simp_all
    rw [e0, this]; exact (plus_diff hle).symm
  · intro h hle
    have : x.neg = !y.neg := by cases hxn : x.neg <;> cases hyn : y.neg <;> simp_all
    rw [e0, this, Int.add_comm]; exact (plus_diff hle).symm
/-- The difference. -/
def lessD (a b : Dx) : Dx := plusD a (negD b)
theorem negD_sm {d : Dx} {N : Nat} (h : d.Sm N) (hm : 0 ≤ d.m) : (negD d).Sm (N + N) := mkD_sm hm h.1 h.2.1 h.2.2
/-- An amount, doubled, with a last bit that tells whether anything was left. -/
def stickyM (a : Int) (more : Bool) : Int := a * 2 + if more then 1 else 0
/-- The next number of at most p bits, down or up, of one in its one form. -/
def cutX (x : Dx) (p : Int) (up : Bool) : Dx :=
  if (blen x.m : Int) - p ≤ 0 then x else mkD x.neg (x.m / 2 ^ ((blen x.m : Int) - p).toNat + if up == x.neg then 0 else 1) (x.e + ((blen x.m : Int) - p))
def cutD (d : Dx) (p : Int) (up : Bool) : Dx := cutX (oneD d) p up

/-- The amount with its sign, over the exponent mn. -/
def Dx.scl (d : Dx) (mn : Int) : Int := d.sm * 2 ^ (d.e - mn).toNat
/-- -1, 0, 1: two numbers held against each other. -/
def cmpD (a b : Dx) : Int := cmpI (a.scl (min a.e b.e)) (b.scl (min a.e b.e))
theorem scl_sgn {d : Dx} (h : 0 ≤ d.m) (mn : Int) : (d.sgn = 0 ∧ d.scl mn = 0) ∨ (d.sgn = 1 ∧ d.neg = false ∧ 0 < d.m ∧ d.scl mn = d.m * 2 ^ (d.e - mn).toNat ∧ 0 < d.m * 2 ^ (d.e - mn).toNat) ∨ (d.sgn = -1 ∧ d.neg = true ∧ 0 < d.m ∧ d.scl mn = -(d.m * 2 ^ (d.e - mn).toNat) ∧ 0 < d.m * 2 ^ (d.e - mn).toNat) := by
  by_cases h0 : d.m = 0
  · left; unfold Dx.sgn Dx.scl Dx.sm; rw [if_pos h0, h0]; simp
  · have hp : 0 < d.m := by omega
    have hq := Int.mul_pos hp (two_pow_pos (d.e - mn).toNat)
    cases hn : d.neg with
    | false => right; left; unfold Dx.sgn Dx.scl Dx.sm; rw [if_neg h0, hn]; simp [hp, hq]
    | true => right; right; unfold Dx.sgn Dx.scl Dx.sm; rw [if_neg h0, hn]; simp [hp, hq, Int.neg_mul]
theorem sgn_cases {d : Dx} : d.sgn = 0 ∨ d.sgn = 1 ∨ d.sgn = -1 := by
  unfold Dx.sgn; split
  · left; rfl
  · split
    · right; right; rfl
    · right; left; rfl
theorem cmpD_lt {a b : Dx} (ha : 0 ≤ a.m) (hb : 0 ≤ b.m) (h : a.sgn < b.sgn) : cmpD a b = -1 := by
  refine cmpI_of_lt ?_
  rcases scl_sgn ha (min a.e b.e) with ⟨h1, h2⟩ | ⟨h1, _, _, h2, h3⟩ | ⟨h1, _, _, h2, h3⟩ <;> rcases scl_sgn hb (min a.e b.e) with ⟨k1, k2⟩ | ⟨k1, _, _, k2, k3⟩ | ⟨k1, _, _, k2, k3⟩ <;> omega
theorem cmpD_gt {a b : Dx} (ha : 0 ≤ a.m) (hb : 0 ≤ b.m) (h : b.sgn < a.sgn) : cmpD a b = 1 := by
  refine cmpI_of_gt ?_
  rcases scl_sgn ha (min a.e b.e) with ⟨h1, h2⟩ | ⟨h1, _, _, h2, h3⟩ | ⟨h1, _, _, h2, h3⟩ <;> rcases scl_sgn hb (min a.e b.e) with ⟨k1, k2⟩ | ⟨k1, _, _, k2, k3⟩ | ⟨k1, _, _, k2, k3⟩ <;> omega
theorem cmpD_zero {a b : Dx} (ha : 0 ≤ a.m) (hb : 0 ≤ b.m) (h : a.sgn = 0) (h' : b.sgn = 0) : cmpD a b = 0 := by
  have e : a.scl (min a.e b.e) = b.scl (min a.e b.e) := by
    rcases scl_sgn ha (min a.e b.e) with ⟨h1, h2⟩ | ⟨h1, _, _, h2, h3⟩ | ⟨h1, _, _, h2, h3⟩ <;> rcases scl_sgn hb (min a.e b.e) with ⟨k1, k2⟩ | ⟨k1, _, _, k2, k3⟩ | ⟨k1, _, _, k2, k3⟩ <;> omega
  unfold cmpD; rw [e, cmpI_self]
/-- Both signs alike, no 0: the amounts decide. -/
theorem cmpD_same {a b : Dx} (ha : 0 ≤ a.m) (hb : 0 ≤ b.m) (h : a.sgn = b.sgn) (h0 : a.sgn ≠ 0) :
    0 < a.m ∧ 0 < b.m ∧ cmpD a b = a.sgn * cmpI (a.m * 2 ^ (a.e - min a.e b.e).toNat) (b.m * 2 ^ (b.e - min a.e b.e).toNat) := by
  unfold cmpD
  rcases scl_sgn ha (min a.e b.e) with ⟨h1, h2⟩ | ⟨h1, _, p1, h2, h3⟩ | ⟨h1, _, p1, h2, h3⟩ <;> rcases scl_sgn hb (min a.e b.e) with ⟨k1, k2⟩ | ⟨k1, _, p2, k2, k3⟩ | ⟨k1, _, p2, k2, k3⟩ <;> try omega
  · refine ⟨p1, p2, ?_⟩; rw [h1, h2, k2]; omega
  · refine ⟨p1, p2, ?_⟩; rw [h1, h2, k2]
    generalize a.m * 2 ^ (a.e - min a.e b.e).toNat = A
    generalize b.m * 2 ^ (b.e - min a.e b.e).toNat = B
    unfold cmpI
    split <;> split <;> (try split) <;> (try split) <;> omega
theorem cmpI_blen {A B : Int} (_ : 0 < A) (hb : 0 < B) (h : blen A < blen B) : A < B := by
  have h1 := blen_lt A
  have h2 := blen_ge hb
  have := two_pow_le (j := blen A) (k := blen B - 1) (by omega)
  omega
theorem cmpD_top {a b : Dx} (ha : 0 ≤ a.m) (hb : 0 ≤ b.m) (h : a.sgn = b.sgn) (h0 : a.sgn ≠ 0) :
    (a.e + blen a.m - 1 < b.e + blen b.m - 1 → cmpD a b = -a.sgn) ∧ (b.e + blen b.m - 1 < a.e + blen a.m - 1 → cmpD a b = a.sgn) := by
  obtain ⟨p1, p2, e⟩ := cmpD_same ha hb h h0
  have q1 := Int.mul_pos p1 (two_pow_pos (a.e - min a.e b.e).toNat)
  have q2 := Int.mul_pos p2 (two_pow_pos (b.e - min a.e b.e).toNat)
  have l1 := blen_mul_pow p1 (a.e - min a.e b.e).toNat
  have l2 := blen_mul_pow p2 (b.e - min a.e b.e).toNat
  rw [e]
  refine ⟨fun hlt => ?_, fun hlt => ?_⟩
  · rw [cmpI_of_lt (cmpI_blen q1 q2 (by omega))]; omega
  · rw [cmpI_of_gt (cmpI_blen q2 q1 (by omega))]; omega
theorem cmpI_mul {A B p : Int} (hp : 0 < p) : cmpI (A * p) (B * p) = cmpI A B := by
  rcases Int.lt_trichotomy A B with h | h | h
  · rw [cmpI_of_lt h, cmpI_of_lt (Int.mul_lt_mul_of_pos_right h hp)]
  · rw [h, cmpI_self, cmpI_self]
  · rw [cmpI_of_gt h, cmpI_of_gt (Int.mul_lt_mul_of_pos_right h hp)]
theorem one_scale {a : Dx} (h : 0 < a.m) {mn mn' : Int} (h1 : mn ≤ mn') (h2 : mn' ≤ (oneD a).e) : a.e ≤ (oneD a).e ∧ (mn ≤ a.e → a.m * 2 ^ (a.e - mn).toNat = (oneD a).m * 2 ^ ((oneD a).e - mn').toNat * 2 ^ (mn' - mn).toNat) := by
  have e1 : (oneD a).e = a.e + tz a.m := by unfold oneD mkD; rw [if_neg (by omega)]
  have e2 : (oneD a).m = a.m / 2 ^ tz a.m := mkD_m (by omega)
  obtain ⟨e3, p3⟩ := tz_div h
  refine ⟨by omega, fun h3 => ?_⟩
  rw [e2]
  rw [e1] at h2 ⊢
  generalize a.m / 2 ^ tz a.m = k at *
  conv => lhs; lhs; rw [e3]
  rw [Int.mul_comm (2 ^ tz a.m) k, Int.mul_assoc, Int.mul_assoc, ← Int.pow_add, ← Int.pow_add]
  congr 2; omega
theorem one_m_zero {a : Dx} (ha : 0 ≤ a.m) : (oneD a).m = 0 ↔ a.m = 0 := mkD_m_zero ha
theorem one_sgn (a : Dx) (ha : 0 ≤ a.m) : (oneD a).sgn = a.sgn := by
  unfold Dx.sgn
  by_cases h : a.m = 0
  · rw [if_pos h, if_pos ((one_m_zero ha).2 h)]
  · rw [if_neg h, if_neg (fun h' => h ((one_m_zero ha).1 h'))]
    have : (oneD a).neg = a.neg := by unfold oneD mkD; rw [if_neg h]
    rw [this]
theorem cmpD_one {a b : Dx} (ha : 0 ≤ a.m) (hb : 0 ≤ b.m) (h : a.sgn = b.sgn) (h0 : a.sgn ≠ 0) :
    cmpD a b = a.sgn * cmpI ((oneD a).m * 2 ^ ((oneD a).e - min (oneD a).e (oneD b).e).toNat) ((oneD b).m * 2 ^ ((oneD b).e - min (oneD a).e (oneD b).e).toNat) := by
  obtain ⟨p1, p2, e⟩ := cmpD_same ha hb h h0
  have g1 := (one_scale p1 (mn := min a.e b.e) (mn' := (oneD a).e) (by have : a.e ≤ (oneD a).e := by { unfold oneD mkD; rw [if_neg (by omega)]; show _ ≤ a.e + (tz a.m : Int); omega }
                                                                       omega) (by omega)).1
  have g2 := (one_scale p2 (mn := min a.e b.e) (mn' := (oneD b).e) (by have : b.e ≤ (oneD b).e := by { unfold oneD mkD; rw [if_neg (by omega)]; show _ ≤ b.e + (tz b.m : Int); omega }
                                                                       omega) (by omega)).1
  rw [e, (one_scale p1 (mn := min a.e b.e) (mn' := min (oneD a).e (oneD b).e) (by omega) (by omega)).2 (by omega), (one_scale p2 (mn := min a.e b.e) (mn' := min (oneD a).e (oneD b).e) (by omega) (by omega)).2 (by omega), cmpI_mul (two_pow_pos _)]
end Go.Proofs.YtmfmneanmamjbaaDoor

namespace Go.Proofs.YtmfmneanmamjbaaDoor
open Go.RowKit

/-- An interval as it stands. -/
structure Vx where
  lo : Dx
  hi : Dx
/-- Kinds of arguments. -/
inductive Ak where
  | b
  | i (k : IntKind)
  | w
  | d
  | v
abbrev Ak.T : Ak → Type
  | .b => Bool
  | .i _ => Int
  | .w => List Int
  | .d => Dx
  | .v => Vx
/-- Words as they can lie in memory. -/
def WfW (xs : List Int) : Prop := Words xs ∧ xs.length ≤ 17592186044415
def Dx.Wf (d : Dx) : Prop := WfW d.xs
def Vx.Wf (v : Vx) : Prop := v.lo.Wf ∧ v.hi.Wf
def Ak.wf : (k : Ak) → k.T → Prop
  | .b, _ => True
  | .i _, _ => True
  | .w, xs => WfW xs
  | .d, x => Dx.Wf x
  | .v, x => Vx.Wf x
def dyL (nw : Bool) (d : Dx) : List At := [.bool d.neg, .words nw d.xs, .int .i64 d.e]
def ivL (nw : Bool) (v : Vx) : List At := [.bool v.lo.neg, .words nw v.lo.xs, .int .i64 v.lo.e, .bool v.hi.neg, .words nw v.hi.xs, .int .i64 v.hi.e]
def Ak.enc : (k : Ak) → k.T → Sv
  | .b, x => .one (.bool x)
  | .i q, n => .one (.int q n)
  | .w, xs => .one (.words false xs)
  | .d, x => .agg (dyL false x)
  | .v, x => .agg (ivL false x)
def decB : Sv → Option Bool
  | .one (.bool x) => some x
  | _ => none
def decI (q : IntKind) : Sv → Option Int
  | .one (.int q' n) => match ikBeq q q' with | true => some n | false => none
  | _ => none
def decW : Sv → Option (List Int)
  | .one (.words _ xs) => some xs
  | _ => none
def decD : Sv → Option Dx
  | .agg [.bool n, .words _ xs, .int .i64 e] => some ⟨n, xs, e⟩
  | _ => none
def decV : Sv → Option Vx
  | .agg [.bool n, .words _ xs, .int .i64 e, .bool n', .words _ xs', .int .i64 e'] => some ⟨⟨n, xs, e⟩, ⟨n', xs', e'⟩⟩
  | _ => none
def Ak.dec : (k : Ak) → Sv → Option k.T
  | .b => decB
  | .i q => decI q
  | .w => decW
  | .d => decD
  | .v => decV
/-- A function of arguments of such kinds. -/
def AFun : List Ak → Type
  | [] => Option Prop × Tv
  | k :: ks => k.T → AFun ks
def noSpec : Option Prop × Tv := (some False, .tup [])
def specK : (ks : List Ak) → AFun ks → Spec
  | [], g, [] => g
  | [], _, _ :: _ => noSpec
  | _ :: _, _, [] => noSpec
  | k :: ks, g, s :: l => match k.dec s with
    | some x => specK ks (g x) l
    | none => noSpec
theorem rep_wf {C : Base} {w : World} {v : Value} {nw : Bool} {xs : List Int} (h : Rep C noBox w v (.words nw xs)) : WfW xs ∧ Rep C noBox w v (.words false xs) := by
  cases h with
  | words h =>
    refine ⟨?_, .words (h.mono fun g _ hD => ⟨hD.1, by simp⟩)⟩
    obtain ⟨A, c, _, _, h2, h3, _⟩ := h
    exact ⟨h3, h2.2⟩
theorem dec_ok {C : Base} {w : World} {v : Value} {s : Sv} {k : Ak} {x : k.T} (hd : k.dec s = some x) (hr : RepS C noBox w v s) : k.wf x ∧ RepS C noBox w v (k.enc x) := by
  cases k with
  | b =>
    have hd : decB s = some x := hd
    unfold decB at hd
    split at hd
    · cases hd; exact ⟨trivial, hr⟩
    · simp at hd
  | i q =>
    have hd : decI q s = some x := hd
    unfold decI at hd
    split at hd
    · split at hd
      · rename_i hq; cases hd; rw [← ikBeq_ok hq] at hr; exact ⟨trivial, hr⟩
      · simp at hd
    · simp at hd
  | w =>
    have hd : decW s = some x := hd
    unfold decW at hd
    split at hd
    · cases hd; exact rep_wf hr
    · simp at hd
  | d =>
    have hd : decD s = some x := hd
    unfold decD at hd
    split at hd
    · cases hd
      obtain ⟨vs, rfl, hl⟩ := hr
      match vs, hl with
      | [a, b, c], ⟨h1, h2, h3, _⟩ =>
        obtain ⟨h4, h5⟩ := rep_wf h2
        exact ⟨h4, _, rfl, h1, h5, h3, trivial⟩
    · simp at hd
  | v =>
    have hd : decV s = some x := hd
    unfold decV at hd
    split at hd
    · cases hd
      obtain ⟨vs, rfl, hl⟩ := hr
      match vs, hl with
      | [a, b, c, a', b', c'], ⟨h1, h2, h3, k1, k2, k3, _⟩ =>
        obtain ⟨h4, h5⟩ := rep_wf h2
        obtain ⟨k4, k5⟩ := rep_wf k2
        exact ⟨⟨h4, k4⟩, _, rfl, h1, h5, h3, k1, k5, k3, trivial⟩
    · simp at hd
/-- What is to be shown of a function: for arguments of its kinds its run comes to what its word says. -/
def VcK (E : Env) (fn : Func) : (ks : List Ak) → AFun ks → (List Sv → List Sv) → Prop
  | [], g, acc => (match g.1 with | none => True | some p => p) → ∃ inv fuel, execF E inv fuel fn (acc []) (fun t => t = g.2)
  | k :: ks, g, acc => ∀ x : k.T, k.wf x → VcK E fn ks (g x) (fun r => acc (k.enc x :: r))
theorem specK_ok {P : Program} {E : Env} (hE : EnvOk P E) (hm : P.follows .mixedOrders = true) {f : FuncId} {fn : Func} {c : Code} (hf : P.funcs[f]? = some fn) (hb : fn.body = some c) (hname : (fn.name == "runtime.NumGoroutine") = false) {ks : List Ak} {g : AFun ks} (hk : ks.length ≤ fn.ntmps)
    (h : VcK E fn ks g id) : SpecOk P f (specK ks g) := by
  refine ⟨⟨fn, c, hf, hname, hb⟩, fun C w vs l hC hX hT hvs hp => ?_⟩
  -- the arguments one by one
  have key : ∀ (ks : List Ak) (g : AFun ks) (acc : List Sv → List Sv) (l : List Sv) (vs : List Value), VcK E fn ks g acc → RepSs C noBox w vs l → (match (specK ks g l).1 with | none => True | some p => p) →
      l.length = ks.length ∧ ∃ l', RepSs C noBox w vs l' ∧ l'.length = ks.length ∧ ∃ inv fuel, execF E inv fuel fn (acc l') (fun t => t = (specK ks g l).2) := by
    intro ks
    induction ks with
    | nil =>
      intro g acc l vs h hr hp
      cases l with
      | nil => exact ⟨rfl, [], hr, rfl, h hp⟩
      | cons => exact hp.elim
    | cons k ks ih =>
      intro g acc l vs h hr hp
      cases l with
      | nil => exact hp.elim
      | cons s l =>
        cases vs with
        | nil => exact hr.elim
        | cons v vs =>
          have e : specK (k :: ks) g (s :: l) = (match k.dec s with | some x => specK ks (g x) l | none => noSpec) := rfl
          rw [e] at hp ⊢
          cases hd : k.dec s with
          | none => rw [hd] at hp; exact hp.elim
          | some x =>
            rw [hd] at hp
            obtain ⟨h1, h2⟩ := dec_ok hd hr.1
            obtain ⟨h3, l', h4, h5, h6⟩ := ih (g x) _ l vs (h x h1) hr.2 hp
            exact ⟨by simp [h3], k.enc x :: l', ⟨h2, h4⟩, by simp [h5], h6⟩
  obtain ⟨h1, l', h2, h3, inv, fuel, h4⟩ := key ks g id l vs h hvs hp
  refine (execF_ok hE hm hf h4 hC hX hT h2 (by rw [hvs.length, h1]; exact hk)).mono ?_
  rintro e w' ⟨v, t, rfl, rfl, h1, h2⟩
  exact ⟨v, rfl, h1, h2⟩

/-! ### A function's word, out of a contract that was shown by hand. -/
/-- What a contract by hand is to say. -/
def HandK (P : Program) (f : FuncId) : (ks : List Ak) → AFun ks → (C : Base) → (w : World) → (List Value → List Value) → Prop
  | [], g, C, w, acc => (match g.1 with | none => True | some p => p) → Calls P f (acc []).toArray w fun e w' => ∃ v, e = .returned v ∧ RepT C noBox w' v g.2 ∧ Below w.heap.size w w'
  | k :: ks, g, C, w, acc => ∀ x : k.T, k.wf x → ∀ v, RepS C noBox w v (k.enc x) → HandK P f ks (g x) C w (fun r => acc (v :: r))
theorem handK_ok {P : Program} {f : FuncId} {fn : Func} {c : Code} (hf : P.funcs[f]? = some fn) (hb : fn.body = some c) (hname : (fn.name == "runtime.NumGoroutine") = false) {ks : List Ak} {g : AFun ks}
    (h : ∀ (C : Base) (w : World), C.n = w.heap.size → (∀ g, C.X g → g < C.n) → Tab w → HandK P f ks g C w id) : SpecOk P f (specK ks g) := by
  refine ⟨⟨fn, c, hf, hname, hb⟩, fun C w vs l hC hX hT hvs hp => ?_⟩
  have key : ∀ (ks : List Ak) (g : AFun ks) (acc : List Value → List Value) (l : List Sv) (vs : List Value), HandK P f ks g C w acc → RepSs C noBox w vs l → (match (specK ks g l).1 with | none => True | some p => p) →
      Calls P f (acc vs).toArray w fun e w' => ∃ v, e = .returned v ∧ RepT C noBox w' v (specK ks g l).2 ∧ Below w.heap.size w w' := by
    intro ks
    induction ks with
    | nil =>
      intro g acc l vs h hr hp
      cases l with
      | nil => cases vs with | nil => exact h hp | cons => exact hr.elim
      | cons => exact hp.elim
    | cons k ks ih =>
      intro g acc l vs h hr hp
      cases l with
      | nil => exact hp.elim
      | cons s l =>
        cases vs with
        | nil => exact hr.elim
        | cons v vs =>
          have e : specK (k :: ks) g (s :: l) = (match k.dec s with | some x => specK ks (g x) l | none => noSpec) := rfl
          rw [e] at hp ⊢
          cases hd : k.dec s with
          | none => rw [hd] at hp; exact hp.elim
          | some x =>
            rw [hd] at hp
            obtain ⟨h1, h2⟩ := dec_ok hd hr.1
            exact ih (g x) _ l vs (h x h1 v h2) hr.2 hp
  exact key ks g id l vs (h C w hC hX hT) hvs hp
section
variable {C : Base} {w w' : World} {v : Value}
theorem rep_natAt {nw : Bool} {xs : List Int} (h : RepS C noBox w v (.one (.words nw xs))) : NatAt 0 w v xs := by
  cases (show Rep C noBox w v (.words nw xs) from h) with
  | words h => exact (h.mono (D' := fun g => 0 ≤ g) fun g _ _ => Nat.zero_le g).nat
/-- New words. -/
theorem rep_new (hC : C.n = w.heap.size) (hX : ∀ g, C.X g → g < C.n) {xs : List Int} (h : NatAt w.heap.size w' v xs) : Rep C noBox w' v (.words true xs) :=
  .words (h.isIn.mono fun g _ hD => ⟨⟨by simp, fun hx => by have := hX g hx; omega⟩, fun _ => by rw [hC]; exact hD⟩)
theorem repS_int {k : IntKind} {n : Int} (h : RepS C noBox w v (.one (.int k n))) : v = .int k n := rep_int (A := noBox) h
theorem repS_bool {b : Bool} (h : RepS C noBox w v (.one (.bool b))) : v = .bool b := rep_bool (A := noBox) h
/-- What a function that answers one number, in new memory, is told by. -/
theorem nat_back {P : Program} {f : FuncId} {args : Array Value} {xs : List Int} (hC : C.n = w.heap.size) (hX : ∀ g, C.X g → g < C.n) (h : Calls P f args w (RNat w xs)) :
    Calls P f args w fun e w' => ∃ v, e = .returned v ∧ RepT C noBox w' v (.sv (.one (.words true xs))) ∧ Below w.heap.size w w' :=
  h.mono fun _ _ ⟨v, e, h1, h2⟩ => ⟨v, e, rep_new hC hX h1, h2⟩
theorem int_back {P : Program} {f : FuncId} {args : Array Value} {k : IntKind} {n : Int} (h : Calls P f args w (RVal w (.int k n))) :
    Calls P f args w fun e w' => ∃ v, e = .returned v ∧ RepT C noBox w' v (.sv (.one (.int k n))) ∧ Below w.heap.size w w' :=
  h.mono fun _ _ ⟨e, h2⟩ => ⟨_, e, Rep.int k n, h2⟩
theorem bool_back {P : Program} {f : FuncId} {args : Array Value} {b : Bool} (h : Calls P f args w (RVal w (.bool b))) :
    Calls P f args w fun e w' => ∃ v, e = .returned v ∧ RepT C noBox w' v (.sv (.one (.bool b))) ∧ Below w.heap.size w w' :=
  h.mono fun _ _ ⟨e, h2⟩ => ⟨_, e, Rep.bool b, h2⟩
end
/-- Words and their answers, one behind the other. -/
def SpecsOk (P : Program) : List (FuncId × Spec) → Prop
  | [] => True
  | p :: l => SpecOk P p.1 p.2 ∧ SpecsOk P l
theorem SpecsOk.mem {P : Program} : ∀ {l : List (FuncId × Spec)}, SpecsOk P l → ∀ p ∈ l, SpecOk P p.1 p.2
  | [], _, p, h => by simp at h
  | _ :: l, h, p, hp => by
    rcases List.mem_cons.1 hp with rfl | hp
    · exact h.1
    · exact SpecsOk.mem h.2 p hp
theorem SpecsOk.app {P : Program} : ∀ {l l' : List (FuncId × Spec)}, SpecsOk P l → SpecsOk P l' → SpecsOk P (l ++ l')
  | [], _, _, k => k
  | _ :: _, _, h, k => ⟨h.1, SpecsOk.app h.2 k⟩
def RowsOk (P : Program) : List TyRow → Prop
  | [] => True
  | r :: l => rowOf P r.id = some r ∧ RowsOk P l
theorem RowsOk.mem {P : Program} : ∀ {l : List TyRow}, RowsOk P l → ∀ r ∈ l, rowOf P r.id = some r
  | [], _, p, h => by simp at h
  | _ :: l, h, p, hp => by
    rcases List.mem_cons.1 hp with rfl | hp
    · exact h.1
    · exact RowsOk.mem h.2 p hp
theorem envOk {P : Program} {T : List TyRow} {S : List (FuncId × Spec)} (h : RowsOk P T) (k : SpecsOk P S) : EnvOk P ⟨T, S⟩ := ⟨h.mem, k.mem⟩
end Go.Proofs.YtmfmneanmamjbaaDoor

namespace Go.Proofs.YtmfmneanmamjbaaDoor
open Go.RowKit

def zD : List At := [.bool false, .words true [], .int .i64 0]
def tyD : TyRow := ⟨25, 3, true, zD, .struct [(0, 1, false), (1, 1, false), (2, 1, false)]⟩
def zV : List At := [.bool false, .words true [], .int .i64 0, .bool false, .words true [], .int .i64 0]
def tyV : TyRow := ⟨27, 6, true, zV, .struct [(0, 3, true), (3, 3, true)]⟩
def tyInt : TyRow := ⟨3, 1, false, [.int .i64 0], .int .i64⟩
def tyBool : TyRow := ⟨4, 1, false, [.bool false], .bool⟩
def tyNat : TyRow := ⟨23, 1, false, [.words true []], .slice 1 false true⟩
def tyWs : TyRow := ⟨22, 1, false, [.words true []], .slice 1 false true⟩
def tyU64 : TyRow := ⟨36, 1, false, [.int .u64 0], .int .u64⟩
def tyI64 : TyRow := ⟨2, 1, false, [.int .i64 0], .int .i64⟩
def tyErr : TyRow := ⟨30, 1, false, [.int .i64 0], .int .i64⟩
def tyDs : TyRow := ⟨83, 1, false, [.words true []], .slice 3 true false⟩
def tyVs : TyRow := ⟨35, 1, false, [.words true []], .slice 6 true false⟩
def tyU8 : TyRow := ⟨5, 1, false, [.int .u8 0], .int .u8⟩
def tys : List TyRow := [tyD, tyV, tyInt, tyBool, tyNat, tyWs, tyErr, tyU64, tyI64, tyDs, tyVs, tyU8]
theorem tys_ok : RowsOk Tryd.prog tys := ⟨by kernel_rfl, by kernel_rfl, by kernel_rfl, by kernel_rfl, by kernel_rfl, by kernel_rfl, by kernel_rfl, by kernel_rfl, by kernel_rfl, by kernel_rfl, by kernel_rfl, by kernel_rfl, trivial⟩
theorem mixed : Tryd.prog.follows .mixedOrders = true := by kernel_rfl
abbrev iT (n : Int) : Tv := .sv (.one (.int .i64 n))
abbrev bT (b : Bool) : Tv := .sv (.one (.bool b))
abbrev wT (xs : List Int) : Tv := .sv (.one (.words true xs))
abbrev dT (d : Dx) : Tv := .sv (.agg (dyL true d))
abbrev vT (v : Vx) : Tv := .sv (.agg (ivL true v))
theorem small_len {xs : List Int} (h : WfW xs) : (ws (val xs)).length ≤ xs.length := ws_length_of h.1

/-! ### Package limbs -/
section
variable {C : Base} {w w' : World} {v : Value}
theorem quiet_back {P : Program} {f : FuncId} {args : Array Value} {v : Value} (h : Calls P f args w fun e w' => e = .returned v ∧ w = w') : Calls P f args w (RVal w v) :=
  h.mono fun _ _ ⟨e, h2⟩ => ⟨e, by rw [h2]; exact .refl _ _⟩
theorem natB_back {P : Program} {f : FuncId} {args : Array Value} {xs : List Int} {b : Bool} (hC : C.n = w.heap.size) (hX : ∀ g, C.X g → g < C.n) (h : Calls P f args w (RNatB w xs b)) :
    Calls P f args w fun e w' => ∃ v, e = .returned v ∧ RepT C noBox w' v (.tup [.one (.words true xs), .one (.bool b)]) ∧ Below w.heap.size w w' :=
  h.mono fun _ _ ⟨v, e, h1, h2⟩ => ⟨_, e, ⟨[v, .bool b], rfl, rep_new hC hX h1, Rep.bool b, trivial⟩, h2⟩
theorem nat2_back {P : Program} {f : FuncId} {args : Array Value} {xs ys : List Int} (hC : C.n = w.heap.size) (hX : ∀ g, C.X g → g < C.n) (h : Calls P f args w (RNat2 w xs ys)) :
    Calls P f args w fun e w' => ∃ v, e = .returned v ∧ RepT C noBox w' v (.tup [.one (.words true xs), .one (.words true ys)]) ∧ Below w.heap.size w w' :=
  h.mono fun _ _ ⟨v, v', e, h1, h2, h3⟩ => ⟨_, e, ⟨[v, v'], rfl, rep_new hC hX h1, rep_new hC hX h2, trivial⟩, h3⟩
theorem natW_back {P : Program} {f : FuncId} {args : Array Value} {xs : List Int} {y : Int} (hC : C.n = w.heap.size) (hX : ∀ g, C.X g → g < C.n) (h : Calls P f args w (RNatW w xs y)) :
    Calls P f args w fun e w' => ∃ v, e = .returned v ∧ RepT C noBox w' v (.tup [.one (.words true xs), .one (.int .u64 y)]) ∧ Below w.heap.size w w' :=
  h.mono fun _ _ ⟨v, e, h1, h2⟩ => ⟨_, e, ⟨[v, .int .u64 y], rfl, rep_new hC hX h1, Rep.int _ _, trivial⟩, h2⟩
end
def lLen : Spec := specK [.w] fun (xs : List Int) => (none, iT (blen (val xs)))
theorem lLen_ok : SpecOk Tryd.prog 134 lLen :=
  handK_ok Tryd.func134 rfl (by decide) fun _ _ _ _ _ => fun _ _ _ h _ => int_back (quiet_back (len_calls (rep_natAt h)))
def lLow : Spec := specK [.w] fun (xs : List Int) => (none, iT (tz (val xs)))
theorem lLow_ok : SpecOk Tryd.prog 131 lLow :=
  handK_ok Tryd.func131 rfl (by decide) fun _ _ _ _ hT => fun _ _ _ h _ => int_back (quiet_back (low_calls hT (rep_natAt h)))
def lOf : Spec := specK [.i .u64] fun (x : Int) => (some (Word x), wT (ws x))
theorem lOf_ok : SpecOk Tryd.prog 140 lOf :=
  handK_ok Tryd.func140 rfl (by decide) fun _ _ hC hX _ => fun _ _ v h hp => by
    obtain rfl := repS_int h
    exact nat_back hC hX (of_calls _ _ hp)
def lCmp : Spec := specK [.w, .w] fun (xs : List Int) (ys : List Int) => (none, iT (cmpI (val xs) (val ys)))
theorem lCmp_ok : SpecOk Tryd.prog 120 lCmp :=
  handK_ok Tryd.func120 rfl (by decide) fun _ _ _ _ _ => fun _ _ _ h _ _ _ h' _ => int_back ((lcmp_calls (rep_natAt h) (rep_natAt h')).mono fun _ _ h => h)
def lAdd : Spec := specK [.w, .w] fun (xs : List Int) (ys : List Int) => (some (xs.length ≤ 17592186044414 ∧ ys.length ≤ 17592186044414), wT (ws (val xs + val ys)))
theorem lAdd_ok : SpecOk Tryd.prog 129 lAdd :=
  handK_ok Tryd.func129 rfl (by decide) fun _ _ hC hX _ => fun _ _ _ h _ _ _ h' hp => nat_back hC hX (ladd_calls (rep_natAt h) (rep_natAt h') hp.1 hp.2)
def lSub : Spec := specK [.w, .w] fun (xs : List Int) (ys : List Int) => (some (val ys ≤ val xs), wT (ws (val xs - val ys)))
theorem lSub_ok : SpecOk Tryd.prog 130 lSub :=
  handK_ok Tryd.func130 rfl (by decide) fun _ _ hC hX _ => fun _ _ _ h _ _ _ h' hp => nat_back hC hX (lsub_calls (rep_natAt h) (rep_natAt h') hp)
def lMul : Spec := specK [.w, .w] fun (xs : List Int) (ys : List Int) => (some ((ws (val xs)).length + (ws (val ys)).length ≤ 17592186044415), wT (ws (val xs * val ys)))
theorem lMul_ok : SpecOk Tryd.prog 136 lMul :=
  handK_ok Tryd.func136 rfl (by decide) fun _ _ hC hX _ => fun _ _ _ h _ _ _ h' hp => nat_back hC hX (lmul_calls (rep_natAt h) (rep_natAt h') hp)
def lShl : Spec := specK [.w, .i .i64] fun (xs : List Int) (n : Int) => (some (0 ≤ n ∧ n ≤ 1099511627776 ∧ (ws (val xs)).length ≤ 8796093022208), wT (ws (val xs * 2 ^ n.toNat)))
theorem lShl_ok : SpecOk Tryd.prog 135 lShl :=
  handK_ok Tryd.func135 rfl (by decide) fun _ _ hC hX _ => fun _ _ _ h n _ v h' hp => by
    obtain rfl := repS_int h'
    have h0 : (0 : Int) ≤ n := hp.1
    exact nat_back hC hX (lshl_calls n (n / 64).toNat (n % 64).toNat (rep_natAt h) hp.1 hp.2.1 (by have h0 : (0 : Int) ≤ n := hp.1; omega) (by omega) hp.2.2)
def lShr : Spec := specK [.w, .i .i64] fun (xs : List Int) (n : Int) => (some (0 ≤ n ∧ n ≤ 9007199254740992), .tup [.one (.words true (ws (val xs / 2 ^ n.toNat))), .one (.bool (lostB (val xs) n.toNat))])
theorem lShr_ok : SpecOk Tryd.prog 132 lShr :=
  handK_ok Tryd.func132 rfl (by decide) fun _ _ hC hX hT => fun _ _ _ h n _ v h' hp => by
    obtain rfl := repS_int h'
    have h0 : (0 : Int) ≤ n := hp.1
    exact natB_back hC hX (lshr_calls n (n / 64).toNat (n % 64).toNat hT (rep_natAt h) hp.1 hp.2 (by have h0 : (0 : Int) ≤ n := hp.1; omega) (by omega))
def lShort : Spec := specK [.w, .i .u64] fun (xs : List Int) (d : Int) => (some (Word d ∧ 0 < d), .tup [.one (.words true (ws (val xs / d))), .one (.int .u64 (val xs % d))])
theorem lShort_ok : SpecOk Tryd.prog 146 lShort :=
  handK_ok Tryd.func146 rfl (by decide) fun _ _ hC hX _ => fun _ _ _ h n _ v h' hp => by
    obtain rfl := repS_int h'
    exact natW_back hC hX (lshort_calls (rep_natAt h) hp.1 hp.2)
def lDiv : Spec := specK [.w, .w] fun (xs : List Int) (ys : List Int) => (some (0 < val ys ∧ (ws (val xs)).length ≤ 8796093022206), .tup [.one (.words true (ws (val xs / val ys))), .one (.words true (ws (val xs % val ys)))])
theorem lDiv_ok : SpecOk Tryd.prog 137 lDiv :=
  handK_ok Tryd.func137 rfl (by decide) fun _ _ hC hX hT => fun _ _ _ h _ _ _ h' hp => nat2_back hC hX (ldiv_calls hT (rep_natAt h) (rep_natAt h') hp.1 hp.2)
def lSqrt : Spec := specK [.w] fun (xs : List Int) => (some ((ws (val xs)).length ≤ 1073741824), .tup [.one (.words true (ws (isq (val xs)))), .one (.words true (ws (val xs - isq (val xs) * isq (val xs))))])
theorem lSqrt_ok : SpecOk Tryd.prog 139 lSqrt :=
  handK_ok Tryd.func139 rfl (by decide) fun _ _ hC hX hT => fun _ _ _ h hp => nat2_back hC hX (lsqrt_calls hT (rep_natAt h) hp)
/-- Part of what was handed in. -/
def lTrim : Spec := specK [.w] fun (xs : List Int) => (none, .sv (.one (.words false (ws (val xs)))))
theorem trim_in {D : Nat → Prop} {w : World} {v : Value} {xs : List Int} (h : NatIn D w v xs) : Calls Tryd.prog 108 #[v] w fun e w' => ∃ v, e = .returned v ∧ NatIn D w v (ws (val xs)) ∧ w = w' := by
  obtain ⟨A, c, rfl, h1, ⟨h2, h2'⟩, h3, h5, h4⟩ := h
  by_cases hp : 0 < xs.length
  · obtain ⟨g, o, rfl, hD, hg, hcell⟩ := h4 hp
    refine (trim_core g o c xs w h1 h2 h2' hcell).mono ?_
    rintro e w' ⟨rfl, rfl⟩
    have hle := trimTo_le xs xs.length
    have htk := take_trimTo h3
    have hlen := trimTo_length h3
    refine ⟨_, rfl, ⟨some ⟨g, o, none⟩, trimTo xs xs.length, by rw [← hlen], by omega, ⟨by omega, by omega⟩, words_ws _, by simp, fun _ => ⟨g, o, rfl, hD, hg, fun j hj => ?_⟩⟩, rfl⟩
    rw [← hlen] at hj
    rw [hcell j (by omega), ← htk, nth_take hj]
  · obtain rfl : xs = [] := List.eq_nil_of_length_eq_zero (by omega)
    refine (trim_empty A c w h2).mono ?_
    rintro e w' ⟨⟨A', rfl⟩, rfl⟩
    refine ⟨_, rfl, ⟨A', 0, by simp [val, ws_zero], by simp [val, ws_zero], ⟨by omega, by simp [val, ws_zero]⟩, words_ws _, fun _ => rfl, fun hx => absurd hx (by simp [val, ws_zero])⟩, rfl⟩
theorem lTrim_ok : SpecOk Tryd.prog 108 lTrim :=
  handK_ok Tryd.func108 rfl (by decide) fun C w hC hX _ => fun xs _ v h _ => by
    cases (show Rep C noBox w v (.words false xs) from h) with
    | words h =>
      refine (trim_in h).mono ?_
      rintro e w' ⟨v, rfl, h, rfl⟩
      exact ⟨v, rfl, Rep.words h, .refl _ _⟩
/-! ### Package ulpref03 -/
def nNorm : Spec := specK [.w] fun (xs : List Int) => (none, wT (ws (val xs)))
theorem nNorm_ok : SpecOk Tryd.prog 90 nNorm :=
  handK_ok Tryd.func90 rfl (by decide) fun _ _ hC hX _ => fun _ _ _ h _ => nat_back hC hX (norm_calls (rep_natAt h))
def nGreat : Spec := specK [.w] fun (xs : List Int) => (none, bT (greatB (val xs)))
theorem nGreat_ok : SpecOk Tryd.prog 82 nGreat :=
  handK_ok Tryd.func82 rfl (by decide) fun _ _ _ _ _ => fun _ _ _ h _ => bool_back (quiet_back (great_calls (rep_natAt h)))
def nOf : Spec := specK [.i .u64] fun (x : Int) => (some (Word x), wT (ws x))
theorem nOf_ok : SpecOk Tryd.prog 101 nOf :=
  handK_ok Tryd.func101 rfl (by decide) fun _ _ hC hX _ => fun _ _ v h hp => by
    obtain rfl := repS_int h
    exact nat_back hC hX (of3_calls _ _ hp)
def nLen : Spec := specK [.w] fun (xs : List Int) => (none, iT (blen (val xs)))
theorem nLen_ok : SpecOk Tryd.prog 91 nLen :=
  handK_ok Tryd.func91 rfl (by decide) fun _ _ _ _ _ => fun _ _ _ h _ => int_back (len3_calls (rep_natAt h))
def nLow : Spec := specK [.w] fun (xs : List Int) => (none, iT (tz (val xs)))
theorem nLow_ok : SpecOk Tryd.prog 92 nLow :=
  handK_ok Tryd.func92 rfl (by decide) fun _ _ _ _ _ => fun _ _ _ h _ => int_back (low3_calls (rep_natAt h))
def nCmp : Spec := specK [.w, .w] fun (xs : List Int) (ys : List Int) => (none, iT (cmpI (val xs) (val ys)))
theorem nCmp_ok : SpecOk Tryd.prog 87 nCmp :=
  handK_ok Tryd.func87 rfl (by decide) fun _ _ _ _ _ => fun _ _ _ h _ _ _ h' _ => int_back (quiet_back (cmp3_calls (rep_natAt h) (rep_natAt h')))
def nSame : Spec := specK [.w, .w] fun (xs : List Int) (ys : List Int) => (none, bT (decide (xs = ys)))
theorem nSame_ok : SpecOk Tryd.prog 107 nSame :=
  handK_ok Tryd.func107 rfl (by decide) fun _ _ _ _ _ => fun _ _ _ h _ _ _ h' _ => bool_back (same3_calls (rep_natAt h) (rep_natAt h'))
def nAdd : Spec := specK [.w, .w] fun (xs : List Int) (ys : List Int) => (some (xs.length ≤ 17592186044414 ∧ ys.length ≤ 17592186044414), wT (ws (val xs + val ys)))
theorem nAdd_ok : SpecOk Tryd.prog 86 nAdd :=
  handK_ok Tryd.func86 rfl (by decide) fun _ _ hC hX _ => fun _ _ _ h _ _ _ h' hp => nat_back hC hX (add3_calls (rep_natAt h) (rep_natAt h') hp.1 hp.2)
def nSub : Spec := specK [.w, .w] fun (xs : List Int) (ys : List Int) => (some (val ys ≤ val xs ∧ xs.length ≤ 17592186044414 ∧ ys.length ≤ 17592186044414), wT (ws (val xs - val ys)))
theorem nSub_ok : SpecOk Tryd.prog 88 nSub :=
  handK_ok Tryd.func88 rfl (by decide) fun _ _ hC hX _ => fun _ _ _ h _ _ _ h' hp => nat_back hC hX (sub3_calls (rep_natAt h) (rep_natAt h') hp.2.1 hp.2.2 hp.1)
def nMul : Spec := specK [.w, .w] fun (xs : List Int) (ys : List Int) => (some ((ws (val xs)).length + (ws (val ys)).length ≤ 17592186044414), wT (ws (val xs * val ys)))
theorem nMul_ok : SpecOk Tryd.prog 89 nMul :=
  handK_ok Tryd.func89 rfl (by decide) fun _ _ hC hX _ => fun _ _ _ h _ _ _ h' hp => nat_back hC hX (mul3_calls (rep_natAt h) (rep_natAt h') hp)
def nShl : Spec := specK [.w, .i .i64] fun (xs : List Int) (n : Int) => (some (0 ≤ n ∧ n ≤ 1099511627776 ∧ xs.length ≤ 8796093022208), wT (ws (val xs * 2 ^ n.toNat)))
theorem nShl_ok : SpecOk Tryd.prog 84 nShl :=
  handK_ok Tryd.func84 rfl (by decide) fun _ _ hC hX _ => fun _ _ _ h n _ v h' hp => by
    obtain rfl := repS_int h'
    exact nat_back hC hX (shl3_calls n (rep_natAt h) hp.1 hp.2.1 hp.2.2)
def nShr : Spec := specK [.w, .i .i64] fun (xs : List Int) (n : Int) => (some (0 ≤ n ∧ n ≤ 9007199254740992), .tup [.one (.words true (ws (val xs / 2 ^ n.toNat))), .one (.bool (lostB (val xs) n.toNat))])
theorem nShr_ok : SpecOk Tryd.prog 122 nShr :=
  handK_ok Tryd.func122 rfl (by decide) fun _ _ hC hX _ => fun _ _ _ h n _ v h' hp => by
    obtain rfl := repS_int h'
    exact natB_back hC hX (shr3_calls n (rep_natAt h) hp.1 hp.2)
def sLimbs : List (FuncId × Spec) := [(134, lLen), (131, lLow), (140, lOf), (120, lCmp), (129, lAdd), (130, lSub), (136, lMul), (135, lShl),
  (132, lShr), (146, lShort), (137, lDiv), (139, lSqrt), (108, lTrim)]
theorem sLimbs_ok : SpecsOk Tryd.prog sLimbs := ⟨lLen_ok, lLow_ok, lOf_ok, lCmp_ok, lAdd_ok, lSub_ok, lMul_ok, lShl_ok, lShr_ok, lShort_ok, lDiv_ok, lSqrt_ok, lTrim_ok, trivial⟩
def sRef3 : List (FuncId × Spec) := [(90, nNorm), (82, nGreat), (101, nOf), (91, nLen), (92, nLow), (87, nCmp), (107, nSame),
  (86, nAdd), (88, nSub), (89, nMul), (84, nShl), (122, nShr)]
theorem sRef3_ok : SpecsOk Tryd.prog sRef3 := ⟨nNorm_ok, nGreat_ok, nOf_ok, nLen_ok, nLow_ok, nCmp_ok, nSame_ok, nAdd_ok, nSub_ok, nMul_ok, nShl_ok, nShr_ok, trivial⟩
end Go.Proofs.YtmfmneanmamjbaaDoor

namespace Go.Proofs.YtmfmneanmamjbaaDoor
open Go.RowKit
theorem eqI_true {a b : Int} : eqI a b = true ↔ a = b := by simp [eqI]
theorem eqI_false {a b : Int} : eqI a b = false ↔ a ≠ b := by simp [eqI]
theorem neI_true {a b : Int} : neI a b = true ↔ a ≠ b := by simp [neI]
theorem neI_false {a b : Int} : neI a b = false ↔ a = b := by simp [neI]
theorem ltI_true {a b : Int} : ltI a b = true ↔ a < b := by simp [ltI]
theorem ltI_false {a b : Int} : ltI a b = false ↔ ¬ a < b := by simp [ltI]
theorem leI_true {a b : Int} : leI a b = true ↔ a ≤ b := by simp [leI]
theorem leI_false {a b : Int} : leI a b = false ↔ ¬ a ≤ b := by simp [leI]
theorem WfW.val0 {xs : List Int} (h : WfW xs) : 0 ≤ val xs := val_nonneg h.1
theorem Dx.Wf.m0 {d : Dx} (h : d.Wf) : 0 ≤ d.m := val_nonneg h.1
theorem len_zero {n : Int} (h : 0 ≤ n) : eqI ((ws n).length : Nat) 0 = decide (n = 0) := by
  rw [Bool.eq_iff_iff, eqI_true, decide_eq_true_eq, ← ws_eq_nil h, ← List.length_eq_zero_iff]; omega
theorem len_pos {n : Int} (h : 0 ≤ n) : ltI 0 ((ws n).length : Nat) = decide (n ≠ 0) := by
  rw [Bool.eq_iff_iff, ltI_true, decide_eq_true_eq, ne_eq, ← ws_eq_nil h, ← List.length_eq_zero_iff]; omega
theorem zero_dx : dT ⟨false, [], 0⟩ = .sv (.agg [.bool false, .words true [], .int .i64 0]) := rfl
def rForm : Spec := specK [.b, .w, .i .i64] fun (neg : Bool) (xs : List Int) (e : Int) => (some (-4611686018427387904 ≤ e ∧ e ≤ 4611686018427387904), dT (mkD neg (val xs) e))
theorem rForm_vc (neg : Bool) (xs : List Int) (e : Int) (Q : Tv → Prop) : execF ⟨tys, sLimbs⟩ (fun _ => none) 0 Tryd.f105 [.one (.bool neg), .one (.words false xs), .one (.int .i64 e)] Q = (br (eqI (↑(List.length (ws (val xs))) : Int) (0 : Int)) (Q (Tv.sv (Sv.agg [At.bool false, At.words true [], At.int IntKind.i64 (0 : Int)]))) (((0 : Int) ≤ (↑(tz (val (ws (val xs)))) : Int) ∧ (↑(tz (val (ws (val xs)))) : Int) ≤ (9007199254740992 : Int)) ∧ inR (e + (↑(tz (val (ws (val xs)))) : Int)) ∧ Q (Tv.sv (Sv.agg [At.bool neg, At.words true (ws (val (ws (val xs)) / (2 : Int) ^ Int.toNat (↑(tz (val (ws (val xs)))) : Int))), At.int IntKind.i64 (e + (↑(tz (val (ws (val xs)))) : Int))])))) := by kernel_rfl
theorem rForm_ok : SpecOk Tryd.prog 105 rForm :=
  specK_ok (envOk tys_ok sLimbs_ok) mixed Tryd.func105 rfl (by decide) (by decide) fun neg _ xs hxs (e : Int) _ hp => ⟨fun _ => none, 0, by
    have h0 : -4611686018427387904 ≤ e := hp.1
    have h1 : e ≤ 4611686018427387904 := hp.2
    have hv := WfW.val0 hxs
    have ht := tz_small hxs.1 hxs.2
    refine (rForm_vc neg xs e _).mpr (br_intro (fun h => ?_) (fun h => ?_))
    · rw [len_zero hv, decide_eq_true_eq] at h
      show _ = dT (mkD neg (val xs) e)
      rw [h, mkD_zero]
      rfl
    · rw [len_zero hv, decide_eq_false_iff_not] at h
      rw [val_ws hv]
      refine ⟨⟨by omega, by omega⟩, ⟨by omega, by omega⟩, ?_⟩
      show _ = dT (mkD neg (val xs) e)
      rw [mkD, if_neg h, Int.toNat_natCast]
      rfl⟩
def rZero : Spec := specK [.d] fun (d : Dx) => (none, bT d.zeroB)
theorem rZero_vc (d : Dx) (Q : Tv → Prop) : execF ⟨tys, sLimbs⟩ (fun _ => none) 0 Tryd.f111 [.agg (dyL false d)] Q = (Q (Tv.sv (Sv.one (At.bool (eqI (↑(List.length (ws (val d.xs))) : Int) (0 : Int)))))) := by kernel_rfl
theorem rZero_ok : SpecOk Tryd.prog 111 rZero :=
  specK_ok (envOk tys_ok sLimbs_ok) mixed Tryd.func111 rfl (by decide) (by decide) fun (d : Dx) hd _ => ⟨fun _ => none, 0, by
    refine (rZero_vc d _).mpr ?_
    show _ = bT d.zeroB
    rw [len_zero (WfW.val0 hd)]
    rfl⟩
def rFits : Spec := specK [.d] fun (d : Dx) => (none, bT d.fitsB)
theorem rFits_vc (d : Dx) (Q : Tv → Prop) : execF ⟨tys, sLimbs⟩ (fun _ => none) 0 Tryd.f68 [.agg (dyL false d)] Q = (br (leI (↑(List.length (ws (val d.xs))) : Int) (1024 : Int)) (br (leI (-32768 : Int) d.e) (Q (Tv.sv (Sv.one (At.bool (leI d.e (32768 : Int)))))) (Q (Tv.sv (Sv.one (At.bool false))))) (Q (Tv.sv (Sv.one (At.bool false))))) := by kernel_rfl
theorem rFits_ok : SpecOk Tryd.prog 68 rFits :=
  specK_ok (envOk tys_ok sLimbs_ok) mixed Tryd.func68 rfl (by decide) (by decide) fun (d : Dx) hd _ => ⟨fun _ => none, 0, by
    refine (rFits_vc d _).mpr (br_intro (fun h => br_intro (fun h' => ?_) fun h' => ?_) fun h => ?_)
    · show _ = bT d.fitsB
      have e1 : greatB d.m = false := by rw [leI_true] at h; unfold greatB Dx.m; simp; omega
      rw [leI_true] at h'
      unfold Dx.fitsB; rw [e1]; simp only [leI, h', decide_true, Bool.not_false, Bool.true_and]
    · show _ = bT d.fitsB
      rw [leI_false] at h'
      unfold Dx.fitsB; simp only [h', decide_false, Bool.and_false, Bool.false_and]
    · show _ = bT d.fitsB
      have e1 : greatB d.m = true := by rw [leI_false] at h; unfold greatB Dx.m; simp; omega
      unfold Dx.fitsB; rw [e1]; rfl⟩
theorem blen_wf {xs : List Int} (h : WfW xs) : blen (val xs) ≤ 1125899906842560 := blen_small h.1 h.2
theorem Dx.Wf.blen {d : Dx} (h : d.Wf) : blen d.m ≤ 1125899906842560 := blen_small h.1 h.2
def rTop : Spec := specK [.d] fun (d : Dx) => (some (-2305843009213693952 ≤ d.e ∧ d.e ≤ 2305843009213693952), iT (d.e + blen d.m - 1))
theorem rTop_vc (d : Dx) (Q : Tv → Prop) : execF ⟨tys, sLimbs⟩ (fun _ => none) 0 Tryd.f112 [.agg (dyL false d)] Q = (inR (d.e + (↑(blen (val d.xs)) : Int)) ∧ inR (d.e + (↑(blen (val d.xs)) : Int) - (1 : Int)) ∧ true = true ∧ Q (Tv.sv (Sv.one (At.int IntKind.i64 (d.e + (↑(blen (val d.xs)) : Int) - (1 : Int)))))) := by kernel_rfl
theorem rTop_ok : SpecOk Tryd.prog 112 rTop :=
  specK_ok (envOk tys_ok sLimbs_ok) mixed Tryd.func112 rfl (by decide) (by decide) fun (d : Dx) hd hp => ⟨fun _ => none, 0, by
    have h0 : -2305843009213693952 ≤ Dx.e d := hp.1
    have h1 : Dx.e d ≤ 2305843009213693952 := hp.2
    have hb := Dx.Wf.blen hd
    unfold Dx.m at hb
    refine (rTop_vc d _).mpr ⟨⟨by omega, by omega⟩, ⟨by omega, by omega⟩, rfl, rfl⟩⟩
def rAmounts : Spec := specK [.d, .d] fun (d : Dx) (d' : Dx) => (some (d.Sm 274877906944 ∧ d'.Sm 274877906944),
  .tup [.one (.words true (ws (d.m * 2 ^ (d.e - min d.e d'.e).toNat))), .one (.words true (ws (d'.m * 2 ^ (d'.e - min d.e d'.e).toNat))), .one (.int .i64 (min d.e d'.e))])
theorem minI_eq (a b : Int) : minI a b = min a b := by unfold minI; omega
theorem maxI_eq (a b : Int) : maxI a b = max a b := by unfold maxI; omega
theorem ws_blen {n : Int} {k : Nat} (h0 : 0 ≤ n) (h : blen n ≤ 64 * k) : (ws n).length ≤ k := by have := ws_len_blen h0; omega
theorem rAmounts_vc (d d' : Dx) (Q : Tv → Prop) : execF ⟨tys, sLimbs⟩ (fun _ => none) 0 Tryd.f119 [.agg (dyL false d), .agg (dyL false d')] Q = (inR (d.e - minI d.e d'.e) ∧ ((0 : Int) ≤ d.e - minI d.e d'.e ∧ d.e - minI d.e d'.e ≤ (1099511627776 : Int) ∧ List.length (ws (val d.xs)) ≤ (8796093022208 : Nat)) ∧ inR (d'.e - minI d.e d'.e) ∧ ((0 : Int) ≤ d'.e - minI d.e d'.e ∧ d'.e - minI d.e d'.e ≤ (1099511627776 : Int) ∧ List.length (ws (val d'.xs)) ≤ (8796093022208 : Nat)) ∧ true = true ∧ Q (Tv.tup [Sv.one (At.words true (ws (val d.xs * (2 : Int) ^ Int.toNat (d.e - minI d.e d'.e)))), Sv.one (At.words true (ws (val d'.xs * (2 : Int) ^ Int.toNat (d'.e - minI d.e d'.e)))), Sv.one (At.int IntKind.i64 (minI d.e d'.e))])) := by kernel_rfl
theorem rAmounts_ok : SpecOk Tryd.prog 119 rAmounts :=
  specK_ok (envOk tys_ok sLimbs_ok) mixed Tryd.func119 rfl (by decide) (by decide) fun (d : Dx) hd (d' : Dx) hd' hp => ⟨fun _ => none, 0, by
    obtain ⟨⟨s1, s2, s3⟩, s4, s5, s6⟩ : Dx.Sm 274877906944 d ∧ Dx.Sm 274877906944 d' := hp
    have l1 := ws_blen (k := 8796093022208) (Dx.Wf.m0 hd) (by omega)
    have l2 := ws_blen (k := 8796093022208) (Dx.Wf.m0 hd') (by omega)
    refine (rAmounts_vc d d' _).mpr ?_
    rw [minI_eq]
    exact ⟨⟨by omega, by omega⟩, ⟨by omega, by omega, l1⟩, ⟨by omega, by omega⟩, ⟨by omega, by omega, l2⟩, rfl, rfl⟩⟩
def sRaw1 : List (FuncId × Spec) := [(105, rForm), (111, rZero), (68, rFits), (112, rTop), (119, rAmounts)] ++ sLimbs
theorem sRaw1_ok : SpecsOk Tryd.prog sRaw1 := ⟨rForm_ok, rZero_ok, rFits_ok, rTop_ok, rAmounts_ok, sLimbs_ok⟩

/-! ### Those that lean on these -/
def rOne : Spec := specK [.d] fun (d : Dx) => (some (-4611686018427387904 ≤ d.e ∧ d.e ≤ 4611686018427387904), dT (oneD d))
theorem rOne_vc (d : Dx) (Q : Tv → Prop) : execF ⟨tys, sRaw1⟩ (fun _ => none) 0 Tryd.f58 [.agg (dyL false d)] Q = (((-4611686018427387904 : Int) ≤ d.e ∧ d.e ≤ (4611686018427387904 : Int)) ∧ Q (Tv.sv (Sv.agg [At.bool (mkD d.neg (val d.xs) d.e).neg, At.words true (mkD d.neg (val d.xs) d.e).xs, At.int IntKind.i64 (mkD d.neg (val d.xs) d.e).e]))) := by kernel_rfl
theorem rOne_ok : SpecOk Tryd.prog 58 rOne :=
  specK_ok (envOk tys_ok sRaw1_ok) mixed Tryd.func58 rfl (by decide) (by decide) fun (d : Dx) hd hp => ⟨fun _ => none, 0, (rOne_vc d _).mpr ⟨hp, rfl⟩⟩
def rNeg : Spec := specK [.d] fun (d : Dx) => (some (-4611686018427387904 ≤ d.e ∧ d.e ≤ 4611686018427387904), dT (negD d))
theorem rNeg_vc (d : Dx) (Q : Tv → Prop) : execF ⟨tys, sRaw1⟩ (fun _ => none) 0 Tryd.f133 [.agg (dyL false d)] Q = (((-4611686018427387904 : Int) ≤ d.e ∧ d.e ≤ (4611686018427387904 : Int)) ∧ Q (Tv.sv (Sv.agg [At.bool (mkD (!d.neg) (val d.xs) d.e).neg, At.words true (mkD (!d.neg) (val d.xs) d.e).xs, At.int IntKind.i64 (mkD (!d.neg) (val d.xs) d.e).e]))) := by kernel_rfl
theorem rNeg_ok : SpecOk Tryd.prog 133 rNeg :=
  specK_ok (envOk tys_ok sRaw1_ok) mixed Tryd.func133 rfl (by decide) (by decide) fun (d : Dx) hd hp => ⟨fun _ => none, 0, (rNeg_vc d _).mpr ⟨hp, rfl⟩⟩
def absD (d : Dx) : Dx := mkD false d.m d.e
def rAbs : Spec := specK [.d] fun (d : Dx) => (some (-4611686018427387904 ≤ d.e ∧ d.e ≤ 4611686018427387904), dT (absD d))
theorem rAbs_vc (d : Dx) (Q : Tv → Prop) : execF ⟨tys, sRaw1⟩ (fun _ => none) 0 Tryd.f109 [.agg (dyL false d)] Q = (((-4611686018427387904 : Int) ≤ d.e ∧ d.e ≤ (4611686018427387904 : Int)) ∧ Q (Tv.sv (Sv.agg [At.bool (mkD false (val d.xs) d.e).neg, At.words true (mkD false (val d.xs) d.e).xs, At.int IntKind.i64 (mkD false (val d.xs) d.e).e]))) := by kernel_rfl
theorem rAbs_ok : SpecOk Tryd.prog 109 rAbs :=
  specK_ok (envOk tys_ok sRaw1_ok) mixed Tryd.func109 rfl (by decide) (by decide) fun (d : Dx) hd hp => ⟨fun _ => none, 0, (rAbs_vc d _).mpr ⟨hp, rfl⟩⟩
/-- Times a power of 2. -/
def shiftD (d : Dx) (n : Int) : Dx := mkD d.neg d.m (d.e + n)
def rShift : Spec := specK [.d, .i .i64] fun (d : Dx) (n : Int) => (some (-2305843009213693952 ≤ d.e ∧ d.e ≤ 2305843009213693952 ∧ -2305843009213693952 ≤ n ∧ n ≤ 2305843009213693952), dT (shiftD d n))
theorem rShift_vc (d : Dx) (n : Int) (Q : Tv → Prop) : execF ⟨tys, sRaw1⟩ (fun _ => none) 0 Tryd.f113 [.agg (dyL false d), .one (.int .i64 n)] Q = (inR (d.e + n) ∧ ((-4611686018427387904 : Int) ≤ d.e + n ∧ d.e + n ≤ (4611686018427387904 : Int)) ∧ Q (Tv.sv (Sv.agg [At.bool (mkD d.neg (val d.xs) (d.e + n)).neg, At.words true (mkD d.neg (val d.xs) (d.e + n)).xs, At.int IntKind.i64 (mkD d.neg (val d.xs) (d.e + n)).e]))) := by kernel_rfl
theorem rShift_ok : SpecOk Tryd.prog 113 rShift :=
  specK_ok (envOk tys_ok sRaw1_ok) mixed Tryd.func113 rfl (by decide) (by decide) fun (d : Dx) hd (n : Int) _ hp => ⟨fun _ => none, 0, by
    obtain ⟨h1, h2, h3, h4⟩ : (-2305843009213693952 ≤ Dx.e d ∧ Dx.e d ≤ 2305843009213693952 ∧ -2305843009213693952 ≤ (n : Int) ∧ (n : Int) ≤ 2305843009213693952) := hp
    have e0 : -4611686018427387904 ≤ Dx.e d + n := by omega
    have e1 : Dx.e d + n ≤ 4611686018427387904 := by omega
    exact (rShift_vc d n _).mpr ⟨⟨by omega, by omega⟩, ⟨e0, e1⟩, rfl⟩⟩
def rSign : Spec := specK [.d] fun (d : Dx) => (none, iT d.sgn)
theorem rSign_vc (d : Dx) (Q : Tv → Prop) : execF ⟨tys, sRaw1⟩ (fun _ => none) 0 Tryd.f75 [.agg (dyL false d)] Q = (br (Dx.zeroB d) (Q (Tv.sv (Sv.one (At.int IntKind.i64 (0 : Int))))) (br d.neg (Q (Tv.sv (Sv.one (At.int IntKind.i64 (-1 : Int))))) (Q (Tv.sv (Sv.one (At.int IntKind.i64 (1 : Int))))))) := by kernel_rfl
def rMul : Spec := specK [.d, .d] fun (d : Dx) (d' : Dx) => (some (d.Sm 274877906944 ∧ d'.Sm 274877906944), dT (timesD d d'))
theorem rSign_ok : SpecOk Tryd.prog 75 rSign :=
  specK_ok (envOk tys_ok sRaw1_ok) mixed Tryd.func75 rfl (by decide) (by decide) fun (d : Dx) hd _ => ⟨fun _ => none, 0, by
    refine (rSign_vc d _).mpr (br_intro (fun h => ?_) (fun h => br_intro (fun h' => ?_) fun h' => ?_))
    · show _ = iT d.sgn
      rw [Dx.sgn, if_pos (by simpa [Dx.zeroB] using h)]
    · show _ = iT d.sgn
      rw [Dx.sgn, if_neg (by simpa [Dx.zeroB] using h), if_pos h']
    · show _ = iT d.sgn
      rw [Dx.sgn, if_neg (by simpa [Dx.zeroB] using h), if_neg (by simp [h'])]⟩
theorem rMul_vc (d d' : Dx) (Q : Tv → Prop) : execF ⟨tys, sRaw1⟩ (fun _ => none) 0 Tryd.f121 [.agg (dyL false d), .agg (dyL false d')] Q = (List.length (ws (val d.xs)) + List.length (ws (val d'.xs)) ≤ (17592186044415 : Nat) ∧ inR (d.e + d'.e) ∧ ((-4611686018427387904 : Int) ≤ d.e + d'.e ∧ d.e + d'.e ≤ (4611686018427387904 : Int)) ∧ true = true ∧ Q (Tv.sv (Sv.agg [At.bool (mkD (!d.neg == d'.neg) (val (ws (val d.xs * val d'.xs))) (d.e + d'.e)).neg, At.words true (mkD (!d.neg == d'.neg) (val (ws (val d.xs * val d'.xs))) (d.e + d'.e)).xs, At.int IntKind.i64 (mkD (!d.neg == d'.neg) (val (ws (val d.xs * val d'.xs))) (d.e + d'.e)).e]))) := by kernel_rfl
theorem rMul_ok : SpecOk Tryd.prog 121 rMul :=
  specK_ok (envOk tys_ok sRaw1_ok) mixed Tryd.func121 rfl (by decide) (by decide) fun (d : Dx) hd (d' : Dx) hd' hp => ⟨fun _ => none, 0, by
    obtain ⟨⟨s1, s2, s3⟩, s4, s5, s6⟩ : Dx.Sm 274877906944 d ∧ Dx.Sm 274877906944 d' := hp
    have l1 := ws_blen (k := 8796093022207) (Dx.Wf.m0 hd) (by omega)
    have l2 := ws_blen (k := 8796093022207) (Dx.Wf.m0 hd') (by omega)
    unfold Dx.m at l1 l2
    have hv : 0 ≤ val d.xs * val d'.xs := Int.mul_nonneg (WfW.val0 hd) (WfW.val0 hd')
    refine (rMul_vc d d' _).mpr ?_
    rw [val_ws hv]
    exact ⟨by omega, ⟨by omega, by omega⟩, ⟨by omega, by omega⟩, rfl, rfl⟩⟩
def rSticky : Spec := specK [.b, .w, .b, .i .i64] fun (neg : Bool) (xs : List Int) (more : Bool) (e : Int) => (some ((ws (val xs)).length ≤ 8796093022207 ∧ -2305843009213693952 ≤ e ∧ e ≤ 2305843009213693952), dT (mkD neg (stickyM (val xs) more) (e - 1)))
theorem rSticky_vc (neg more : Bool) (xs : List Int) (e : Int) (Q : Tv → Prop) : execF ⟨tys, sRaw1⟩ (fun _ => none) 0 Tryd.f138 [.one (.bool neg), .one (.words false xs), .one (.bool more), .one (.int .i64 e)] Q = (((0 : Int) ≤ (1 : Int) ∧ (1 : Int) ≤ (1099511627776 : Int) ∧ List.length (ws (val xs)) ≤ (8796093022208 : Nat)) ∧ br more (Word (1 : Int) ∧ (List.length (ws (val xs * (2 : Int) ^ Int.toNat (1 : Int))) ≤ (17592186044414 : Nat) ∧ List.length (ws (1 : Int)) ≤ (17592186044414 : Nat)) ∧ inR (e - (1 : Int)) ∧ ((-4611686018427387904 : Int) ≤ e - (1 : Int) ∧ e - (1 : Int) ≤ (4611686018427387904 : Int)) ∧ Q (Tv.sv (Sv.agg [At.bool (mkD neg (val (ws (val (ws (val xs * (2 : Int) ^ Int.toNat (1 : Int))) + val (ws (1 : Int))))) (e - (1 : Int))).neg, At.words true (mkD neg (val (ws (val (ws (val xs * (2 : Int) ^ Int.toNat (1 : Int))) + val (ws (1 : Int))))) (e - (1 : Int))).xs, At.int IntKind.i64 (mkD neg (val (ws (val (ws (val xs * (2 : Int) ^ Int.toNat (1 : Int))) + val (ws (1 : Int))))) (e - (1 : Int))).e]))) (inR (e - (1 : Int)) ∧ ((-4611686018427387904 : Int) ≤ e - (1 : Int) ∧ e - (1 : Int) ≤ (4611686018427387904 : Int)) ∧ Q (Tv.sv (Sv.agg [At.bool (mkD neg (val (ws (val xs * (2 : Int) ^ Int.toNat (1 : Int)))) (e - (1 : Int))).neg, At.words true (mkD neg (val (ws (val xs * (2 : Int) ^ Int.toNat (1 : Int)))) (e - (1 : Int))).xs, At.int IntKind.i64 (mkD neg (val (ws (val xs * (2 : Int) ^ Int.toNat (1 : Int)))) (e - (1 : Int))).e])))) := by kernel_rfl
theorem word_one : Word 1 := ⟨by omega, by omega⟩
theorem ws_one : ws 1 = [1] := by rw [ws_pos (by omega), ws_nonpos (by omega)]; rfl
theorem val_ws_one : val (ws 1) = 1 := val_ws (by omega)
theorem ws_len_double {n : Int} (h : 0 ≤ n) : (ws (n * 2)).length ≤ (ws n).length + 1 := by
  have := lt_wpow_ws h
  refine ws_length_le ?_
  rw [wpow_succ]
  have := wpow_pos (ws n).length
  omega
theorem rSticky_ok : SpecOk Tryd.prog 138 rSticky :=
  specK_ok (envOk tys_ok sRaw1_ok) mixed Tryd.func138 rfl (by decide) (by decide) fun neg _ xs hxs more _ (e : Int) _ hp => ⟨fun _ => none, 0, by
    obtain ⟨h1, h2, h3⟩ : (ws (val xs)).length ≤ 8796093022207 ∧ -2305843009213693952 ≤ e ∧ e ≤ 2305843009213693952 := hp
    have v0 := WfW.val0 hxs
    have l2 := ws_len_double v0
    refine (rSticky_vc neg more xs e _).mpr ?_
    rw [show (2 : Int) ^ Int.toNat 1 = 2 from rfl, val_ws (n := val xs * 2) (by omega), val_ws_one, val_ws (n := val xs * 2 + 1) (by omega)]
    refine ⟨⟨by omega, by omega, by omega⟩, br_intro (fun h => ⟨word_one, ⟨by omega, by simp [ws_one]⟩, ⟨by omega, by omega⟩, ⟨by omega, by omega⟩, ?_⟩) (fun h => ⟨⟨by omega, by omega⟩, ⟨by omega, by omega⟩, ?_⟩)⟩
    · show _ = dT (mkD neg (stickyM (val xs) more) (e - 1))
      rw [h]; rfl
    · show _ = dT (mkD neg (stickyM (val xs) more) (e - 1))
      rw [h, show stickyM (val xs) false = val xs * 2 from by simp [stickyM]]; rfl⟩
def sRaw2 : List (FuncId × Spec) := [(58, rOne), (133, rNeg), (109, rAbs), (113, rShift), (75, rSign), (121, rMul), (138, rSticky)] ++ sRaw1
theorem sRaw2_ok : SpecsOk Tryd.prog sRaw2 := ⟨rOne_ok, rNeg_ok, rAbs_ok, rShift_ok, rSign_ok, rMul_ok, rSticky_ok, sRaw1_ok⟩
end Go.Proofs.YtmfmneanmamjbaaDoor

namespace Go.Proofs.YtmfmneanmamjbaaDoor
open Go.RowKit
def rAdd : Spec := specK [.d, .d] fun (a : Dx) (b : Dx) => (some (a.Sm 68719476736 ∧ b.Sm 68719476736), dT (plusD a b))
theorem rAdd_vc (a b : Dx) (Q : Tv → Prop) : execF ⟨tys, sRaw2⟩ (fun _ => none) 0 Tryd.f103 [.agg (dyL false a), .agg (dyL false b)] Q = (((-4611686018427387904 : Int) ≤ a.e ∧ a.e ≤ (4611686018427387904 : Int)) ∧ ((-4611686018427387904 : Int) ≤ b.e ∧ b.e ≤ (4611686018427387904 : Int)) ∧ true = true ∧ br (Dx.zeroB (oneD a)) (Q (Tv.sv (Sv.agg (dyL true (oneD b))))) (br (Dx.zeroB (oneD b)) (Q (Tv.sv (Sv.agg (dyL true (oneD a))))) ((Dx.Sm (274877906944 : Nat) (oneD a) ∧ Dx.Sm (274877906944 : Nat) (oneD b)) ∧ br ((oneD a).neg == (oneD b).neg) ((List.length (ws (Dx.m (oneD a) * (2 : Int) ^ Int.toNat ((oneD a).e - min (oneD a).e (oneD b).e))) ≤ (17592186044414 : Nat) ∧ List.length (ws (Dx.m (oneD b) * (2 : Int) ^ Int.toNat ((oneD b).e - min (oneD a).e (oneD b).e))) ≤ (17592186044414 : Nat)) ∧ ((-4611686018427387904 : Int) ≤ min (oneD a).e (oneD b).e ∧ min (oneD a).e (oneD b).e ≤ (4611686018427387904 : Int)) ∧ true = true ∧ Q (Tv.sv (Sv.agg (dyL true (mkD (oneD a).neg (val (ws (val (ws (Dx.m (oneD a) * (2 : Int) ^ Int.toNat ((oneD a).e - min (oneD a).e (oneD b).e))) + val (ws (Dx.m (oneD b) * (2 : Int) ^ Int.toNat ((oneD b).e - min (oneD a).e (oneD b).e)))))) (min (oneD a).e (oneD b).e)))))) (br (leI (0 : Int) (cmpI (val (ws (Dx.m (oneD a) * (2 : Int) ^ Int.toNat ((oneD a).e - min (oneD a).e (oneD b).e)))) (val (ws (Dx.m (oneD b) * (2 : Int) ^ Int.toNat ((oneD b).e - min (oneD a).e (oneD b).e)))))) (val (ws (Dx.m (oneD b) * (2 : Int) ^ Int.toNat ((oneD b).e - min (oneD a).e (oneD b).e))) ≤ val (ws (Dx.m (oneD a) * (2 : Int) ^ Int.toNat ((oneD a).e - min (oneD a).e (oneD b).e))) ∧ ((-4611686018427387904 : Int) ≤ min (oneD a).e (oneD b).e ∧ min (oneD a).e (oneD b).e ≤ (4611686018427387904 : Int)) ∧ true = true ∧ Q (Tv.sv (Sv.agg (dyL true (mkD (oneD a).neg (val (ws (val (ws (Dx.m (oneD a) * (2 : Int) ^ Int.toNat ((oneD a).e - min (oneD a).e (oneD b).e))) - val (ws (Dx.m (oneD b) * (2 : Int) ^ Int.toNat ((oneD b).e - min (oneD a).e (oneD b).e)))))) (min (oneD a).e (oneD b).e)))))) (val (ws (Dx.m (oneD a) * (2 : Int) ^ Int.toNat ((oneD a).e - min (oneD a).e (oneD b).e))) ≤ val (ws (Dx.m (oneD b) * (2 : Int) ^ Int.toNat ((oneD b).e - min (oneD a).e (oneD b).e))) ∧ ((-4611686018427387904 : Int) ≤ min (oneD a).e (oneD b).e ∧ min (oneD a).e (oneD b).e ≤ (4611686018427387904 : Int)) ∧ true = true ∧ Q (Tv.sv (Sv.agg (dyL true (mkD (oneD b).neg (val (ws (val (ws (Dx.m (oneD b) * (2 : Int) ^ Int.toNat ((oneD b).e - min (oneD a).e (oneD b).e))) - val (ws (Dx.m (oneD a) * (2 : Int) ^ Int.toNat ((oneD a).e - min (oneD a).e (oneD b).e)))))) (min (oneD a).e (oneD b).e)))))))))) := by kernel_rfl
theorem zeroB_true {d : Dx} : d.zeroB = true ↔ d.m = 0 := by simp [Dx.zeroB]
theorem zeroB_false {d : Dx} : d.zeroB = false ↔ d.m ≠ 0 := by simp [Dx.zeroB]
theorem one_m0 {d : Dx} (h : 0 ≤ d.m) : 0 ≤ (oneD d).m := by
  unfold oneD; rw [mkD_m h]; exact Int.ediv_nonneg h (by have := two_pow_pos (tz d.m); omega)
theorem one_sm {d : Dx} {N : Nat} (hd : 0 ≤ d.m) (h : d.Sm N) : (oneD d).Sm (N + N) := mkD_sm hd h.1 h.2.1 h.2.2
theorem cmpI_ge {a b : Int} : leI 0 (cmpI a b) = true ↔ b ≤ a := by
  rw [leI_true]; unfold cmpI; split
  · omega
  · split <;> omega
theorem rAdd_ok : SpecOk Tryd.prog 103 rAdd :=
  specK_ok (envOk tys_ok sRaw2_ok) mixed Tryd.func103 rfl (by decide) (by decide) fun (a : Dx) ha (b : Dx) hb hp => ⟨fun _ => none, 0, by
    obtain ⟨s1, s2⟩ : Dx.Sm 68719476736 a ∧ Dx.Sm 68719476736 b := hp
    have m1 := one_m0 (Dx.Wf.m0 ha)
    have m2 := one_m0 (Dx.Wf.m0 hb)
    have z1 := one_sm (Dx.Wf.m0 ha) s1
    have z2 := one_sm (Dx.Wf.m0 hb) s2
    have b1 := s1.2
    have b2 := s2.2
    refine (rAdd_vc a b _).mpr ⟨⟨by omega, by omega⟩, ⟨by omega, by omega⟩, rfl, br_intro (fun h => ?_) (fun h => br_intro (fun h' => ?_) fun h' => ?_)⟩
    · show _ = dT (plusX (oneD a) (oneD b))
      rw [plusX, if_pos (zeroB_true.1 h)]
    · show _ = dT (plusX (oneD a) (oneD b))
      rw [plusX, if_neg (zeroB_false.1 h), if_pos (zeroB_true.1 h')]
    · rw [zeroB_false] at h h'
      obtain ⟨X, Y, mn, hX, hY, hmn, pX, pY, lX, lY, mn0, mn1, hsame, hge, hlt⟩ := plus_parts m1 m2 h h' z1 z2
      rw [hX, hY, hmn, val_ws (n := X) (by omega), val_ws (n := Y) (by omega)]
      refine ⟨⟨z1.mono (by omega), z2.mono (by omega)⟩, br_intro (fun e => ?_) fun e => br_intro (fun e' => ?_) fun e' => ?_⟩
      · rw [val_ws (by omega)]
        refine ⟨⟨lX, lY⟩, ⟨mn0, mn1⟩, rfl, ?_⟩
        show _ = dT (plusX (oneD a) (oneD b))
        rw [hsame (by simpa using e)]
      · rw [cmpI_ge] at e'
        rw [val_ws (n := X - Y) (by omega)]
        refine ⟨e', ⟨mn0, mn1⟩, rfl, ?_⟩
        show _ = dT (plusX (oneD a) (oneD b))
        rw [hge (by simpa using e) e']
      · have e' : ¬ Y ≤ X := fun h => by rw [cmpI_ge.2 h] at e'; simp at e'
        rw [val_ws (n := Y - X) (by omega)]
        refine ⟨by omega, ⟨mn0, mn1⟩, rfl, ?_⟩
        show _ = dT (plusX (oneD a) (oneD b))
        rw [hlt (by simpa using e) (by omega)]⟩
def rCut : Spec := specK [.d, .i .i64, .b] fun (d : Dx) (p : Int) (up : Bool) => (some (d.Sm 34359738368 ∧ 0 ≤ p ∧ p ≤ 1099511627776), dT (cutD d p up))
theorem rCut_vc (d : Dx) (p : Int) (up : Bool) (Q : Tv → Prop) : execF ⟨tys, sRaw2⟩ (fun _ => none) 0 Tryd.f128 [.agg (dyL false d), .one (.int .i64 p), .one (.bool up)] Q = (((-4611686018427387904 : Int) ≤ d.e ∧ d.e ≤ (4611686018427387904 : Int)) ∧ inR ((↑(blen (val (oneD d).xs)) : Int) - p) ∧ br (leI ((↑(blen (val (oneD d).xs)) : Int) - p) (0 : Int)) (Q (Tv.sv (Sv.agg (dyL true (oneD d))))) (((0 : Int) ≤ (↑(blen (val (oneD d).xs)) : Int) - p ∧ (↑(blen (val (oneD d).xs)) : Int) - p ≤ (9007199254740992 : Int)) ∧ br (!up == (oneD d).neg) (Word (1 : Int) ∧ (List.length (ws (val (oneD d).xs / (2 : Int) ^ Int.toNat ((↑(blen (val (oneD d).xs)) : Int) - p))) ≤ (17592186044414 : Nat) ∧ List.length (ws (1 : Int)) ≤ (17592186044414 : Nat)) ∧ inR ((oneD d).e + ((↑(blen (val (oneD d).xs)) : Int) - p)) ∧ ((-4611686018427387904 : Int) ≤ (oneD d).e + ((↑(blen (val (oneD d).xs)) : Int) - p) ∧ (oneD d).e + ((↑(blen (val (oneD d).xs)) : Int) - p) ≤ (4611686018427387904 : Int)) ∧ Q (Tv.sv (Sv.agg (dyL true (mkD (oneD d).neg (val (ws (val (ws (val (oneD d).xs / (2 : Int) ^ Int.toNat ((↑(blen (val (oneD d).xs)) : Int) - p))) + val (ws (1 : Int))))) ((oneD d).e + ((↑(blen (val (oneD d).xs)) : Int) - p))))))) (inR ((oneD d).e + ((↑(blen (val (oneD d).xs)) : Int) - p)) ∧ ((-4611686018427387904 : Int) ≤ (oneD d).e + ((↑(blen (val (oneD d).xs)) : Int) - p) ∧ (oneD d).e + ((↑(blen (val (oneD d).xs)) : Int) - p) ≤ (4611686018427387904 : Int)) ∧ Q (Tv.sv (Sv.agg (dyL true (mkD (oneD d).neg (val (ws (val (oneD d).xs / (2 : Int) ^ Int.toNat ((↑(blen (val (oneD d).xs)) : Int) - p)))) ((oneD d).e + ((↑(blen (val (oneD d).xs)) : Int) - p))))))))) := by kernel_rfl
theorem rCut_ok : SpecOk Tryd.prog 128 rCut :=
  specK_ok (envOk tys_ok sRaw2_ok) mixed Tryd.func128 rfl (by decide) (by decide) fun (d : Dx) hd (p : Int) _ (up : Bool) _ hp => ⟨fun _ => none, 0, by
    obtain ⟨s1, p0, p1⟩ : Dx.Sm 34359738368 d ∧ 0 ≤ p ∧ p ≤ 1099511627776 := hp
    have m1 := one_m0 (Dx.Wf.m0 hd)
    obtain ⟨z1, z2, z3⟩ := one_sm (Dx.Wf.m0 hd) s1
    have b1 := s1.2
    refine (rCut_vc d p up _).mpr ?_
    show _ ∧ _
    unfold Dx.m at m1 z1
    generalize hn : ((blen (val (oneD d).xs) : Int) - p) = n
    have hq : 0 ≤ val (oneD d).xs / 2 ^ n.toNat := Int.ediv_nonneg m1 (by have := two_pow_pos n.toNat; omega)
    have hql : (ws (val (oneD d).xs / 2 ^ n.toNat)).length ≤ 1073741825 := ws_blen hq (by
      have := blen_mono (m := val (oneD d).xs / 2 ^ n.toNat) (n := val (oneD d).xs) (Int.ediv_le_self _ m1); omega)
    have goal : cutD d p up = if n ≤ 0 then oneD d else mkD (oneD d).neg (val (oneD d).xs / 2 ^ n.toNat + if up == (oneD d).neg then 0 else 1) ((oneD d).e + n) := by
      rw [← hn]; rfl
    refine ⟨⟨by omega, by omega⟩, ⟨by omega, by omega⟩, br_intro (fun h => ?_) fun h => ⟨⟨by rw [leI_false] at h; omega, by omega⟩, br_intro (fun h' => ?_) fun h' => ?_⟩⟩
    · show _ = dT (cutD d p up)
      rw [goal, if_pos (leI_true.1 h)]
    · rw [val_ws hq, val_ws_one, val_ws (by omega)]
      refine ⟨word_one, ⟨by omega, by simp [ws_one]⟩, ⟨by omega, by omega⟩, ⟨by omega, by omega⟩, ?_⟩
      show _ = dT (cutD d p up)
      rw [goal, if_neg (leI_false.1 h), if_neg (by cases up <;> cases hh : (oneD d).neg <;> simp_all)]
    · rw [val_ws hq]
      refine ⟨⟨by omega, by omega⟩, ⟨by omega, by omega⟩, ?_⟩
      show _ = dT (cutD d p up)
      rw [goal, if_neg (leI_false.1 h), if_pos (by cases up <;> cases hh : (oneD d).neg <;> simp_all), Int.add_zero]⟩
def rCmp : Spec := specK [.d, .d] fun (a : Dx) (b : Dx) => (some (a.Sm 68719476736 ∧ b.Sm 68719476736), iT (cmpD a b))
theorem rCmp_vc (a b : Dx) (Q : Tv → Prop) : execF ⟨tys, sRaw2⟩ (fun _ => none) 0 Tryd.f79 [.agg (dyL false a), .agg (dyL false b)] Q = (true = true ∧ br (ltI (Dx.sgn a) (Dx.sgn b)) (Q (Tv.sv (Sv.one (At.int IntKind.i64 (-1 : Int))))) (br (ltI (Dx.sgn b) (Dx.sgn a)) (Q (Tv.sv (Sv.one (At.int IntKind.i64 (1 : Int))))) (br (eqI (Dx.sgn a) (0 : Int)) (Q (Tv.sv (Sv.one (At.int IntKind.i64 (0 : Int))))) (((-2305843009213693952 : Int) ≤ a.e ∧ a.e ≤ (2305843009213693952 : Int)) ∧ ((-2305843009213693952 : Int) ≤ b.e ∧ b.e ≤ (2305843009213693952 : Int)) ∧ true = true ∧ br (neI (a.e + (↑(blen (Dx.m a)) : Int) - (1 : Int)) (b.e + (↑(blen (Dx.m b)) : Int) - (1 : Int))) (br (ltI (a.e + (↑(blen (Dx.m a)) : Int) - (1 : Int)) (b.e + (↑(blen (Dx.m b)) : Int) - (1 : Int))) (inR ((0 : Int) - Dx.sgn a) ∧ Q (Tv.sv (Sv.one (At.int IntKind.i64 ((0 : Int) - Dx.sgn a))))) (Q (Tv.sv (Sv.one (At.int IntKind.i64 (Dx.sgn a)))))) (((-4611686018427387904 : Int) ≤ a.e ∧ a.e ≤ (4611686018427387904 : Int)) ∧ ((-4611686018427387904 : Int) ≤ b.e ∧ b.e ≤ (4611686018427387904 : Int)) ∧ (Dx.Sm (274877906944 : Nat) (oneD a) ∧ Dx.Sm (274877906944 : Nat) (oneD b)) ∧ true = true ∧ inR (Dx.sgn a * cmpI (val (ws (Dx.m (oneD a) * (2 : Int) ^ Int.toNat ((oneD a).e - min (oneD a).e (oneD b).e)))) (val (ws (Dx.m (oneD b) * (2 : Int) ^ Int.toNat ((oneD b).e - min (oneD a).e (oneD b).e))))) ∧ Q (Tv.sv (Sv.one (At.int IntKind.i64 (Dx.sgn a * cmpI (val (ws (Dx.m (oneD a) * (2 : Int) ^ Int.toNat ((oneD a).e - min (oneD a).e (oneD b).e)))) (val (ws (Dx.m (oneD b) * (2 : Int) ^ Int.toNat ((oneD b).e - min (oneD a).e (oneD b).e))))))))))))) := by kernel_rfl
theorem rCmp_ok : SpecOk Tryd.prog 79 rCmp :=
  specK_ok (envOk tys_ok sRaw2_ok) mixed Tryd.func79 rfl (by decide) (by decide) fun (a : Dx) ha (b : Dx) hb hp => ⟨fun _ => none, 0, by
    obtain ⟨s1, s2⟩ : Dx.Sm 68719476736 a ∧ Dx.Sm 68719476736 b := hp
    have m1 := Dx.Wf.m0 ha
    have m2 := Dx.Wf.m0 hb
    have z1 := one_sm m1 s1
    have z2 := one_sm m2 s2
    have b1 := s1.2
    have b2 := s2.2
    have c1 := sgn_cases (d := a)
    refine (rCmp_vc a b _).mpr ⟨rfl, br_intro (fun h => ?_) fun h => br_intro (fun h' => ?_) fun h' => br_intro (fun h0 => ?_) fun h0 => ?_⟩
    · show _ = iT (cmpD a b)
      rw [cmpD_lt m1 m2 (ltI_true.1 h)]
    · show _ = iT (cmpD a b)
      rw [cmpD_gt m1 m2 (ltI_true.1 h')]
    · rw [ltI_false] at h h'; rw [eqI_true] at h0
      show _ = iT (cmpD a b)
      rw [cmpD_zero m1 m2 h0 (by omega)]
    · rw [ltI_false] at h h'; rw [eqI_false] at h0
      have hs : a.sgn = b.sgn := by omega
      obtain ⟨t1, t2⟩ := cmpD_top m1 m2 hs h0
      refine ⟨⟨by omega, by omega⟩, ⟨by omega, by omega⟩, rfl, br_intro (fun e => br_intro (fun e' => ?_) fun e' => ?_) fun e => ?_⟩
      · refine ⟨⟨by omega, by omega⟩, ?_⟩
        show _ = iT (cmpD a b)
        rw [t1 (ltI_true.1 e'), Int.zero_sub]
      · rw [ltI_false] at e'; rw [neI_true] at e
        show _ = iT (cmpD a b)
        rw [t2 (by omega)]
      · have hm1 := Int.mul_nonneg (one_m0 m1) (show (0 : Int) ≤ 2 ^ ((oneD a).e - min (oneD a).e (oneD b).e).toNat from by have := two_pow_pos ((oneD a).e - min (oneD a).e (oneD b).e).toNat; omega)
        have hm2 := Int.mul_nonneg (one_m0 m2) (show (0 : Int) ≤ 2 ^ ((oneD b).e - min (oneD a).e (oneD b).e).toNat from by have := two_pow_pos ((oneD b).e - min (oneD a).e (oneD b).e).toNat; omega)
        rw [val_ws hm1, val_ws hm2]
        refine ⟨⟨by omega, by omega⟩, ⟨by omega, by omega⟩, ⟨z1.mono (by omega), z2.mono (by omega)⟩, rfl, ?_, ?_⟩
        · generalize (oneD a).m * 2 ^ ((oneD a).e - min (oneD a).e (oneD b).e).toNat = X
          generalize (oneD b).m * 2 ^ ((oneD b).e - min (oneD a).e (oneD b).e).toNat = Y
          have : cmpI X Y = -1 ∨ cmpI X Y = 0 ∨ cmpI X Y = 1 := by unfold cmpI; split <;> (try split) <;> omega
          rcases c1 with c1 | c1 | c1 <;> rcases this with c | c | c <;> rw [c1, c] <;> exact ⟨by omega, by omega⟩
        · show _ = iT (cmpD a b)
          rw [cmpD_one m1 m2 hs h0]⟩
def sRaw3 : List (FuncId × Spec) := [(103, rAdd), (128, rCut), (79, rCmp)] ++ sRaw2
theorem sRaw3_ok : SpecsOk Tryd.prog sRaw3 := ⟨rAdd_ok, rCut_ok, rCmp_ok, sRaw2_ok⟩
def rSub : Spec := specK [.d, .d] fun (a : Dx) (b : Dx) => (some (a.Sm 34359738368 ∧ b.Sm 34359738368), dT (lessD a b))
theorem rSub_vc (a b : Dx) (Q : Tv → Prop) : execF ⟨tys, sRaw3⟩ (fun _ => none) 0 Tryd.f110 [.agg (dyL false a), .agg (dyL false b)] Q = (((-4611686018427387904 : Int) ≤ b.e ∧ b.e ≤ (4611686018427387904 : Int)) ∧ (Dx.Sm (68719476736 : Nat) a ∧ Dx.Sm (68719476736 : Nat) (negD b)) ∧ true = true ∧ Q (Tv.sv (Sv.agg (dyL true (plusD a (negD b)))))) := by kernel_rfl
theorem rSub_ok : SpecOk Tryd.prog 110 rSub :=
  specK_ok (envOk tys_ok sRaw3_ok) mixed Tryd.func110 rfl (by decide) (by decide) fun (a : Dx) ha (b : Dx) hb hp => ⟨fun _ => none, 0, by
    obtain ⟨s1, s2⟩ : Dx.Sm 34359738368 a ∧ Dx.Sm 34359738368 b := hp
    have b2 := s2.2
    exact (rSub_vc a b _).mpr ⟨⟨by omega, by omega⟩, ⟨s1.mono (by omega), (negD_sm s2 (Dx.Wf.m0 hb)).mono (by omega)⟩, rfl, rfl⟩⟩
/-- A quotient of two numbers in their one form, with a bit that tells whether anything was left, cut to p bits. -/
def overX (x y : Dx) (p : Int) (up : Bool) : Dx :=
  if x.m = 0 then ⟨false, [], 0⟩ else
  cutD (mkD (!(x.neg == y.neg)) (stickyM (x.m * 2 ^ (max (p + 2 + blen y.m - blen x.m) 0).toNat / y.m) (decide (x.m * 2 ^ (max (p + 2 + blen y.m - blen x.m) 0).toNat % y.m ≠ 0))) (x.e - y.e - max (p + 2 + blen y.m - blen x.m) 0 - 1)) p up
def overD (a b : Dx) (p : Int) (up : Bool) : Dx := overX (oneD a) (oneD b) p up
theorem blen_mul {m n : Int} (hm : 0 ≤ m) (_ : 0 ≤ n) : blen (m * n) ≤ blen m + blen n := by
  refine blen_le ?_
  rw [Int.pow_add]
  have h1 := blen_lt m
  have h2 := blen_lt n
  have p1 := two_pow_pos (blen m)
  exact Int.lt_of_le_of_lt (Int.mul_le_mul_of_nonneg_left (Int.le_of_lt h2) hm) (Int.mul_lt_mul_of_pos_right h1 (two_pow_pos _))
theorem blen_pow (k : Nat) : blen (2 ^ k) = k + 1 := blen_eq (Int.le_refl _) (two_pow_lt (by omega))
theorem sticky_blen {q : Int} {b : Bool} (h : 0 ≤ q) : 0 ≤ stickyM q b ∧ blen (stickyM q b) ≤ blen q + 1 := by
  have h1 := blen_lt q
  refine ⟨by unfold stickyM; split <;> omega, blen_le ?_⟩
  rw [Int.pow_succ]
  unfold stickyM; split <;> omega
def rOver : Spec := specK [.d, .d, .i .i64, .b] fun (a : Dx) (b : Dx) (p : Int) (up : Bool) => (some (a.Sm 67108864 ∧ b.Sm 67108864 ∧ b.m ≠ 0 ∧ 0 ≤ p ∧ p ≤ 67108864), dT (overD a b p up))
theorem rOver_vc (a b : Dx) (p : Int) (up : Bool) (Q : Tv → Prop) : execF ⟨tys, sRaw3⟩ (fun _ => none) 0 Tryd.f126 [.agg (dyL false a), .agg (dyL false b), .one (.int .i64 p), .one (.bool up)] Q = (((-4611686018427387904 : Int) ≤ a.e ∧ a.e ≤ (4611686018427387904 : Int)) ∧ ((-4611686018427387904 : Int) ≤ b.e ∧ b.e ≤ (4611686018427387904 : Int)) ∧ true = true ∧ br (Dx.zeroB (oneD a)) (Q (Tv.sv (Sv.agg [At.bool false, At.words true [], At.int IntKind.i64 (0 : Int)]))) (inR (p + (2 : Int)) ∧ inR (p + (2 : Int) + (↑(blen (val (oneD b).xs)) : Int)) ∧ inR (p + (2 : Int) + (↑(blen (val (oneD b).xs)) : Int) - (↑(blen (val (oneD a).xs)) : Int)) ∧ true = true ∧ ((0 : Int) ≤ maxI (p + (2 : Int) + (↑(blen (val (oneD b).xs)) : Int) - (↑(blen (val (oneD a).xs)) : Int)) (0 : Int) ∧ maxI (p + (2 : Int) + (↑(blen (val (oneD b).xs)) : Int) - (↑(blen (val (oneD a).xs)) : Int)) (0 : Int) ≤ (1099511627776 : Int) ∧ List.length (ws (val (oneD a).xs)) ≤ (8796093022208 : Nat)) ∧ ((0 : Int) < val (oneD b).xs ∧ List.length (ws (val (ws (val (oneD a).xs * (2 : Int) ^ Int.toNat (maxI (p + (2 : Int) + (↑(blen (val (oneD b).xs)) : Int) - (↑(blen (val (oneD a).xs)) : Int)) (0 : Int)))))) ≤ (8796093022206 : Nat)) ∧ true = true ∧ inR ((oneD a).e - (oneD b).e) ∧ inR ((oneD a).e - (oneD b).e - maxI (p + (2 : Int) + (↑(blen (val (oneD b).xs)) : Int) - (↑(blen (val (oneD a).xs)) : Int)) (0 : Int)) ∧ (List.length (ws (val (ws (val (ws (val (oneD a).xs * (2 : Int) ^ Int.toNat (maxI (p + (2 : Int) + (↑(blen (val (oneD b).xs)) : Int) - (↑(blen (val (oneD a).xs)) : Int)) (0 : Int)))) / val (oneD b).xs)))) ≤ (8796093022207 : Nat) ∧ (-2305843009213693952 : Int) ≤ (oneD a).e - (oneD b).e - maxI (p + (2 : Int) + (↑(blen (val (oneD b).xs)) : Int) - (↑(blen (val (oneD a).xs)) : Int)) (0 : Int) ∧ (oneD a).e - (oneD b).e - maxI (p + (2 : Int) + (↑(blen (val (oneD b).xs)) : Int) - (↑(blen (val (oneD a).xs)) : Int)) (0 : Int) ≤ (2305843009213693952 : Int)) ∧ (Dx.Sm (34359738368 : Nat) (mkD (!(oneD a).neg == (oneD b).neg) (stickyM (val (ws (val (ws (val (oneD a).xs * (2 : Int) ^ Int.toNat (maxI (p + (2 : Int) + (↑(blen (val (oneD b).xs)) : Int) - (↑(blen (val (oneD a).xs)) : Int)) (0 : Int)))) / val (oneD b).xs))) (ltI (0 : Int) (↑(List.length (ws (val (ws (val (oneD a).xs * (2 : Int) ^ Int.toNat (maxI (p + (2 : Int) + (↑(blen (val (oneD b).xs)) : Int) - (↑(blen (val (oneD a).xs)) : Int)) (0 : Int)))) % val (oneD b).xs))) : Int))) ((oneD a).e - (oneD b).e - maxI (p + (2 : Int) + (↑(blen (val (oneD b).xs)) : Int) - (↑(blen (val (oneD a).xs)) : Int)) (0 : Int) - (1 : Int))) ∧ (0 : Int) ≤ p ∧ p ≤ (1099511627776 : Int)) ∧ Q (Tv.sv (Sv.agg (dyL true (cutD (mkD (!(oneD a).neg == (oneD b).neg) (stickyM (val (ws (val (ws (val (oneD a).xs * (2 : Int) ^ Int.toNat (maxI (p + (2 : Int) + (↑(blen (val (oneD b).xs)) : Int) - (↑(blen (val (oneD a).xs)) : Int)) (0 : Int)))) / val (oneD b).xs))) (ltI (0 : Int) (↑(List.length (ws (val (ws (val (oneD a).xs * (2 : Int) ^ Int.toNat (maxI (p + (2 : Int) + (↑(blen (val (oneD b).xs)) : Int) - (↑(blen (val (oneD a).xs)) : Int)) (0 : Int)))) % val (oneD b).xs))) : Int))) ((oneD a).e - (oneD b).e - maxI (p + (2 : Int) + (↑(blen (val (oneD b).xs)) : Int) - (↑(blen (val (oneD a).xs)) : Int)) (0 : Int) - (1 : Int))) p up)))))) := by kernel_rfl
theorem rOver_ok : SpecOk Tryd.prog 126 rOver :=
  specK_ok (envOk tys_ok sRaw3_ok) mixed Tryd.func126 rfl (by decide) (by decide) fun (a : Dx) ha (b : Dx) hb (p : Int) _ (up : Bool) _ hp => ⟨fun _ => none, 0, by
    obtain ⟨s1, s2, hb0, p0, p1⟩ : Dx.Sm 67108864 a ∧ Dx.Sm 67108864 b ∧ Dx.m b ≠ 0 ∧ 0 ≤ p ∧ p ≤ 67108864 := hp
    have m1 := one_m0 (Dx.Wf.m0 ha)
    have m2 := one_m0 (Dx.Wf.m0 hb)
    have m2p : 0 < (oneD b).m := by have := (one_m_zero (Dx.Wf.m0 hb)).1; omega
    have z1 := one_sm (Dx.Wf.m0 ha) s1
    have z2 := one_sm (Dx.Wf.m0 hb) s2
    have b1 := s1.2
    have b2 := s2.2
    show execF _ _ _ _ _ (fun t => t = dT (overX (oneD a) (oneD b) p up))
    refine (rOver_vc a b p up _).mpr ⟨⟨by omega, by omega⟩, ⟨by omega, by omega⟩, rfl, ?_⟩
    generalize oneD a = x at *
    generalize oneD b = y at *
    refine br_intro (fun h => ?_) fun h => ?_
    · rw [overX, if_pos (zeroB_true.1 h)]; rfl
    · rw [zeroB_false] at h
      rw [overX, if_neg h]
      obtain ⟨s3, s4, s5⟩ := z1
      obtain ⟨s6, s7, s8⟩ := z2
      unfold Dx.m at *
      generalize val x.xs = X at *
      generalize val y.xs = Y at *
      rw [maxI_eq]
      generalize hk : max (p + 2 + (blen Y : Int) - (blen X : Int)) 0 = k
      have k0 : 0 ≤ k := by omega
      have k1 : k ≤ 201326596 := by omega
      have hM : 0 ≤ X * 2 ^ k.toNat := Int.mul_nonneg m1 (by have := two_pow_pos k.toNat; omega)
      have hMb : blen (X * 2 ^ k.toNat) ≤ 335544324 := by rw [blen_mul_pow (by omega)]; omega
      have hQ : 0 ≤ X * 2 ^ k.toNat / Y := Int.ediv_nonneg hM m2
      have hQb := blen_mono (m := X * 2 ^ k.toNat / Y) (n := X * 2 ^ k.toNat) (Int.ediv_le_self _ hM)
      have hR : 0 ≤ X * 2 ^ k.toNat % Y := Int.emod_nonneg _ (by omega)
      rw [val_ws hM, val_ws hQ, len_pos hR]
      have l1 := ws_blen (n := X) (k := 8796093022206) m1 (by omega)
      have l2 := ws_blen (k := 8796093022206) hM (by omega)
      have l3 := ws_blen (k := 8796093022206) hQ (by omega)
      obtain ⟨t1, t2⟩ := sticky_blen (b := decide (X * 2 ^ k.toNat % Y ≠ 0)) hQ
      refine ⟨⟨by omega, by omega⟩, ⟨by omega, by omega⟩, ⟨by omega, by omega⟩, rfl, ⟨by omega, by omega, by omega⟩, ⟨m2p, by omega⟩, rfl, ⟨by omega, by omega⟩, ⟨by omega, by omega⟩, ⟨by omega, by omega, by omega⟩, ⟨?_, by omega, by omega⟩, rfl⟩
      exact (mkD_sm (N := 1073741824) (M := 1073741824) t1 (by omega) (by omega) (by omega)).mono (by omega)⟩
/-- The root of a number in its one form, with a bit that tells whether anything was left, cut to p bits. -/
def rootK (x : Dx) (p : Int) : Int := max (2 * p + 4 - blen x.m) 0 + (x.e - max (2 * p + 4 - blen x.m) 0) % 2
def rootX (x : Dx) (p : Int) (up : Bool) : Dx :=
  if x.m = 0 then x else
  cutD (mkD false (stickyM (isq (x.m * 2 ^ (rootK x p).toNat)) (decide (x.m * 2 ^ (rootK x p).toNat - isq (x.m * 2 ^ (rootK x p).toNat) * isq (x.m * 2 ^ (rootK x p).toNat) ≠ 0))) ((x.e - rootK x p) / 2 - 1)) p up
def rootD (a : Dx) (p : Int) (up : Bool) : Dx := rootX (oneD a) p up
def rRoot : Spec := specK [.d, .i .i64, .b] fun (a : Dx) (p : Int) (up : Bool) => (some (a.Sm 67108864 ∧ 0 ≤ p ∧ p ≤ 67108864), dT (rootD a p up))
theorem rRoot_vc (a : Dx) (p : Int) (up : Bool) (Q : Tv → Prop) : execF ⟨tys, sRaw3⟩ (fun _ => none) 0 Tryd.f127 [.agg (dyL false a), .one (.int .i64 p), .one (.bool up)] Q = (((-4611686018427387904 : Int) ≤ a.e ∧ a.e ≤ (4611686018427387904 : Int)) ∧   br (Dx.zeroB (oneD a)) (Q (Tv.sv (Sv.agg (dyL true (oneD a)))))     (inR ((2 : Int) * p) ∧       inR ((2 : Int) * p + (4 : Int)) ∧         inR ((2 : Int) * p + (4 : Int) - (↑(blen (val (oneD a).xs)) : Int)) ∧           inR ((oneD a).e - maxI ((2 : Int) * p + (4 : Int) - (↑(blen (val (oneD a).xs)) : Int)) (0 : Int)) ∧             inR (maxI ((2 : Int) * p + (4 : Int) - (↑(blen (val (oneD a).xs)) : Int)) (0 : Int) + bitsI BinOp.and IntKind.i64 ((oneD a).e - maxI ((2 : Int) * p + (4 : Int) - (↑(blen (val (oneD a).xs)) : Int)) (0 : Int)) (1 : Int)) ∧               ((0 : Int) ≤ maxI ((2 : Int) * p + (4 : Int) - (↑(blen (val (oneD a).xs)) : Int)) (0 : Int) + bitsI BinOp.and IntKind.i64 ((oneD a).e - maxI ((2 : Int) * p + (4 : Int) - (↑(blen (val (oneD a).xs)) : Int)) (0 : Int)) (1 : Int) ∧ maxI ((2 : Int) * p + (4 : Int) - (↑(blen (val (oneD a).xs)) : Int)) (0 : Int) + bitsI BinOp.and IntKind.i64 ((oneD a).e - maxI ((2 : Int) * p + (4 : Int) - (↑(blen (val (oneD a).xs)) : Int)) (0 : Int)) (1 : Int) ≤ (1099511627776 : Int) ∧ List.length (ws (val (oneD a).xs)) ≤ (8796093022208 : Nat)) ∧                 List.length (ws (val (ws (val (oneD a).xs * (2 : Int) ^ Int.toNat (maxI ((2 : Int) * p + (4 : Int) - (↑(blen (val (oneD a).xs)) : Int)) (0 : Int) + bitsI BinOp.and IntKind.i64 ((oneD a).e - maxI ((2 : Int) * p + (4 : Int) - (↑(blen (val (oneD a).xs)) : Int)) (0 : Int)) (1 : Int)))))) ≤ (1073741824 : Nat) ∧                   inR ((oneD a).e - (maxI ((2 : Int) * p + (4 : Int) - (↑(blen (val (oneD a).xs)) : Int)) (0 : Int) + bitsI BinOp.and IntKind.i64 ((oneD a).e - maxI ((2 : Int) * p + (4 : Int) - (↑(blen (val (oneD a).xs)) : Int)) (0 : Int)) (1 : Int))) ∧                     ((2 : Int) ≠ (0 : Int) ∧ inR (Int.tdiv ((oneD a).e - (maxI ((2 : Int) * p + (4 : Int) - (↑(blen (val (oneD a).xs)) : Int)) (0 : Int) + bitsI BinOp.and IntKind.i64 ((oneD a).e - maxI ((2 : Int) * p + (4 : Int) - (↑(blen (val (oneD a).xs)) : Int)) (0 : Int)) (1 : Int))) (2 : Int))) ∧                       (List.length (ws (val (ws (isq (val (ws (val (oneD a).xs * (2 : Int) ^ Int.toNat (maxI ((2 : Int) * p + (4 : Int) - (↑(blen (val (oneD a).xs)) : Int)) (0 : Int) + bitsI BinOp.and IntKind.i64 ((oneD a).e - maxI ((2 : Int) * p + (4 : Int) - (↑(blen (val (oneD a).xs)) : Int)) (0 : Int)) (1 : Int))))))))) ≤ (8796093022207 : Nat) ∧ (-2305843009213693952 : Int) ≤ Int.tdiv ((oneD a).e - (maxI ((2 : Int) * p + (4 : Int) - (↑(blen (val (oneD a).xs)) : Int)) (0 : Int) + bitsI BinOp.and IntKind.i64 ((oneD a).e - maxI ((2 : Int) * p + (4 : Int) - (↑(blen (val (oneD a).xs)) : Int)) (0 : Int)) (1 : Int))) (2 : Int) ∧ Int.tdiv ((oneD a).e - (maxI ((2 : Int) * p + (4 : Int) - (↑(blen (val (oneD a).xs)) : Int)) (0 : Int) + bitsI BinOp.and IntKind.i64 ((oneD a).e - maxI ((2 : Int) * p + (4 : Int) - (↑(blen (val (oneD a).xs)) : Int)) (0 : Int)) (1 : Int))) (2 : Int) ≤ (2305843009213693952 : Int)) ∧ (Dx.Sm (34359738368 : Nat) (mkD false (stickyM (val (ws (isq (val (ws (val (oneD a).xs * (2 : Int) ^ Int.toNat (maxI ((2 : Int) * p + (4 : Int) - (↑(blen (val (oneD a).xs)) : Int)) (0 : Int) + bitsI BinOp.and IntKind.i64 ((oneD a).e - maxI ((2 : Int) * p + (4 : Int) - (↑(blen (val (oneD a).xs)) : Int)) (0 : Int)) (1 : Int)))))))) (ltI (0 : Int) (↑(List.length (ws (val (ws (val (oneD a).xs * (2 : Int) ^ Int.toNat (maxI ((2 : Int) * p + (4 : Int) - (↑(blen (val (oneD a).xs)) : Int)) (0 : Int) + bitsI BinOp.and IntKind.i64 ((oneD a).e - maxI ((2 : Int) * p + (4 : Int) - (↑(blen (val (oneD a).xs)) : Int)) (0 : Int)) (1 : Int)))) - isq (val (ws (val (oneD a).xs * (2 : Int) ^ Int.toNat (maxI ((2 : Int) * p + (4 : Int) - (↑(blen (val (oneD a).xs)) : Int)) (0 : Int) + bitsI BinOp.and IntKind.i64 ((oneD a).e - maxI ((2 : Int) * p + (4 : Int) - (↑(blen (val (oneD a).xs)) : Int)) (0 : Int)) (1 : Int))))) * isq (val (ws (val (oneD a).xs * (2 : Int) ^ Int.toNat (maxI ((2 : Int) * p + (4 : Int) - (↑(blen (val (oneD a).xs)) : Int)) (0 : Int) + bitsI BinOp.and IntKind.i64 ((oneD a).e - maxI ((2 : Int) * p + (4 : Int) - (↑(blen (val (oneD a).xs)) : Int)) (0 : Int)) (1 : Int)))))))) : Int))) (Int.tdiv ((oneD a).e - (maxI ((2 : Int) * p + (4 : Int) - (↑(blen (val (oneD a).xs)) : Int)) (0 : Int) + bitsI BinOp.and IntKind.i64 ((oneD a).e - maxI ((2 : Int) * p + (4 : Int) - (↑(blen (val (oneD a).xs)) : Int)) (0 : Int)) (1 : Int))) (2 : Int) - (1 : Int))) ∧ (0 : Int) ≤ p ∧ p ≤ (1099511627776 : Int)) ∧ Q (Tv.sv (Sv.agg (dyL true (cutD (mkD false (stickyM (val (ws (isq (val (ws (val (oneD a).xs * (2 : Int) ^ Int.toNat (maxI ((2 : Int) * p + (4 : Int) - (↑(blen (val (oneD a).xs)) : Int)) (0 : Int) + bitsI BinOp.and IntKind.i64 ((oneD a).e - maxI ((2 : Int) * p + (4 : Int) - (↑(blen (val (oneD a).xs)) : Int)) (0 : Int)) (1 : Int)))))))) (ltI (0 : Int) (↑(List.length (ws (val (ws (val (oneD a).xs * (2 : Int) ^ Int.toNat (maxI ((2 : Int) * p + (4 : Int) - (↑(blen (val (oneD a).xs)) : Int)) (0 : Int) + bitsI BinOp.and IntKind.i64 ((oneD a).e - maxI ((2 : Int) * p + (4 : Int) - (↑(blen (val (oneD a).xs)) : Int)) (0 : Int)) (1 : Int)))) - isq (val (ws (val (oneD a).xs * (2 : Int) ^ Int.toNat (maxI ((2 : Int) * p + (4 : Int) - (↑(blen (val (oneD a).xs)) : Int)) (0 : Int) + bitsI BinOp.and IntKind.i64 ((oneD a).e - maxI ((2 : Int) * p + (4 : Int) - (↑(blen (val (oneD a).xs)) : Int)) (0 : Int)) (1 : Int))))) * isq (val (ws (val (oneD a).xs * (2 : Int) ^ Int.toNat (maxI ((2 : Int) * p + (4 : Int) - (↑(blen (val (oneD a).xs)) : Int)) (0 : Int) + bitsI BinOp.and IntKind.i64 ((oneD a).e - maxI ((2 : Int) * p + (4 : Int) - (↑(blen (val (oneD a).xs)) : Int)) (0 : Int)) (1 : Int)))))))) : Int))) (Int.tdiv ((oneD a).e - (maxI ((2 : Int) * p + (4 : Int) - (↑(blen (val (oneD a).xs)) : Int)) (0 : Int) + bitsI BinOp.and IntKind.i64 ((oneD a).e - maxI ((2 : Int) * p + (4 : Int) - (↑(blen (val (oneD a).xs)) : Int)) (0 : Int)) (1 : Int))) (2 : Int) - (1 : Int))) p up)))))) := by kernel_rfl
theorem and_mask1 (n : Int) : bitsI .and .i64 n 1 = n % 2 := by
  have h1 : (BitVec.ofInt 64 1).toNat = 2 ^ 1 - 1 := by decide
  have key : (BitVec.ofInt 64 n &&& BitVec.ofInt 64 1).toNat = (n % ((2 ^ 64 : Nat) : Int)).toNat % 2 ^ 1 := by
    rw [BitVec.toNat_and, BitVec.toNat_ofInt, h1, Nat.and_two_pow_sub_one_eq_mod]
  show IntKind.i64.wrap ((BitVec.ofInt 64 n &&& BitVec.ofInt 64 1).toNat : Nat) = n % 2
  rw [key, IntKind.wrap_i64]
  omega
theorem and_mask3 (n : Int) : bitsI .and .i64 n 3 = n % 4 := by
  have h1 : (BitVec.ofInt 64 3).toNat = 2 ^ 2 - 1 := by decide
  have key : (BitVec.ofInt 64 n &&& BitVec.ofInt 64 3).toNat = (n % ((2 ^ 64 : Nat) : Int)).toNat % 2 ^ 2 := by
    rw [BitVec.toNat_and, BitVec.toNat_ofInt, h1, Nat.and_two_pow_sub_one_eq_mod]
  show IntKind.i64.wrap ((BitVec.ofInt 64 n &&& BitVec.ofInt 64 3).toNat : Nat) = n % 4
  rw [key, IntKind.wrap_i64]
  omega
theorem isq_le_self {n : Int} (h : 0 ≤ n) : isq n ≤ n := by
  have h1 := isq_le h
  have h0 := isq_nonneg n
  by_cases hz : isq n = 0
  · omega
  · have := Int.mul_le_mul_of_nonneg_left (show 1 ≤ isq n by omega) h0
    omega
theorem tdiv_even {n : Int} (h : n % 2 = 0) : n.tdiv 2 = n / 2 := by
  obtain ⟨k, rfl⟩ : ∃ k, n = 2 * k := ⟨n / 2, by omega⟩
  rw [Int.mul_tdiv_cancel_left _ (by omega)]; omega
theorem rRoot_ok : SpecOk Tryd.prog 127 rRoot :=
  specK_ok (envOk tys_ok sRaw3_ok) mixed Tryd.func127 rfl (by decide) (by decide) fun (a : Dx) ha (p : Int) _ (up : Bool) _ hp => ⟨fun _ => none, 0, by
    obtain ⟨s1, p0, p1⟩ : Dx.Sm 67108864 a ∧ 0 ≤ p ∧ p ≤ 67108864 := hp
    have m1 := one_m0 (Dx.Wf.m0 ha)
    have z1 := one_sm (Dx.Wf.m0 ha) s1
    have b1 := s1.2
    show execF _ _ _ _ _ (fun t => t = dT (rootX (oneD a) p up))
    refine (rRoot_vc a p up _).mpr ⟨⟨by omega, by omega⟩, ?_⟩
    generalize oneD a = x at *
    refine br_intro (fun h => ?_) fun h => ?_
    · rw [rootX, if_pos (zeroB_true.1 h)]
    · rw [zeroB_false] at h
      rw [rootX, if_neg h]
      obtain ⟨s3, s4, s5⟩ := z1
      rw [maxI_eq, and_mask1]
      show _ ∧ _
      have hk : ∃ k, rootK x p = k := ⟨_, rfl⟩
      obtain ⟨k, hk⟩ := hk
      rw [hk]
      have hk' := hk
      unfold rootK at hk'
      unfold Dx.m at *
      rw [hk']
      have ev : (x.e - k) % 2 = 0 := by omega
      rw [tdiv_even ev]
      generalize val x.xs = X at *
      have k0 : 0 ≤ k := by omega
      have k1 : k ≤ 134217733 := by omega
      have hM : 0 ≤ X * 2 ^ k.toNat := Int.mul_nonneg m1 (by have := two_pow_pos k.toNat; omega)
      have hMb : blen (X * 2 ^ k.toNat) ≤ 335544324 := by rw [blen_mul_pow (by omega)]; omega
      have hQ : 0 ≤ isq (X * 2 ^ k.toNat) := isq_nonneg _
      have hQb := blen_mono (isq_le_self hM)
      have hR : 0 ≤ X * 2 ^ k.toNat - isq (X * 2 ^ k.toNat) * isq (X * 2 ^ k.toNat) := by have := isq_le hM; omega
      rw [val_ws hM, val_ws hQ, len_pos hR]
      have l1 := ws_blen (n := X) (k := 8796093022206) m1 (by omega)
      have l2 := ws_blen (k := 1073741824) hM (by omega)
      have l3 := ws_blen (k := 8796093022206) hQ (by omega)
      obtain ⟨t1, t2⟩ := sticky_blen (b := decide (X * 2 ^ k.toNat - isq (X * 2 ^ k.toNat) * isq (X * 2 ^ k.toNat) ≠ 0)) hQ
      refine ⟨⟨by omega, by omega⟩, ⟨by omega, by omega⟩, ⟨by omega, by omega⟩, ⟨by omega, by omega⟩, ⟨by omega, by omega⟩, ⟨by omega, by omega, by omega⟩, l2, ⟨by omega, by omega⟩, ⟨by omega, by omega, by omega⟩, ⟨by omega, by omega, by omega⟩, ⟨?_, by omega, by omega⟩, rfl⟩
      exact (mkD_sm (N := 1073741824) (M := 1073741824) t1 (by omega) (by omega) (by omega)).mono (by omega)⟩
def sRaw4 : List (FuncId × Spec) := [(110, rSub), (126, rOver), (127, rRoot)] ++ sRaw3
theorem sRaw4_ok : SpecsOk Tryd.prog sRaw4 := ⟨rSub_ok, rOver_ok, rRoot_ok, sRaw3_ok⟩
end Go.Proofs.YtmfmneanmamjbaaDoor

namespace Go.Proofs.YtmfmneanmamjbaaDoor
open Go.RowKit
/-- A word told by patterns, out of its function's run. -/
theorem specOk_at {P : Program} {E : Env} (hE : EnvOk P E) (hm : P.follows .mixedOrders = true) {f : FuncId} {fn : Func} {c : Code} (hf : P.funcs[f]? = some fn) (hb : fn.body = some c) (hname : (fn.name == "runtime.NumGoroutine") = false) {sp : Spec} (k : Nat) (hk : k ≤ fn.ntmps)
    (h : ∀ l p t, sp l = (p, t) → (match p with | none => True | some p => p) → l.length ≤ k ∧ ∃ inv fuel, execF E inv fuel fn l (fun x => x = t)) : SpecOk P f sp :=
  specOk_of hE hm hf hb hname k hk fun l hp => h l (sp l).1 (sp l).2 rfl hp
def vF (v : Vx) : Tv := .sv (.agg (ivL false v))
/-- An interval widened to hold a number. -/
def spanS (v : Vx) (d : Dx) : Vx := ⟨if cmpD d v.lo < 0 then d else v.lo, if 0 < cmpD d v.hi then d else v.hi⟩
def Vx.Sm (N : Nat) (v : Vx) : Prop := v.lo.Sm N ∧ v.hi.Sm N
theorem spanS_sm {N : Nat} {v : Vx} {d : Dx} (h : v.Sm N) (k : d.Sm N) : (spanS v d).Sm N := by
  unfold spanS
  constructor
  · show Dx.Sm N (if _ then _ else _); split <;> first | exact k | exact h.1
  · show Dx.Sm N (if _ then _ else _); split <;> first | exact k | exact h.2
def spanL (a : Dx) (l : List Dx) : Vx := l.foldl spanS ⟨a, a⟩
def spK : LKeep := ⟨[14, 15, 16, 3, 2], [(0, 6), (8, 6)], 14⟩
def spSt (n : Nat) (cs : List At) (j : Int) (v : Vx) : List (Nat × Tv) × List (Nat × Nat × At) :=
  ([(14, .sv (.one (.rows false 3 n cs))), (15, iT n), (16, iT j), (3, .sv (.one (.ptr 8 0))), (2, .sv (.one (.ptr 0 0)))],
   [(0, 0, .bool false), (0, 1, .words true []), (0, 2, .int .i64 0), (0, 3, .bool false), (0, 4, .words true []), (0, 5, .int .i64 0), (8, 0, .bool v.lo.neg), (8, 1, .words false v.lo.xs), (8, 2, .int .i64 v.lo.e), (8, 3, .bool v.hi.neg), (8, 4, .words false v.hi.xs), (8, 5, .int .i64 v.hi.e)])
theorem rSpan2_vc (a b : Dx) (Q : Tv → Prop) : execF ⟨tys, sRaw4⟩ (invAt 3 (.cuts spK [spSt 1 (dyL false b) 0 ⟨a, a⟩, spSt 1 (dyL false b) 1 (spanS ⟨a, a⟩ b)])) 0 Tryd.f59 [.one (.rows false 3 2 (dyL false a ++ dyL false b))] Q = (((0 : Int) ≤ (0 : Int) ∧ (0 : Int) < (↑(2 : Nat) : Int)) ∧   ((0 : Int) ≤ (0 : Int) ∧ (0 : Int) < (↑(2 : Nat) : Int)) ∧     true = true ∧       ((0 : Int) ≤ (1 : Int) ∧ (1 : Int) < (↑(2 : Nat) : Int)) ∧         true = true ∧           Sg.mk [((14 : Nat), Tv.sv (Sv.one (At.rows false (3 : Nat) (1 : Nat) (dyL false b)))), ((15 : Nat), Tv.sv (Sv.one (At.int IntKind.i64 (↑(1 : Nat) : Int)))), ((16 : Nat), Tv.sv (Sv.one (At.int IntKind.i64 (0 : Int)))), ((3 : Nat), Tv.sv (Sv.one (At.ptr ((1 : Nat) + (7 : Nat)) (0 : Nat)))), ((2 : Nat), Tv.sv (Sv.one (At.ptr (0 : Nat) (0 : Nat))))] [((0 : Nat), (0 : Nat), At.bool false), ((0 : Nat), (1 : Nat), At.words true []), ((0 : Nat), (2 : Nat), At.int IntKind.i64 (0 : Int)), ((0 : Nat), (3 : Nat), At.bool false), ((0 : Nat), (4 : Nat), At.words true []), ((0 : Nat), (5 : Nat), At.int IntKind.i64 (0 : Int)), ((8 : Nat), (0 : Nat), At.bool a.neg), ((8 : Nat), (1 : Nat), At.words false a.xs), ((8 : Nat), (2 : Nat), At.int IntKind.i64 a.e), ((8 : Nat), (3 : Nat), At.bool a.neg), ((8 : Nat), (4 : Nat), At.words false a.xs), ((8 : Nat), (5 : Nat), At.int IntKind.i64 a.e)] (14 : Nat) = Sg.mk [((14 : Nat), Tv.sv (Sv.one (At.rows false (3 : Nat) (1 : Nat) (dyL false b)))), ((15 : Nat), Tv.sv (Sv.one (At.int IntKind.i64 (↑(1 : Nat) : Int)))), ((16 : Nat), Tv.sv (Sv.one (At.int IntKind.i64 (0 : Int)))), ((3 : Nat), Tv.sv (Sv.one (At.ptr (8 : Nat) (0 : Nat)))), ((2 : Nat), Tv.sv (Sv.one (At.ptr (0 : Nat) (0 : Nat))))] [((0 : Nat), (0 : Nat), At.bool false), ((0 : Nat), (1 : Nat), At.words true []), ((0 : Nat), (2 : Nat), At.int IntKind.i64 (0 : Int)), ((0 : Nat), (3 : Nat), At.bool false), ((0 : Nat), (4 : Nat), At.words true []), ((0 : Nat), (5 : Nat), At.int IntKind.i64 (0 : Int)), ((8 : Nat), (0 : Nat), At.bool a.neg), ((8 : Nat), (1 : Nat), At.words false a.xs), ((8 : Nat), (2 : Nat), At.int IntKind.i64 a.e), ((8 : Nat), (3 : Nat), At.bool a.neg), ((8 : Nat), (4 : Nat), At.words false a.xs), ((8 : Nat), (5 : Nat), At.int IntKind.i64 a.e)] (14 : Nat) ∧             (((0 : Int) ≤ (0 : Int) ∧ (0 : Int) < (↑(1 : Nat) : Int)) ∧                 (Dx.Sm (68719476736 : Nat) b ∧ Dx.Sm (68719476736 : Nat) a) ∧                   br (ltI (cmpD b a) (0 : Int))                     ((Dx.Sm (68719476736 : Nat) b ∧ Dx.Sm (68719476736 : Nat) a) ∧                       br (ltI (0 : Int) (cmpD b a)) (inR ((0 : Int) + (1 : Int)) ∧ true = true ∧ Sg.mk [((14 : Nat), Tv.sv (Sv.one (At.rows false (3 : Nat) (1 : Nat) (dyL false b)))), ((15 : Nat), Tv.sv (Sv.one (At.int IntKind.i64 (↑(1 : Nat) : Int)))), ((16 : Nat), Tv.sv (Sv.one (At.int IntKind.i64 ((0 : Int) + (1 : Int))))), ((3 : Nat), Tv.sv (Sv.one (At.ptr (8 : Nat) (0 : Nat)))), ((2 : Nat), Tv.sv (Sv.one (At.ptr (0 : Nat) (0 : Nat))))] [((0 : Nat), (0 : Nat), At.bool false), ((0 : Nat), (1 : Nat), At.words true []), ((0 : Nat), (2 : Nat), At.int IntKind.i64 (0 : Int)), ((0 : Nat), (3 : Nat), At.bool false), ((0 : Nat), (4 : Nat), At.words true []), ((0 : Nat), (5 : Nat), At.int IntKind.i64 (0 : Int)), ((8 : Nat), (0 : Nat), At.bool b.neg), ((8 : Nat), (1 : Nat), At.words false b.xs), ((8 : Nat), (2 : Nat), At.int IntKind.i64 b.e), ((8 : Nat), (3 : Nat), At.bool b.neg), ((8 : Nat), (4 : Nat), At.words false b.xs), ((8 : Nat), (5 : Nat), At.int IntKind.i64 b.e)] (14 : Nat) = Sg.mk [((14 : Nat), Tv.sv (Sv.one (At.rows false (3 : Nat) (1 : Nat) (dyL false b)))), ((15 : Nat), Tv.sv (Sv.one (At.int IntKind.i64 (↑(1 : Nat) : Int)))), ((16 : Nat), Tv.sv (Sv.one (At.int IntKind.i64 (1 : Int)))), ((3 : Nat), Tv.sv (Sv.one (At.ptr (8 : Nat) (0 : Nat)))), ((2 : Nat), Tv.sv (Sv.one (At.ptr (0 : Nat) (0 : Nat))))] [((0 : Nat), (0 : Nat), At.bool false), ((0 : Nat), (1 : Nat), At.words true []), ((0 : Nat), (2 : Nat), At.int IntKind.i64 (0 : Int)), ((0 : Nat), (3 : Nat), At.bool false), ((0 : Nat), (4 : Nat), At.words true []), ((0 : Nat), (5 : Nat), At.int IntKind.i64 (0 : Int)), ((8 : Nat), (0 : Nat), At.bool (spanS (Vx.mk a a) b).lo.neg), ((8 : Nat), (1 : Nat), At.words false (spanS (Vx.mk a a) b).lo.xs), ((8 : Nat), (2 : Nat), At.int IntKind.i64 (spanS (Vx.mk a a) b).lo.e), ((8 : Nat), (3 : Nat), At.bool (spanS (Vx.mk a a) b).hi.neg), ((8 : Nat), (4 : Nat), At.words false (spanS (Vx.mk a a) b).hi.xs), ((8 : Nat), (5 : Nat), At.int IntKind.i64 (spanS (Vx.mk a a) b).hi.e)] (14 : Nat)) (inR ((0 : Int) + (1 : Int)) ∧ true = true ∧ Sg.mk [((14 : Nat), Tv.sv (Sv.one (At.rows false (3 : Nat) (1 : Nat) (dyL false b)))), ((15 : Nat), Tv.sv (Sv.one (At.int IntKind.i64 (↑(1 : Nat) : Int)))), ((16 : Nat), Tv.sv (Sv.one (At.int IntKind.i64 ((0 : Int) + (1 : Int))))), ((3 : Nat), Tv.sv (Sv.one (At.ptr (8 : Nat) (0 : Nat)))), ((2 : Nat), Tv.sv (Sv.one (At.ptr (0 : Nat) (0 : Nat))))] [((0 : Nat), (0 : Nat), At.bool false), ((0 : Nat), (1 : Nat), At.words true []), ((0 : Nat), (2 : Nat), At.int IntKind.i64 (0 : Int)), ((0 : Nat), (3 : Nat), At.bool false), ((0 : Nat), (4 : Nat), At.words true []), ((0 : Nat), (5 : Nat), At.int IntKind.i64 (0 : Int)), ((8 : Nat), (0 : Nat), At.bool b.neg), ((8 : Nat), (1 : Nat), At.words false b.xs), ((8 : Nat), (2 : Nat), At.int IntKind.i64 b.e), ((8 : Nat), (3 : Nat), At.bool a.neg), ((8 : Nat), (4 : Nat), At.words false a.xs), ((8 : Nat), (5 : Nat), At.int IntKind.i64 a.e)] (14 : Nat) = Sg.mk [((14 : Nat), Tv.sv (Sv.one (At.rows false (3 : Nat) (1 : Nat) (dyL false b)))), ((15 : Nat), Tv.sv (Sv.one (At.int IntKind.i64 (↑(1 : Nat) : Int)))), ((16 : Nat), Tv.sv (Sv.one (At.int IntKind.i64 (1 : Int)))), ((3 : Nat), Tv.sv (Sv.one (At.ptr (8 : Nat) (0 : Nat)))), ((2 : Nat), Tv.sv (Sv.one (At.ptr (0 : Nat) (0 : Nat))))] [((0 : Nat), (0 : Nat), At.bool false), ((0 : Nat), (1 : Nat), At.words true []), ((0 : Nat), (2 : Nat), At.int IntKind.i64 (0 : Int)), ((0 : Nat), (3 : Nat), At.bool false), ((0 : Nat), (4 : Nat), At.words true []), ((0 : Nat), (5 : Nat), At.int IntKind.i64 (0 : Int)), ((8 : Nat), (0 : Nat), At.bool (spanS (Vx.mk a a) b).lo.neg), ((8 : Nat), (1 : Nat), At.words false (spanS (Vx.mk a a) b).lo.xs), ((8 : Nat), (2 : Nat), At.int IntKind.i64 (spanS (Vx.mk a a) b).lo.e), ((8 : Nat), (3 : Nat), At.bool (spanS (Vx.mk a a) b).hi.neg), ((8 : Nat), (4 : Nat), At.words false (spanS (Vx.mk a a) b).hi.xs), ((8 : Nat), (5 : Nat), At.int IntKind.i64 (spanS (Vx.mk a a) b).hi.e)] (14 : Nat)))                     ((Dx.Sm (68719476736 : Nat) b ∧ Dx.Sm (68719476736 : Nat) a) ∧                       br (ltI (0 : Int) (cmpD b a)) (inR ((0 : Int) + (1 : Int)) ∧ true = true ∧ Sg.mk [((14 : Nat), Tv.sv (Sv.one (At.rows false (3 : Nat) (1 : Nat) (dyL false b)))), ((15 : Nat), Tv.sv (Sv.one (At.int IntKind.i64 (↑(1 : Nat) : Int)))), ((16 : Nat), Tv.sv (Sv.one (At.int IntKind.i64 ((0 : Int) + (1 : Int))))), ((3 : Nat), Tv.sv (Sv.one (At.ptr (8 : Nat) (0 : Nat)))), ((2 : Nat), Tv.sv (Sv.one (At.ptr (0 : Nat) (0 : Nat))))] [((0 : Nat), (0 : Nat), At.bool false), ((0 : Nat), (1 : Nat), At.words true []), ((0 : Nat), (2 : Nat), At.int IntKind.i64 (0 : Int)), ((0 : Nat), (3 : Nat), At.bool false), ((0 : Nat), (4 : Nat), At.words true []), ((0 : Nat), (5 : Nat), At.int IntKind.i64 (0 : Int)), ((8 : Nat), (0 : Nat), At.bool a.neg), ((8 : Nat), (1 : Nat), At.words false a.xs), ((8 : Nat), (2 : Nat), At.int IntKind.i64 a.e), ((8 : Nat), (3 : Nat), At.bool b.neg), ((8 : Nat), (4 : Nat), At.words false b.xs), ((8 : Nat), (5 : Nat), At.int IntKind.i64 b.e)] (14 : Nat) = Sg.mk [((14 : Nat), Tv.sv (Sv.one (At.rows false (3 : Nat) (1 : Nat) (dyL false b)))), ((15 : Nat), Tv.sv (Sv.one (At.int IntKind.i64 (↑(1 : Nat) : Int)))), ((16 : Nat), Tv.sv (Sv.one (At.int IntKind.i64 (1 : Int)))), ((3 : Nat), Tv.sv (Sv.one (At.ptr (8 : Nat) (0 : Nat)))), ((2 : Nat), Tv.sv (Sv.one (At.ptr (0 : Nat) (0 : Nat))))] [((0 : Nat), (0 : Nat), At.bool false), ((0 : Nat), (1 : Nat), At.words true []), ((0 : Nat), (2 : Nat), At.int IntKind.i64 (0 : Int)), ((0 : Nat), (3 : Nat), At.bool false), ((0 : Nat), (4 : Nat), At.words true []), ((0 : Nat), (5 : Nat), At.int IntKind.i64 (0 : Int)), ((8 : Nat), (0 : Nat), At.bool (spanS (Vx.mk a a) b).lo.neg), ((8 : Nat), (1 : Nat), At.words false (spanS (Vx.mk a a) b).lo.xs), ((8 : Nat), (2 : Nat), At.int IntKind.i64 (spanS (Vx.mk a a) b).lo.e), ((8 : Nat), (3 : Nat), At.bool (spanS (Vx.mk a a) b).hi.neg), ((8 : Nat), (4 : Nat), At.words false (spanS (Vx.mk a a) b).hi.xs), ((8 : Nat), (5 : Nat), At.int IntKind.i64 (spanS (Vx.mk a a) b).hi.e)] (14 : Nat)) (inR ((0 : Int) + (1 : Int)) ∧ true = true ∧ Sg.mk [((14 : Nat), Tv.sv (Sv.one (At.rows false (3 : Nat) (1 : Nat) (dyL false b)))), ((15 : Nat), Tv.sv (Sv.one (At.int IntKind.i64 (↑(1 : Nat) : Int)))), ((16 : Nat), Tv.sv (Sv.one (At.int IntKind.i64 ((0 : Int) + (1 : Int))))), ((3 : Nat), Tv.sv (Sv.one (At.ptr (8 : Nat) (0 : Nat)))), ((2 : Nat), Tv.sv (Sv.one (At.ptr (0 : Nat) (0 : Nat))))] [((0 : Nat), (0 : Nat), At.bool false), ((0 : Nat), (1 : Nat), At.words true []), ((0 : Nat), (2 : Nat), At.int IntKind.i64 (0 : Int)), ((0 : Nat), (3 : Nat), At.bool false), ((0 : Nat), (4 : Nat), At.words true []), ((0 : Nat), (5 : Nat), At.int IntKind.i64 (0 : Int)), ((8 : Nat), (0 : Nat), At.bool a.neg), ((8 : Nat), (1 : Nat), At.words false a.xs), ((8 : Nat), (2 : Nat), At.int IntKind.i64 a.e), ((8 : Nat), (3 : Nat), At.bool a.neg), ((8 : Nat), (4 : Nat), At.words false a.xs), ((8 : Nat), (5 : Nat), At.int IntKind.i64 a.e)] (14 : Nat) = Sg.mk [((14 : Nat), Tv.sv (Sv.one (At.rows false (3 : Nat) (1 : Nat) (dyL false b)))), ((15 : Nat), Tv.sv (Sv.one (At.int IntKind.i64 (↑(1 : Nat) : Int)))), ((16 : Nat), Tv.sv (Sv.one (At.int IntKind.i64 (1 : Int)))), ((3 : Nat), Tv.sv (Sv.one (At.ptr (8 : Nat) (0 : Nat)))), ((2 : Nat), Tv.sv (Sv.one (At.ptr (0 : Nat) (0 : Nat))))] [((0 : Nat), (0 : Nat), At.bool false), ((0 : Nat), (1 : Nat), At.words true []), ((0 : Nat), (2 : Nat), At.int IntKind.i64 (0 : Int)), ((0 : Nat), (3 : Nat), At.bool false), ((0 : Nat), (4 : Nat), At.words true []), ((0 : Nat), (5 : Nat), At.int IntKind.i64 (0 : Int)), ((8 : Nat), (0 : Nat), At.bool (spanS (Vx.mk a a) b).lo.neg), ((8 : Nat), (1 : Nat), At.words false (spanS (Vx.mk a a) b).lo.xs), ((8 : Nat), (2 : Nat), At.int IntKind.i64 (spanS (Vx.mk a a) b).lo.e), ((8 : Nat), (3 : Nat), At.bool (spanS (Vx.mk a a) b).hi.neg), ((8 : Nat), (4 : Nat), At.words false (spanS (Vx.mk a a) b).hi.xs), ((8 : Nat), (5 : Nat), At.int IntKind.i64 (spanS (Vx.mk a a) b).hi.e)] (14 : Nat)))) ∧               Q (Tv.sv (Sv.agg (ivL false (spanS (Vx.mk a a) b)))) ∧ True) := by kernel_rfl
theorem rSpan4_vc (a b c d : Dx) (v1 v2 v3 : Vx) (Q : Tv → Prop) : execF ⟨tys, sRaw4⟩ (invAt 3 (.cuts spK [spSt 3 (dyL false b ++ (dyL false c ++ dyL false d)) 0 ⟨a, a⟩, spSt 3 (dyL false b ++ (dyL false c ++ dyL false d)) 1 v1, spSt 3 (dyL false b ++ (dyL false c ++ dyL false d)) 2 v2, spSt 3 (dyL false b ++ (dyL false c ++ dyL false d)) 3 v3])) 0 Tryd.f59 [.one (.rows false 3 4 (dyL false a ++ (dyL false b ++ (dyL false c ++ dyL false d))))] Q = (((0 : Int) ≤ (0 : Int) ∧ (0 : Int) < (↑(4 : Nat) : Int)) ∧   ((0 : Int) ≤ (0 : Int) ∧ (0 : Int) < (↑(4 : Nat) : Int)) ∧     true = true ∧       ((0 : Int) ≤ (1 : Int) ∧ (1 : Int) < (↑(4 : Nat) : Int)) ∧         true = true ∧           Sg.mk [((14 : Nat), Tv.sv (Sv.one (At.rows false (3 : Nat) (3 : Nat) (At.bool b.neg :: At.words false b.xs :: At.int IntKind.i64 b.e :: ivL false (Vx.mk c d))))), ((15 : Nat), Tv.sv (Sv.one (At.int IntKind.i64 (↑(3 : Nat) : Int)))), ((16 : Nat), Tv.sv (Sv.one (At.int IntKind.i64 (0 : Int)))), ((3 : Nat), Tv.sv (Sv.one (At.ptr ((1 : Nat) + (7 : Nat)) (0 : Nat)))), ((2 : Nat), Tv.sv (Sv.one (At.ptr (0 : Nat) (0 : Nat))))] [((0 : Nat), (0 : Nat), At.bool false), ((0 : Nat), (1 : Nat), At.words true []), ((0 : Nat), (2 : Nat), At.int IntKind.i64 (0 : Int)), ((0 : Nat), (3 : Nat), At.bool false), ((0 : Nat), (4 : Nat), At.words true []), ((0 : Nat), (5 : Nat), At.int IntKind.i64 (0 : Int)), ((8 : Nat), (0 : Nat), At.bool a.neg), ((8 : Nat), (1 : Nat), At.words false a.xs), ((8 : Nat), (2 : Nat), At.int IntKind.i64 a.e), ((8 : Nat), (3 : Nat), At.bool a.neg), ((8 : Nat), (4 : Nat), At.words false a.xs), ((8 : Nat), (5 : Nat), At.int IntKind.i64 a.e)] (14 : Nat) = Sg.mk [((14 : Nat), Tv.sv (Sv.one (At.rows false (3 : Nat) (3 : Nat) (At.bool b.neg :: At.words false b.xs :: At.int IntKind.i64 b.e :: ivL false (Vx.mk c d))))), ((15 : Nat), Tv.sv (Sv.one (At.int IntKind.i64 (↑(3 : Nat) : Int)))), ((16 : Nat), Tv.sv (Sv.one (At.int IntKind.i64 (0 : Int)))), ((3 : Nat), Tv.sv (Sv.one (At.ptr (8 : Nat) (0 : Nat)))), ((2 : Nat), Tv.sv (Sv.one (At.ptr (0 : Nat) (0 : Nat))))] [((0 : Nat), (0 : Nat), At.bool false), ((0 : Nat), (1 : Nat), At.words true []), ((0 : Nat), (2 : Nat), At.int IntKind.i64 (0 : Int)), ((0 : Nat), (3 : Nat), At.bool false), ((0 : Nat), (4 : Nat), At.words true []), ((0 : Nat), (5 : Nat), At.int IntKind.i64 (0 : Int)), ((8 : Nat), (0 : Nat), At.bool a.neg), ((8 : Nat), (1 : Nat), At.words false a.xs), ((8 : Nat), (2 : Nat), At.int IntKind.i64 a.e), ((8 : Nat), (3 : Nat), At.bool a.neg), ((8 : Nat), (4 : Nat), At.words false a.xs), ((8 : Nat), (5 : Nat), At.int IntKind.i64 a.e)] (14 : Nat) ∧             (((0 : Int) ≤ (0 : Int) ∧ (0 : Int) < (↑(3 : Nat) : Int)) ∧                 (Dx.Sm (68719476736 : Nat) b ∧ Dx.Sm (68719476736 : Nat) a) ∧                   br (ltI (cmpD b a) (0 : Int))                     ((Dx.Sm (68719476736 : Nat) b ∧ Dx.Sm (68719476736 : Nat) a) ∧                       br (ltI (0 : Int) (cmpD b a)) (inR ((0 : Int) + (1 : Int)) ∧ true = true ∧ Sg.mk [((14 : Nat), Tv.sv (Sv.one (At.rows false (3 : Nat) (3 : Nat) (At.bool b.neg :: At.words false b.xs :: At.int IntKind.i64 b.e :: ivL false (Vx.mk c d))))), ((15 : Nat), Tv.sv (Sv.one (At.int IntKind.i64 (↑(3 : Nat) : Int)))), ((16 : Nat), Tv.sv (Sv.one (At.int IntKind.i64 ((0 : Int) + (1 : Int))))), ((3 : Nat), Tv.sv (Sv.one (At.ptr (8 : Nat) (0 : Nat)))), ((2 : Nat), Tv.sv (Sv.one (At.ptr (0 : Nat) (0 : Nat))))] [((0 : Nat), (0 : Nat), At.bool false), ((0 : Nat), (1 : Nat), At.words true []), ((0 : Nat), (2 : Nat), At.int IntKind.i64 (0 : Int)), ((0 : Nat), (3 : Nat), At.bool false), ((0 : Nat), (4 : Nat), At.words true []), ((0 : Nat), (5 : Nat), At.int IntKind.i64 (0 : Int)), ((8 : Nat), (0 : Nat), At.bool b.neg), ((8 : Nat), (1 : Nat), At.words false b.xs), ((8 : Nat), (2 : Nat), At.int IntKind.i64 b.e), ((8 : Nat), (3 : Nat), At.bool b.neg), ((8 : Nat), (4 : Nat), At.words false b.xs), ((8 : Nat), (5 : Nat), At.int IntKind.i64 b.e)] (14 : Nat) = Sg.mk [((14 : Nat), Tv.sv (Sv.one (At.rows false (3 : Nat) (3 : Nat) (At.bool b.neg :: At.words false b.xs :: At.int IntKind.i64 b.e :: ivL false (Vx.mk c d))))), ((15 : Nat), Tv.sv (Sv.one (At.int IntKind.i64 (↑(3 : Nat) : Int)))), ((16 : Nat), Tv.sv (Sv.one (At.int IntKind.i64 (1 : Int)))), ((3 : Nat), Tv.sv (Sv.one (At.ptr (8 : Nat) (0 : Nat)))), ((2 : Nat), Tv.sv (Sv.one (At.ptr (0 : Nat) (0 : Nat))))] [((0 : Nat), (0 : Nat), At.bool false), ((0 : Nat), (1 : Nat), At.words true []), ((0 : Nat), (2 : Nat), At.int IntKind.i64 (0 : Int)), ((0 : Nat), (3 : Nat), At.bool false), ((0 : Nat), (4 : Nat), At.words true []), ((0 : Nat), (5 : Nat), At.int IntKind.i64 (0 : Int)), ((8 : Nat), (0 : Nat), At.bool v1.lo.neg), ((8 : Nat), (1 : Nat), At.words false v1.lo.xs), ((8 : Nat), (2 : Nat), At.int IntKind.i64 v1.lo.e), ((8 : Nat), (3 : Nat), At.bool v1.hi.neg), ((8 : Nat), (4 : Nat), At.words false v1.hi.xs), ((8 : Nat), (5 : Nat), At.int IntKind.i64 v1.hi.e)] (14 : Nat))                         (inR ((0 : Int) + (1 : Int)) ∧ true = true ∧ Sg.mk [((14 : Nat), Tv.sv (Sv.one (At.rows false (3 : Nat) (3 : Nat) (At.bool b.neg :: At.words false b.xs :: At.int IntKind.i64 b.e :: ivL false (Vx.mk c d))))), ((15 : Nat), Tv.sv (Sv.one (At.int IntKind.i64 (↑(3 : Nat) : Int)))), ((16 : Nat), Tv.sv (Sv.one (At.int IntKind.i64 ((0 : Int) + (1 : Int))))), ((3 : Nat), Tv.sv (Sv.one (At.ptr (8 : Nat) (0 : Nat)))), ((2 : Nat), Tv.sv (Sv.one (At.ptr (0 : Nat) (0 : Nat))))] [((0 : Nat), (0 : Nat), At.bool false), ((0 : Nat), (1 : Nat), At.words true []), ((0 : Nat), (2 : Nat), At.int IntKind.i64 (0 : Int)), ((0 : Nat), (3 : Nat), At.bool false), ((0 : Nat), (4 : Nat), At.words true []), ((0 : Nat), (5 : Nat), At.int IntKind.i64 (0 : Int)), ((8 : Nat), (0 : Nat), At.bool b.neg), ((8 : Nat), (1 : Nat), At.words false b.xs), ((8 : Nat), (2 : Nat), At.int IntKind.i64 b.e), ((8 : Nat), (3 : Nat), At.bool a.neg), ((8 : Nat), (4 : Nat), At.words false a.xs), ((8 : Nat), (5 : Nat), At.int IntKind.i64 a.e)] (14 : Nat) = Sg.mk [((14 : Nat), Tv.sv (Sv.one (At.rows false (3 : Nat) (3 : Nat) (At.bool b.neg :: At.words false b.xs :: At.int IntKind.i64 b.e :: ivL false (Vx.mk c d))))), ((15 : Nat), Tv.sv (Sv.one (At.int IntKind.i64 (↑(3 : Nat) : Int)))), ((16 : Nat), Tv.sv (Sv.one (At.int IntKind.i64 (1 : Int)))), ((3 : Nat), Tv.sv (Sv.one (At.ptr (8 : Nat) (0 : Nat)))), ((2 : Nat), Tv.sv (Sv.one (At.ptr (0 : Nat) (0 : Nat))))] [((0 : Nat), (0 : Nat), At.bool false), ((0 : Nat), (1 : Nat), At.words true []), ((0 : Nat), (2 : Nat), At.int IntKind.i64 (0 : Int)), ((0 : Nat), (3 : Nat), At.bool false), ((0 : Nat), (4 : Nat), At.words true []), ((0 : Nat), (5 : Nat), At.int IntKind.i64 (0 : Int)), ((8 : Nat), (0 : Nat), At.bool v1.lo.neg), ((8 : Nat), (1 : Nat), At.words false v1.lo.xs), ((8 : Nat), (2 : Nat), At.int IntKind.i64 v1.lo.e), ((8 : Nat), (3 : Nat), At.bool v1.hi.neg), ((8 : Nat), (4 : Nat), At.words false v1.hi.xs), ((8 : Nat), (5 : Nat), At.int IntKind.i64 v1.hi.e)] (14 : Nat)))                     ((Dx.Sm (68719476736 : Nat) b ∧ Dx.Sm (68719476736 : Nat) a) ∧                       br (ltI (0 : Int) (cmpD b a)) (inR ((0 : Int) + (1 : Int)) ∧ true = true ∧ Sg.mk [((14 : Nat), Tv.sv (Sv.one (At.rows false (3 : Nat) (3 : Nat) (At.bool b.neg :: At.words false b.xs :: At.int IntKind.i64 b.e :: ivL false (Vx.mk c d))))), ((15 : Nat), Tv.sv (Sv.one (At.int IntKind.i64 (↑(3 : Nat) : Int)))), ((16 : Nat), Tv.sv (Sv.one (At.int IntKind.i64 ((0 : Int) + (1 : Int))))), ((3 : Nat), Tv.sv (Sv.one (At.ptr (8 : Nat) (0 : Nat)))), ((2 : Nat), Tv.sv (Sv.one (At.ptr (0 : Nat) (0 : Nat))))] [((0 : Nat), (0 : Nat), At.bool false), ((0 : Nat), (1 : Nat), At.words true []), ((0 : Nat), (2 : Nat), At.int IntKind.i64 (0 : Int)), ((0 : Nat), (3 : Nat), At.bool false), ((0 : Nat), (4 : Nat), At.words true []), ((0 : Nat), (5 : Nat), At.int IntKind.i64 (0 : Int)), ((8 : Nat), (0 : Nat), At.bool a.neg), ((8 : Nat), (1 : Nat), At.words false a.xs), ((8 : Nat), (2 : Nat), At.int IntKind.i64 a.e), ((8 : Nat), (3 : Nat), At.bool b.neg), ((8 : Nat), (4 : Nat), At.words false b.xs), ((8 : Nat), (5 : Nat), At.int IntKind.i64 b.e)] (14 : Nat) = Sg.mk [((14 : Nat), Tv.sv (Sv.one (At.rows false (3 : Nat) (3 : Nat) (At.bool b.neg :: At.words false b.xs :: At.int IntKind.i64 b.e :: ivL false (Vx.mk c d))))), ((15 : Nat), Tv.sv (Sv.one (At.int IntKind.i64 (↑(3 : Nat) : Int)))), ((16 : Nat), Tv.sv (Sv.one (At.int IntKind.i64 (1 : Int)))), ((3 : Nat), Tv.sv (Sv.one (At.ptr (8 : Nat) (0 : Nat)))), ((2 : Nat), Tv.sv (Sv.one (At.ptr (0 : Nat) (0 : Nat))))] [((0 : Nat), (0 : Nat), At.bool false), ((0 : Nat), (1 : Nat), At.words true []), ((0 : Nat), (2 : Nat), At.int IntKind.i64 (0 : Int)), ((0 : Nat), (3 : Nat), At.bool false), ((0 : Nat), (4 : Nat), At.words true []), ((0 : Nat), (5 : Nat), At.int IntKind.i64 (0 : Int)), ((8 : Nat), (0 : Nat), At.bool v1.lo.neg), ((8 : Nat), (1 : Nat), At.words false v1.lo.xs), ((8 : Nat), (2 : Nat), At.int IntKind.i64 v1.lo.e), ((8 : Nat), (3 : Nat), At.bool v1.hi.neg), ((8 : Nat), (4 : Nat), At.words false v1.hi.xs), ((8 : Nat), (5 : Nat), At.int IntKind.i64 v1.hi.e)] (14 : Nat))                         (inR ((0 : Int) + (1 : Int)) ∧ true = true ∧ Sg.mk [((14 : Nat), Tv.sv (Sv.one (At.rows false (3 : Nat) (3 : Nat) (At.bool b.neg :: At.words false b.xs :: At.int IntKind.i64 b.e :: ivL false (Vx.mk c d))))), ((15 : Nat), Tv.sv (Sv.one (At.int IntKind.i64 (↑(3 : Nat) : Int)))), ((16 : Nat), Tv.sv (Sv.one (At.int IntKind.i64 ((0 : Int) + (1 : Int))))), ((3 : Nat), Tv.sv (Sv.one (At.ptr (8 : Nat) (0 : Nat)))), ((2 : Nat), Tv.sv (Sv.one (At.ptr (0 : Nat) (0 : Nat))))] [((0 : Nat), (0 : Nat), At.bool false), ((0 : Nat), (1 : Nat), At.words true []), ((0 : Nat), (2 : Nat), At.int IntKind.i64 (0 : Int)), ((0 : Nat), (3 : Nat), At.bool false), ((0 : Nat), (4 : Nat), At.words true []), ((0 : Nat), (5 : Nat), At.int IntKind.i64 (0 : Int)), ((8 : Nat), (0 : Nat), At.bool a.neg), ((8 : Nat), (1 : Nat), At.words false a.xs), ((8 : Nat), (2 : Nat), At.int IntKind.i64 a.e), ((8 : Nat), (3 : Nat), At.bool a.neg), ((8 : Nat), (4 : Nat), At.words false a.xs), ((8 : Nat), (5 : Nat), At.int IntKind.i64 a.e)] (14 : Nat) = Sg.mk [((14 : Nat), Tv.sv (Sv.one (At.rows false (3 : Nat) (3 : Nat) (At.bool b.neg :: At.words false b.xs :: At.int IntKind.i64 b.e :: ivL false (Vx.mk c d))))), ((15 : Nat), Tv.sv (Sv.one (At.int IntKind.i64 (↑(3 : Nat) : Int)))), ((16 : Nat), Tv.sv (Sv.one (At.int IntKind.i64 (1 : Int)))), ((3 : Nat), Tv.sv (Sv.one (At.ptr (8 : Nat) (0 : Nat)))), ((2 : Nat), Tv.sv (Sv.one (At.ptr (0 : Nat) (0 : Nat))))] [((0 : Nat), (0 : Nat), At.bool false), ((0 : Nat), (1 : Nat), At.words true []), ((0 : Nat), (2 : Nat), At.int IntKind.i64 (0 : Int)), ((0 : Nat), (3 : Nat), At.bool false), ((0 : Nat), (4 : Nat), At.words true []), ((0 : Nat), (5 : Nat), At.int IntKind.i64 (0 : Int)), ((8 : Nat), (0 : Nat), At.bool v1.lo.neg), ((8 : Nat), (1 : Nat), At.words false v1.lo.xs), ((8 : Nat), (2 : Nat), At.int IntKind.i64 v1.lo.e), ((8 : Nat), (3 : Nat), At.bool v1.hi.neg), ((8 : Nat), (4 : Nat), At.words false v1.hi.xs), ((8 : Nat), (5 : Nat), At.int IntKind.i64 v1.hi.e)] (14 : Nat)))) ∧               (((0 : Int) ≤ (1 : Int) ∧ (1 : Int) < (↑(3 : Nat) : Int)) ∧                   (Dx.Sm (68719476736 : Nat) c ∧ Dx.Sm (68719476736 : Nat) v1.lo) ∧                     br (ltI (cmpD c v1.lo) (0 : Int))                       ((Dx.Sm (68719476736 : Nat) c ∧ Dx.Sm (68719476736 : Nat) v1.hi) ∧                         br (ltI (0 : Int) (cmpD c v1.hi)) (inR ((1 : Int) + (1 : Int)) ∧ true = true ∧ Sg.mk [((14 : Nat), Tv.sv (Sv.one (At.rows false (3 : Nat) (3 : Nat) (At.bool b.neg :: At.words false b.xs :: At.int IntKind.i64 b.e :: ivL false (Vx.mk c d))))), ((15 : Nat), Tv.sv (Sv.one (At.int IntKind.i64 (↑(3 : Nat) : Int)))), ((16 : Nat), Tv.sv (Sv.one (At.int IntKind.i64 ((1 : Int) + (1 : Int))))), ((3 : Nat), Tv.sv (Sv.one (At.ptr (8 : Nat) (0 : Nat)))), ((2 : Nat), Tv.sv (Sv.one (At.ptr (0 : Nat) (0 : Nat))))] [((0 : Nat), (0 : Nat), At.bool false), ((0 : Nat), (1 : Nat), At.words true []), ((0 : Nat), (2 : Nat), At.int IntKind.i64 (0 : Int)), ((0 : Nat), (3 : Nat), At.bool false), ((0 : Nat), (4 : Nat), At.words true []), ((0 : Nat), (5 : Nat), At.int IntKind.i64 (0 : Int)), ((8 : Nat), (0 : Nat), At.bool c.neg), ((8 : Nat), (1 : Nat), At.words false c.xs), ((8 : Nat), (2 : Nat), At.int IntKind.i64 c.e), ((8 : Nat), (3 : Nat), At.bool c.neg), ((8 : Nat), (4 : Nat), At.words false c.xs), ((8 : Nat), (5 : Nat), At.int IntKind.i64 c.e)] (14 : Nat) = Sg.mk [((14 : Nat), Tv.sv (Sv.one (At.rows false (3 : Nat) (3 : Nat) (At.bool b.neg :: At.words false b.xs :: At.int IntKind.i64 b.e :: ivL false (Vx.mk c d))))), ((15 : Nat), Tv.sv (Sv.one (At.int IntKind.i64 (↑(3 : Nat) : Int)))), ((16 : Nat), Tv.sv (Sv.one (At.int IntKind.i64 (2 : Int)))), ((3 : Nat), Tv.sv (Sv.one (At.ptr (8 : Nat) (0 : Nat)))), ((2 : Nat), Tv.sv (Sv.one (At.ptr (0 : Nat) (0 : Nat))))] [((0 : Nat), (0 : Nat), At.bool false), ((0 : Nat), (1 : Nat), At.words true []), ((0 : Nat), (2 : Nat), At.int IntKind.i64 (0 : Int)), ((0 : Nat), (3 : Nat), At.bool false), ((0 : Nat), (4 : Nat), At.words true []), ((0 : Nat), (5 : Nat), At.int IntKind.i64 (0 : Int)), ((8 : Nat), (0 : Nat), At.bool v2.lo.neg), ((8 : Nat), (1 : Nat), At.words false v2.lo.xs), ((8 : Nat), (2 : Nat), At.int IntKind.i64 v2.lo.e), ((8 : Nat), (3 : Nat), At.bool v2.hi.neg), ((8 : Nat), (4 : Nat), At.words false v2.hi.xs), ((8 : Nat), (5 : Nat), At.int IntKind.i64 v2.hi.e)] (14 : Nat))                           (inR ((1 : Int) + (1 : Int)) ∧ true = true ∧ Sg.mk [((14 : Nat), Tv.sv (Sv.one (At.rows false (3 : Nat) (3 : Nat) (At.bool b.neg :: At.words false b.xs :: At.int IntKind.i64 b.e :: ivL false (Vx.mk c d))))), ((15 : Nat), Tv.sv (Sv.one (At.int IntKind.i64 (↑(3 : Nat) : Int)))), ((16 : Nat), Tv.sv (Sv.one (At.int IntKind.i64 ((1 : Int) + (1 : Int))))), ((3 : Nat), Tv.sv (Sv.one (At.ptr (8 : Nat) (0 : Nat)))), ((2 : Nat), Tv.sv (Sv.one (At.ptr (0 : Nat) (0 : Nat))))] [((0 : Nat), (0 : Nat), At.bool false), ((0 : Nat), (1 : Nat), At.words true []), ((0 : Nat), (2 : Nat), At.int IntKind.i64 (0 : Int)), ((0 : Nat), (3 : Nat), At.bool false), ((0 : Nat), (4 : Nat), At.words true []), ((0 : Nat), (5 : Nat), At.int IntKind.i64 (0 : Int)), ((8 : Nat), (0 : Nat), At.bool c.neg), ((8 : Nat), (1 : Nat), At.words false c.xs), ((8 : Nat), (2 : Nat), At.int IntKind.i64 c.e), ((8 : Nat), (3 : Nat), At.bool v1.hi.neg), ((8 : Nat), (4 : Nat), At.words false v1.hi.xs), ((8 : Nat), (5 : Nat), At.int IntKind.i64 v1.hi.e)] (14 : Nat) = Sg.mk [((14 : Nat), Tv.sv (Sv.one (At.rows false (3 : Nat) (3 : Nat) (At.bool b.neg :: At.words false b.xs :: At.int IntKind.i64 b.e :: ivL false (Vx.mk c d))))), ((15 : Nat), Tv.sv (Sv.one (At.int IntKind.i64 (↑(3 : Nat) : Int)))), ((16 : Nat), Tv.sv (Sv.one (At.int IntKind.i64 (2 : Int)))), ((3 : Nat), Tv.sv (Sv.one (At.ptr (8 : Nat) (0 : Nat)))), ((2 : Nat), Tv.sv (Sv.one (At.ptr (0 : Nat) (0 : Nat))))] [((0 : Nat), (0 : Nat), At.bool false), ((0 : Nat), (1 : Nat), At.words true []), ((0 : Nat), (2 : Nat), At.int IntKind.i64 (0 : Int)), ((0 : Nat), (3 : Nat), At.bool false), ((0 : Nat), (4 : Nat), At.words true []), ((0 : Nat), (5 : Nat), At.int IntKind.i64 (0 : Int)), ((8 : Nat), (0 : Nat), At.bool v2.lo.neg), ((8 : Nat), (1 : Nat), At.words false v2.lo.xs), ((8 : Nat), (2 : Nat), At.int IntKind.i64 v2.lo.e), ((8 : Nat), (3 : Nat), At.bool v2.hi.neg), ((8 : Nat), (4 : Nat), At.words false v2.hi.xs), ((8 : Nat), (5 : Nat), At.int IntKind.i64 v2.hi.e)] (14 : Nat)))                       ((Dx.Sm (68719476736 : Nat) c ∧ Dx.Sm (68719476736 : Nat) v1.hi) ∧                         br (ltI (0 : Int) (cmpD c v1.hi)) (inR ((1 : Int) + (1 : Int)) ∧ true = true ∧ Sg.mk [((14 : Nat), Tv.sv (Sv.one (At.rows false (3 : Nat) (3 : Nat) (At.bool b.neg :: At.words false b.xs :: At.int IntKind.i64 b.e :: ivL false (Vx.mk c d))))), ((15 : Nat), Tv.sv (Sv.one (At.int IntKind.i64 (↑(3 : Nat) : Int)))), ((16 : Nat), Tv.sv (Sv.one (At.int IntKind.i64 ((1 : Int) + (1 : Int))))), ((3 : Nat), Tv.sv (Sv.one (At.ptr (8 : Nat) (0 : Nat)))), ((2 : Nat), Tv.sv (Sv.one (At.ptr (0 : Nat) (0 : Nat))))] [((0 : Nat), (0 : Nat), At.bool false), ((0 : Nat), (1 : Nat), At.words true []), ((0 : Nat), (2 : Nat), At.int IntKind.i64 (0 : Int)), ((0 : Nat), (3 : Nat), At.bool false), ((0 : Nat), (4 : Nat), At.words true []), ((0 : Nat), (5 : Nat), At.int IntKind.i64 (0 : Int)), ((8 : Nat), (0 : Nat), At.bool v1.lo.neg), ((8 : Nat), (1 : Nat), At.words false v1.lo.xs), ((8 : Nat), (2 : Nat), At.int IntKind.i64 v1.lo.e), ((8 : Nat), (3 : Nat), At.bool c.neg), ((8 : Nat), (4 : Nat), At.words false c.xs), ((8 : Nat), (5 : Nat), At.int IntKind.i64 c.e)] (14 : Nat) = Sg.mk [((14 : Nat), Tv.sv (Sv.one (At.rows false (3 : Nat) (3 : Nat) (At.bool b.neg :: At.words false b.xs :: At.int IntKind.i64 b.e :: ivL false (Vx.mk c d))))), ((15 : Nat), Tv.sv (Sv.one (At.int IntKind.i64 (↑(3 : Nat) : Int)))), ((16 : Nat), Tv.sv (Sv.one (At.int IntKind.i64 (2 : Int)))), ((3 : Nat), Tv.sv (Sv.one (At.ptr (8 : Nat) (0 : Nat)))), ((2 : Nat), Tv.sv (Sv.one (At.ptr (0 : Nat) (0 : Nat))))] [((0 : Nat), (0 : Nat), At.bool false), ((0 : Nat), (1 : Nat), At.words true []), ((0 : Nat), (2 : Nat), At.int IntKind.i64 (0 : Int)), ((0 : Nat), (3 : Nat), At.bool false), ((0 : Nat), (4 : Nat), At.words true []), ((0 : Nat), (5 : Nat), At.int IntKind.i64 (0 : Int)), ((8 : Nat), (0 : Nat), At.bool v2.lo.neg), ((8 : Nat), (1 : Nat), At.words false v2.lo.xs), ((8 : Nat), (2 : Nat), At.int IntKind.i64 v2.lo.e), ((8 : Nat), (3 : Nat), At.bool v2.hi.neg), ((8 : Nat), (4 : Nat), At.words false v2.hi.xs), ((8 : Nat), (5 : Nat), At.int IntKind.i64 v2.hi.e)] (14 : Nat))                           (inR ((1 : Int) + (1 : Int)) ∧ true = true ∧ Sg.mk [((14 : Nat), Tv.sv (Sv.one (At.rows false (3 : Nat) (3 : Nat) (At.bool b.neg :: At.words false b.xs :: At.int IntKind.i64 b.e :: ivL false (Vx.mk c d))))), ((15 : Nat), Tv.sv (Sv.one (At.int IntKind.i64 (↑(3 : Nat) : Int)))), ((16 : Nat), Tv.sv (Sv.one (At.int IntKind.i64 ((1 : Int) + (1 : Int))))), ((3 : Nat), Tv.sv (Sv.one (At.ptr (8 : Nat) (0 : Nat)))), ((2 : Nat), Tv.sv (Sv.one (At.ptr (0 : Nat) (0 : Nat))))] [((0 : Nat), (0 : Nat), At.bool false), ((0 : Nat), (1 : Nat), At.words true []), ((0 : Nat), (2 : Nat), At.int IntKind.i64 (0 : Int)), ((0 : Nat), (3 : Nat), At.bool false), ((0 : Nat), (4 : Nat), At.words true []), ((0 : Nat), (5 : Nat), At.int IntKind.i64 (0 : Int)), ((8 : Nat), (0 : Nat), At.bool v1.lo.neg), ((8 : Nat), (1 : Nat), At.words false v1.lo.xs), ((8 : Nat), (2 : Nat), At.int IntKind.i64 v1.lo.e), ((8 : Nat), (3 : Nat), At.bool v1.hi.neg), ((8 : Nat), (4 : Nat), At.words false v1.hi.xs), ((8 : Nat), (5 : Nat), At.int IntKind.i64 v1.hi.e)] (14 : Nat) = Sg.mk [((14 : Nat), Tv.sv (Sv.one (At.rows false (3 : Nat) (3 : Nat) (At.bool b.neg :: At.words false b.xs :: At.int IntKind.i64 b.e :: ivL false (Vx.mk c d))))), ((15 : Nat), Tv.sv (Sv.one (At.int IntKind.i64 (↑(3 : Nat) : Int)))), ((16 : Nat), Tv.sv (Sv.one (At.int IntKind.i64 (2 : Int)))), ((3 : Nat), Tv.sv (Sv.one (At.ptr (8 : Nat) (0 : Nat)))), ((2 : Nat), Tv.sv (Sv.one (At.ptr (0 : Nat) (0 : Nat))))] [((0 : Nat), (0 : Nat), At.bool false), ((0 : Nat), (1 : Nat), At.words true []), ((0 : Nat), (2 : Nat), At.int IntKind.i64 (0 : Int)), ((0 : Nat), (3 : Nat), At.bool false), ((0 : Nat), (4 : Nat), At.words true []), ((0 : Nat), (5 : Nat), At.int IntKind.i64 (0 : Int)), ((8 : Nat), (0 : Nat), At.bool v2.lo.neg), ((8 : Nat), (1 : Nat), At.words false v2.lo.xs), ((8 : Nat), (2 : Nat), At.int IntKind.i64 v2.lo.e), ((8 : Nat), (3 : Nat), At.bool v2.hi.neg), ((8 : Nat), (4 : Nat), At.words false v2.hi.xs), ((8 : Nat), (5 : Nat), At.int IntKind.i64 v2.hi.e)] (14 : Nat)))) ∧                 (((0 : Int) ≤ (2 : Int) ∧ (2 : Int) < (↑(3 : Nat) : Int)) ∧                     (Dx.Sm (68719476736 : Nat) d ∧ Dx.Sm (68719476736 : Nat) v2.lo) ∧                       br (ltI (cmpD d v2.lo) (0 : Int))                         ((Dx.Sm (68719476736 : Nat) d ∧ Dx.Sm (68719476736 : Nat) v2.hi) ∧                           br (ltI (0 : Int) (cmpD d v2.hi)) (inR ((2 : Int) + (1 : Int)) ∧ true = true ∧ Sg.mk [((14 : Nat), Tv.sv (Sv.one (At.rows false (3 : Nat) (3 : Nat) (At.bool b.neg :: At.words false b.xs :: At.int IntKind.i64 b.e :: ivL false (Vx.mk c d))))), ((15 : Nat), Tv.sv (Sv.one (At.int IntKind.i64 (↑(3 : Nat) : Int)))), ((16 : Nat), Tv.sv (Sv.one (At.int IntKind.i64 ((2 : Int) + (1 : Int))))), ((3 : Nat), Tv.sv (Sv.one (At.ptr (8 : Nat) (0 : Nat)))), ((2 : Nat), Tv.sv (Sv.one (At.ptr (0 : Nat) (0 : Nat))))] [((0 : Nat), (0 : Nat), At.bool false), ((0 : Nat), (1 : Nat), At.words true []), ((0 : Nat), (2 : Nat), At.int IntKind.i64 (0 : Int)), ((0 : Nat), (3 : Nat), At.bool false), ((0 : Nat), (4 : Nat), At.words true []), ((0 : Nat), (5 : Nat), At.int IntKind.i64 (0 : Int)), ((8 : Nat), (0 : Nat), At.bool d.neg), ((8 : Nat), (1 : Nat), At.words false d.xs), ((8 : Nat), (2 : Nat), At.int IntKind.i64 d.e), ((8 : Nat), (3 : Nat), At.bool d.neg), ((8 : Nat), (4 : Nat), At.words false d.xs), ((8 : Nat), (5 : Nat), At.int IntKind.i64 d.e)] (14 : Nat) = Sg.mk [((14 : Nat), Tv.sv (Sv.one (At.rows false (3 : Nat) (3 : Nat) (At.bool b.neg :: At.words false b.xs :: At.int IntKind.i64 b.e :: ivL false (Vx.mk c d))))), ((15 : Nat), Tv.sv (Sv.one (At.int IntKind.i64 (↑(3 : Nat) : Int)))), ((16 : Nat), Tv.sv (Sv.one (At.int IntKind.i64 (3 : Int)))), ((3 : Nat), Tv.sv (Sv.one (At.ptr (8 : Nat) (0 : Nat)))), ((2 : Nat), Tv.sv (Sv.one (At.ptr (0 : Nat) (0 : Nat))))] [((0 : Nat), (0 : Nat), At.bool false), ((0 : Nat), (1 : Nat), At.words true []), ((0 : Nat), (2 : Nat), At.int IntKind.i64 (0 : Int)), ((0 : Nat), (3 : Nat), At.bool false), ((0 : Nat), (4 : Nat), At.words true []), ((0 : Nat), (5 : Nat), At.int IntKind.i64 (0 : Int)), ((8 : Nat), (0 : Nat), At.bool v3.lo.neg), ((8 : Nat), (1 : Nat), At.words false v3.lo.xs), ((8 : Nat), (2 : Nat), At.int IntKind.i64 v3.lo.e), ((8 : Nat), (3 : Nat), At.bool v3.hi.neg), ((8 : Nat), (4 : Nat), At.words false v3.hi.xs), ((8 : Nat), (5 : Nat), At.int IntKind.i64 v3.hi.e)] (14 : Nat))                             (inR ((2 : Int) + (1 : Int)) ∧ true = true ∧ Sg.mk [((14 : Nat), Tv.sv (Sv.one (At.rows false (3 : Nat) (3 : Nat) (At.bool b.neg :: At.words false b.xs :: At.int IntKind.i64 b.e :: ivL false (Vx.mk c d))))), ((15 : Nat), Tv.sv (Sv.one (At.int IntKind.i64 (↑(3 : Nat) : Int)))), ((16 : Nat), Tv.sv (Sv.one (At.int IntKind.i64 ((2 : Int) + (1 : Int))))), ((3 : Nat), Tv.sv (Sv.one (At.ptr (8 : Nat) (0 : Nat)))), ((2 : Nat), Tv.sv (Sv.one (At.ptr (0 : Nat) (0 : Nat))))] [((0 : Nat), (0 : Nat), At.bool false), ((0 : Nat), (1 : Nat), At.words true []), ((0 : Nat), (2 : Nat), At.int IntKind.i64 (0 : Int)), ((0 : Nat), (3 : Nat), At.bool false), ((0 : Nat), (4 : Nat), At.words true []), ((0 : Nat), (5 : Nat), At.int IntKind.i64 (0 : Int)), ((8 : Nat), (0 : Nat), At.bool d.neg), ((8 : Nat), (1 : Nat), At.words false d.xs), ((8 : Nat), (2 : Nat), At.int IntKind.i64 d.e), ((8 : Nat), (3 : Nat), At.bool v2.hi.neg), ((8 : Nat), (4 : Nat), At.words false v2.hi.xs), ((8 : Nat), (5 : Nat), At.int IntKind.i64 v2.hi.e)] (14 : Nat) = Sg.mk [((14 : Nat), Tv.sv (Sv.one (At.rows false (3 : Nat) (3 : Nat) (At.bool b.neg :: At.words false b.xs :: At.int IntKind.i64 b.e :: ivL false (Vx.mk c d))))), ((15 : Nat), Tv.sv (Sv.one (At.int IntKind.i64 (↑(3 : Nat) : Int)))), ((16 : Nat), Tv.sv (Sv.one (At.int IntKind.i64 (3 : Int)))), ((3 : Nat), Tv.sv (Sv.one (At.ptr (8 : Nat) (0 : Nat)))), ((2 : Nat), Tv.sv (Sv.one (At.ptr (0 : Nat) (0 : Nat))))] [((0 : Nat), (0 : Nat), At.bool false), ((0 : Nat), (1 : Nat), At.words true []), ((0 : Nat), (2 : Nat), At.int IntKind.i64 (0 : Int)), ((0 : Nat), (3 : Nat), At.bool false), ((0 : Nat), (4 : Nat), At.words true []), ((0 : Nat), (5 : Nat), At.int IntKind.i64 (0 : Int)), ((8 : Nat), (0 : Nat), At.bool v3.lo.neg), ((8 : Nat), (1 : Nat), At.words false v3.lo.xs), ((8 : Nat), (2 : Nat), At.int IntKind.i64 v3.lo.e), ((8 : Nat), (3 : Nat), At.bool v3.hi.neg), ((8 : Nat), (4 : Nat), At.words false v3.hi.xs), ((8 : Nat), (5 : Nat), At.int IntKind.i64 v3.hi.e)] (14 : Nat)))                         ((Dx.Sm (68719476736 : Nat) d ∧ Dx.Sm (68719476736 : Nat) v2.hi) ∧                           br (ltI (0 : Int) (cmpD d v2.hi)) (inR ((2 : Int) + (1 : Int)) ∧ true = true ∧ Sg.mk [((14 : Nat), Tv.sv (Sv.one (At.rows false (3 : Nat) (3 : Nat) (At.bool b.neg :: At.words false b.xs :: At.int IntKind.i64 b.e :: ivL false (Vx.mk c d))))), ((15 : Nat), Tv.sv (Sv.one (At.int IntKind.i64 (↑(3 : Nat) : Int)))), ((16 : Nat), Tv.sv (Sv.one (At.int IntKind.i64 ((2 : Int) + (1 : Int))))), ((3 : Nat), Tv.sv (Sv.one (At.ptr (8 : Nat) (0 : Nat)))), ((2 : Nat), Tv.sv (Sv.one (At.ptr (0 : Nat) (0 : Nat))))] [((0 : Nat), (0 : Nat), At.bool false), ((0 : Nat), (1 : Nat), At.words true []), ((0 : Nat), (2 : Nat), At.int IntKind.i64 (0 : Int)), ((0 : Nat), (3 : Nat), At.bool false), ((0 : Nat), (4 : Nat), At.words true []), ((0 : Nat), (5 : Nat), At.int IntKind.i64 (0 : Int)), ((8 : Nat), (0 : Nat), At.bool v2.lo.neg), ((8 : Nat), (1 : Nat), At.words false v2.lo.xs), ((8 : Nat), (2 : Nat), At.int IntKind.i64 v2.lo.e), ((8 : Nat), (3 : Nat), At.bool d.neg), ((8 : Nat), (4 : Nat), At.words false d.xs), ((8 : Nat), (5 : Nat), At.int IntKind.i64 d.e)] (14 : Nat) = Sg.mk [((14 : Nat), Tv.sv (Sv.one (At.rows false (3 : Nat) (3 : Nat) (At.bool b.neg :: At.words false b.xs :: At.int IntKind.i64 b.e :: ivL false (Vx.mk c d))))), ((15 : Nat), Tv.sv (Sv.one (At.int IntKind.i64 (↑(3 : Nat) : Int)))), ((16 : Nat), Tv.sv (Sv.one (At.int IntKind.i64 (3 : Int)))), ((3 : Nat), Tv.sv (Sv.one (At.ptr (8 : Nat) (0 : Nat)))), ((2 : Nat), Tv.sv (Sv.one (At.ptr (0 : Nat) (0 : Nat))))] [((0 : Nat), (0 : Nat), At.bool false), ((0 : Nat), (1 : Nat), At.words true []), ((0 : Nat), (2 : Nat), At.int IntKind.i64 (0 : Int)), ((0 : Nat), (3 : Nat), At.bool false), ((0 : Nat), (4 : Nat), At.words true []), ((0 : Nat), (5 : Nat), At.int IntKind.i64 (0 : Int)), ((8 : Nat), (0 : Nat), At.bool v3.lo.neg), ((8 : Nat), (1 : Nat), At.words false v3.lo.xs), ((8 : Nat), (2 : Nat), At.int IntKind.i64 v3.lo.e), ((8 : Nat), (3 : Nat), At.bool v3.hi.neg), ((8 : Nat), (4 : Nat), At.words false v3.hi.xs), ((8 : Nat), (5 : Nat), At.int IntKind.i64 v3.hi.e)] (14 : Nat))                             (inR ((2 : Int) + (1 : Int)) ∧ true = true ∧ Sg.mk [((14 : Nat), Tv.sv (Sv.one (At.rows false (3 : Nat) (3 : Nat) (At.bool b.neg :: At.words false b.xs :: At.int IntKind.i64 b.e :: ivL false (Vx.mk c d))))), ((15 : Nat), Tv.sv (Sv.one (At.int IntKind.i64 (↑(3 : Nat) : Int)))), ((16 : Nat), Tv.sv (Sv.one (At.int IntKind.i64 ((2 : Int) + (1 : Int))))), ((3 : Nat), Tv.sv (Sv.one (At.ptr (8 : Nat) (0 : Nat)))), ((2 : Nat), Tv.sv (Sv.one (At.ptr (0 : Nat) (0 : Nat))))] [((0 : Nat), (0 : Nat), At.bool false), ((0 : Nat), (1 : Nat), At.words true []), ((0 : Nat), (2 : Nat), At.int IntKind.i64 (0 : Int)), ((0 : Nat), (3 : Nat), At.bool false), ((0 : Nat), (4 : Nat), At.words true []), ((0 : Nat), (5 : Nat), At.int IntKind.i64 (0 : Int)), ((8 : Nat), (0 : Nat), At.bool v2.lo.neg), ((8 : Nat), (1 : Nat), At.words false v2.lo.xs), ((8 : Nat), (2 : Nat), At.int IntKind.i64 v2.lo.e), ((8 : Nat), (3 : Nat), At.bool v2.hi.neg), ((8 : Nat), (4 : Nat), At.words false v2.hi.xs), ((8 : Nat), (5 : Nat), At.int IntKind.i64 v2.hi.e)] (14 : Nat) = Sg.mk [((14 : Nat), Tv.sv (Sv.one (At.rows false (3 : Nat) (3 : Nat) (At.bool b.neg :: At.words false b.xs :: At.int IntKind.i64 b.e :: ivL false (Vx.mk c d))))), ((15 : Nat), Tv.sv (Sv.one (At.int IntKind.i64 (↑(3 : Nat) : Int)))), ((16 : Nat), Tv.sv (Sv.one (At.int IntKind.i64 (3 : Int)))), ((3 : Nat), Tv.sv (Sv.one (At.ptr (8 : Nat) (0 : Nat)))), ((2 : Nat), Tv.sv (Sv.one (At.ptr (0 : Nat) (0 : Nat))))] [((0 : Nat), (0 : Nat), At.bool false), ((0 : Nat), (1 : Nat), At.words true []), ((0 : Nat), (2 : Nat), At.int IntKind.i64 (0 : Int)), ((0 : Nat), (3 : Nat), At.bool false), ((0 : Nat), (4 : Nat), At.words true []), ((0 : Nat), (5 : Nat), At.int IntKind.i64 (0 : Int)), ((8 : Nat), (0 : Nat), At.bool v3.lo.neg), ((8 : Nat), (1 : Nat), At.words false v3.lo.xs), ((8 : Nat), (2 : Nat), At.int IntKind.i64 v3.lo.e), ((8 : Nat), (3 : Nat), At.bool v3.hi.neg), ((8 : Nat), (4 : Nat), At.words false v3.hi.xs), ((8 : Nat), (5 : Nat), At.int IntKind.i64 v3.hi.e)] (14 : Nat)))) ∧                   Q (Tv.sv (Sv.agg (ivL false v3))) ∧ True) := by kernel_rfl
theorem spanS_rounds {v : Vx} {d : Dx} {p : Vx → Prop} {A : Prop} {N : Nat} (A1 : A) (hv : v.Sm N) (hd : d.Sm N) (hN : N ≤ 68719476736) (h : A → p (spanS v d)) {q1 q2 q3 q4 : Prop} (h1 : p ⟨d, d⟩ → q1) (h2 : p ⟨d, v.hi⟩ → q2) (h3 : p ⟨v.lo, d⟩ → q3) (h4 : p v → q4) :
    (Dx.Sm 68719476736 d ∧ Dx.Sm 68719476736 v.lo) ∧ br (ltI (cmpD d v.lo) 0) ((Dx.Sm 68719476736 d ∧ Dx.Sm 68719476736 v.hi) ∧ br (ltI 0 (cmpD d v.hi)) q1 q2) ((Dx.Sm 68719476736 d ∧ Dx.Sm 68719476736 v.hi) ∧ br (ltI 0 (cmpD d v.hi)) q3 q4) := by
  have k := h A1
  refine ⟨⟨hd.mono hN, hv.1.mono hN⟩, br_intro (fun e1 => ⟨⟨hd.mono hN, hv.2.mono hN⟩, br_intro (fun e2 => h1 ?_) fun e2 => h2 ?_⟩) fun e1 => ⟨⟨hd.mono hN, hv.2.mono hN⟩, br_intro (fun e2 => h3 ?_) fun e2 => h4 ?_⟩⟩
  · rwa [spanS, if_pos (ltI_true.1 e1), if_pos (ltI_true.1 e2)] at k
  · rwa [spanS, if_pos (ltI_true.1 e1), if_neg (ltI_false.1 e2)] at k
  · rwa [spanS, if_neg (ltI_false.1 e1), if_pos (ltI_true.1 e2)] at k
  · rwa [spanS, if_neg (ltI_false.1 e1), if_neg (ltI_false.1 e2)] at k
def rSpan : Spec := fun l => match l with
  | [.one (.rows false 3 2 [.bool n1, .words false x1, .int .i64 e1, .bool n2, .words false x2, .int .i64 e2])] =>
    (some (Dx.Sm 68719476736 ⟨n1, x1, e1⟩ ∧ Dx.Sm 68719476736 ⟨n2, x2, e2⟩), vF (spanL ⟨n1, x1, e1⟩ [⟨n2, x2, e2⟩]))
  | [.one (.rows false 3 4 [.bool n1, .words false x1, .int .i64 e1, .bool n2, .words false x2, .int .i64 e2, .bool n3, .words false x3, .int .i64 e3, .bool n4, .words false x4, .int .i64 e4])] =>
    (some (Dx.Sm 68719476736 ⟨n1, x1, e1⟩ ∧ Dx.Sm 68719476736 ⟨n2, x2, e2⟩ ∧ Dx.Sm 68719476736 ⟨n3, x3, e3⟩ ∧ Dx.Sm 68719476736 ⟨n4, x4, e4⟩), vF (spanL ⟨n1, x1, e1⟩ [⟨n2, x2, e2⟩, ⟨n3, x3, e3⟩, ⟨n4, x4, e4⟩]))
  | _ => noSpec
theorem rSpan_ok : SpecOk Tryd.prog 59 rSpan :=
  specOk_at (envOk tys_ok sRaw4_ok) mixed Tryd.func59 rfl (by decide) 1 (by decide) fun l p t e hp => by
    unfold rSpan at e
    split at e
    · rename_i n1 x1 e1 n2 x2 e2
      cases e
      obtain ⟨s1, s2⟩ := hp
      refine ⟨Nat.le_refl 1, _, 0, (rSpan2_vc ⟨n1, x1, e1⟩ ⟨n2, x2, e2⟩ _).mpr ?_⟩
      refine ⟨⟨by omega, by omega⟩, ⟨by omega, by omega⟩, rfl, ⟨by omega, by omega⟩, rfl, rfl, ⟨⟨by omega, by omega⟩, ?_⟩, rfl, trivial⟩
      refine spanS_rounds (p := fun v => spanS ⟨⟨n1, x1, e1⟩, ⟨n1, x1, e1⟩⟩ ⟨n2, x2, e2⟩ = v) trivial ⟨s1, s1⟩ s2 (by omega) (fun _ => rfl) ?_ ?_ ?_ ?_ <;> exact fun e => ⟨⟨by omega, by omega⟩, rfl, by rw [e]; rfl⟩
    · rename_i n1 x1 e1 n2 x2 e2 n3 x3 e3 n4 x4 e4
      cases e
      obtain ⟨s1, s2, s3, s4⟩ := hp
      refine ⟨Nat.le_refl 1, _, 0, (rSpan4_vc ⟨n1, x1, e1⟩ ⟨n2, x2, e2⟩ ⟨n3, x3, e3⟩ ⟨n4, x4, e4⟩ (spanL ⟨n1, x1, e1⟩ [⟨n2, x2, e2⟩]) (spanL ⟨n1, x1, e1⟩ [⟨n2, x2, e2⟩, ⟨n3, x3, e3⟩]) (spanL ⟨n1, x1, e1⟩ [⟨n2, x2, e2⟩, ⟨n3, x3, e3⟩, ⟨n4, x4, e4⟩]) _).mpr ?_⟩
      have t2 : Vx.Sm 68719476736 (spanL ⟨n1, x1, e1⟩ [⟨n2, x2, e2⟩]) := spanS_sm ⟨s1, s1⟩ s2
      have t3 : Vx.Sm 68719476736 (spanL ⟨n1, x1, e1⟩ [⟨n2, x2, e2⟩, ⟨n3, x3, e3⟩]) := spanS_sm t2 s3
      refine ⟨⟨by omega, by omega⟩, ⟨by omega, by omega⟩, rfl, ⟨by omega, by omega⟩, rfl, rfl, ⟨⟨by omega, by omega⟩, ?_⟩, ⟨⟨by omega, by omega⟩, ?_⟩, ⟨⟨by omega, by omega⟩, ?_⟩, rfl, trivial⟩
      · refine spanS_rounds (p := fun v => spanL ⟨n1, x1, e1⟩ [⟨n2, x2, e2⟩] = v) trivial ⟨s1, s1⟩ s2 (by omega) (fun _ => rfl) ?_ ?_ ?_ ?_ <;> exact fun e => ⟨⟨by omega, by omega⟩, rfl, by rw [e]; rfl⟩
      · refine spanS_rounds (p := fun v => spanL ⟨n1, x1, e1⟩ [⟨n2, x2, e2⟩, ⟨n3, x3, e3⟩] = v) trivial t2 s3 (by omega) (fun _ => rfl) ?_ ?_ ?_ ?_ <;> exact fun e => ⟨⟨by omega, by omega⟩, rfl, by rw [e]; rfl⟩
      · refine spanS_rounds (p := fun v => spanL ⟨n1, x1, e1⟩ [⟨n2, x2, e2⟩, ⟨n3, x3, e3⟩, ⟨n4, x4, e4⟩] = v) trivial t3 s4 (by omega) (fun _ => rfl) ?_ ?_ ?_ ?_ <;> exact fun e => ⟨⟨by omega, by omega⟩, rfl, by rw [e]; rfl⟩
    · cases e; exact hp.elim
end Go.Proofs.YtmfmneanmamjbaaDoor

namespace Go.Proofs.YtmfmneanmamjbaaDoor
open Go.RowKit
theorem mkD_p {neg : Bool} {m e : Int} : 0 ≤ (mkD neg m e).m := val_nonneg (mkD_words _ _ _)
theorem mkS_p {s e : Int} : 0 ≤ (mkS s e).m := mkD_p
theorem oneD_p {d : Dx} : 0 ≤ (oneD d).m := mkD_p
theorem negD_p {d : Dx} : 0 ≤ (negD d).m := mkD_p
theorem absD_p {d : Dx} : 0 ≤ (absD d).m := mkD_p
theorem shiftD_p {d : Dx} {n : Int} : 0 ≤ (shiftD d n).m := mkD_p
theorem timesD_p {a b : Dx} : 0 ≤ (timesD a b).m := mkD_p
theorem plusX_p {a b : Dx} (ha : 0 ≤ a.m) (hb : 0 ≤ b.m) : 0 ≤ (plusX a b).m := by
  unfold plusX
  split
  · exact hb
  · split
    · exact ha
    · exact mkS_p
theorem plusD_p {a b : Dx} : 0 ≤ (plusD a b).m := plusX_p oneD_p oneD_p
theorem lessD_p {a b : Dx} : 0 ≤ (lessD a b).m := plusD_p
theorem cutX_p {x : Dx} {p : Int} {up : Bool} (h : 0 ≤ x.m) : 0 ≤ (cutX x p up).m := by
  unfold cutX; split
  · exact h
  · exact mkD_p
theorem cutD_p {x : Dx} {p : Int} {up : Bool} : 0 ≤ (cutD x p up).m := cutX_p oneD_p
theorem overD_p {a b : Dx} {p : Int} {up : Bool} : 0 ≤ (overD a b p up).m := by
  unfold overD overX; split
  · exact Int.le_refl _
  · exact cutD_p
theorem rootD_p {a : Dx} {p : Int} {up : Bool} : 0 ≤ (rootD a p up).m := by
  unfold rootD rootX; split
  · exact oneD_p
  · exact cutD_p
theorem timesD_sm {a b : Dx} {N M : Nat} (ha : 0 ≤ a.m) (hb : 0 ≤ b.m) (sa : a.Sm N) (sb : b.Sm M) : (timesD a b).Sm (N + M + (N + M)) := by
  obtain ⟨s1, s2, s3⟩ := sa
  obtain ⟨s4, s5, s6⟩ := sb
  have := blen_mul ha hb
  exact mkD_sm (Int.mul_nonneg ha hb) (by omega) (by omega) (by omega)
theorem shiftD_sm {d : Dx} {N M : Nat} {n : Int} (h : 0 ≤ d.m) (s : d.Sm N) (n0 : -(M : Int) ≤ n) (n1 : n ≤ M) : (shiftD d n).Sm (N + (N + M)) := by
  obtain ⟨s1, s2, s3⟩ := s
  exact mkD_sm h s1 (by omega) (by omega)
theorem absD_sm {d : Dx} {N : Nat} (h : 0 ≤ d.m) (s : d.Sm N) : (absD d).Sm (N + N) := mkD_sm h s.1 s.2.1 s.2.2
theorem blen_natAbs_add {X Y : Int} {N : Nat} (h1 : blen (X.natAbs : Int) ≤ N) (h2 : blen (Y.natAbs : Int) ≤ N) : blen ((X + Y).natAbs : Int) ≤ N + 1 := by
  refine blen_le ?_
  have e1 := blen_lt (X.natAbs : Int)
  have e2 := blen_lt (Y.natAbs : Int)
  have f1 : (2 : Int) ^ blen (X.natAbs : Int) ≤ 2 ^ N := two_pow_le h1
  have f2 : (2 : Int) ^ blen (Y.natAbs : Int) ≤ 2 ^ N := two_pow_le h2
  rw [Int.pow_succ]; omega
theorem mkS_sm {s e : Int} {N M : Nat} (hb : blen (s.natAbs : Int) ≤ N) (e0 : -(M : Int) ≤ e) (e1 : e ≤ M) : (mkS s e).Sm (N + M) := mkD_sm (by omega) hb e0 e1
theorem sm_abs {d : Dx} (h : 0 ≤ d.m) (k : Nat) : ((d.sm * 2 ^ k).natAbs : Int) = d.m * 2 ^ k := by
  have := two_pow_pos k
  have h1 : 0 ≤ d.m * 2 ^ k := Int.mul_nonneg h (by omega)
  unfold Dx.sm; rw [sm_mul]; split <;> omega
theorem plusX_sm {x y : Dx} {N : Nat} (hx : 0 ≤ x.m) (hy : 0 ≤ y.m) (sx : x.Sm N) (sy : y.Sm N) : (plusX x y).Sm (3 * N + 1 + N) := by
  unfold plusX
  split
  · exact sy.mono (by omega)
  · split
    · exact sx.mono (by omega)
    · obtain ⟨s1, s2, s3⟩ := sx
      obtain ⟨s4, s5, s6⟩ := sy
      refine mkS_sm (blen_natAbs_add ?_ ?_) (by omega) (by omega)
      · rw [sm_abs hx, blen_mul_pow (by omega)]; omega
      · rw [sm_abs hy, blen_mul_pow (by omega)]; omega
theorem plusD_sm {x y : Dx} {N : Nat} (hx : 0 ≤ x.m) (hy : 0 ≤ y.m) (sx : x.Sm N) (sy : y.Sm N) : (plusD x y).Sm (8 * N + 1) :=
  (plusX_sm oneD_p oneD_p (one_sm hx sx) (one_sm hy sy)).mono (by omega)
theorem lessD_sm {x y : Dx} {N : Nat} (hx : 0 ≤ x.m) (hy : 0 ≤ y.m) (sx : x.Sm N) (sy : y.Sm N) : (lessD x y).Sm (16 * N + 1) :=
  (plusD_sm hx negD_p (sx.mono (show N ≤ N + N by omega)) (negD_sm sy hy)).mono (by omega)
theorem cutX_sm {x : Dx} {N : Nat} {p : Int} {up : Bool} (hx : 0 ≤ x.m) (sx : x.Sm N) (hp : 0 ≤ p) : (cutX x p up).Sm (3 * N + 1) := by
  unfold cutX
  split
  · exact sx.mono (by omega)
  · obtain ⟨s1, s2, s3⟩ := sx
    have q0 : 0 ≤ x.m / 2 ^ ((blen x.m : Int) - p).toNat := Int.ediv_nonneg hx (Int.le_of_lt (two_pow_pos _))
    have q1 := blen_mono (m := x.m / 2 ^ ((blen x.m : Int) - p).toNat) (n := x.m) (Int.ediv_le_self _ hx)
    refine (mkD_sm (N := N + 1) (M := N + N) ?_ ?_ (by omega) (by omega)).mono (by omega)
    · split <;> omega
    · have := blen_lt (x.m / 2 ^ ((blen x.m : Int) - p).toNat)
      have f1 : (2 : Int) ^ blen (x.m / 2 ^ ((blen x.m : Int) - p).toNat) ≤ 2 ^ N := two_pow_le (by omega)
      have f2 := two_pow_pos N
      refine blen_le ?_
      rw [Int.pow_succ]; split <;> omega
theorem cutD_sm {x : Dx} {N : Nat} {p : Int} {up : Bool} (hx : 0 ≤ x.m) (sx : x.Sm N) (hp : 0 ≤ p) : (cutD x p up).Sm (6 * N + 1) := (cutX_sm oneD_p (one_sm hx sx) hp).mono (by omega)
theorem overD_sm {a b : Dx} {N : Nat} {p : Int} {up : Bool} (ha : 0 ≤ a.m) (hb : 0 ≤ b.m) (sa : a.Sm N) (sb : b.Sm N) (p0 : 0 ≤ p) (p1 : p ≤ N) : (overD a b p up).Sm (100 * N + 100) := by
  unfold overD overX
  have m1 := oneD_p (d := a)
  have m2 := oneD_p (d := b)
  obtain ⟨s1, s2, s3⟩ := one_sm ha sa
  obtain ⟨s4, s5, s6⟩ := one_sm hb sb
  generalize oneD a = x at *
  generalize oneD b = y at *
  split
  · exact ⟨by show blen 0 ≤ _; simp [blen], by show _ ≤ (0 : Int); omega, by show (0 : Int) ≤ _; omega⟩
  · rename_i hx0
    generalize hk : max (p + 2 + (blen y.m : Int) - (blen x.m : Int)) 0 = k
    have k0 : 0 ≤ k := by omega
    have hM : 0 ≤ x.m * 2 ^ k.toNat := Int.mul_nonneg m1 (by have := two_pow_pos k.toNat; omega)
    have hMb : blen (x.m * 2 ^ k.toNat) ≤ 5 * N + 2 := by rw [blen_mul_pow (by omega)]; omega
    have hQ : 0 ≤ x.m * 2 ^ k.toNat / y.m := Int.ediv_nonneg hM m2
    have hQb := blen_mono (m := x.m * 2 ^ k.toNat / y.m) (n := x.m * 2 ^ k.toNat) (Int.ediv_le_self _ hM)
    obtain ⟨t1, t2⟩ := sticky_blen (b := decide (x.m * 2 ^ k.toNat % y.m ≠ 0)) hQ
    exact (cutD_sm (N := 13 * N + 10) mkD_p ((mkD_sm (N := 5 * N + 3) (M := 7 * N + 3) t1 (by omega) (by omega) (by omega)).mono (by omega)) p0).mono (by omega)
theorem rootD_sm {a : Dx} {N : Nat} {p : Int} {up : Bool} (ha : 0 ≤ a.m) (sa : a.Sm N) (p0 : 0 ≤ p) (p1 : p ≤ N) : (rootD a p up).Sm (100 * N + 100) := by
  unfold rootD rootX
  have m1 := oneD_p (d := a)
  have z := one_sm ha sa
  obtain ⟨s1, s2, s3⟩ := z
  generalize oneD a = x at *
  split
  · exact Dx.Sm.mono ⟨s1, s2, s3⟩ (by omega)
  · rename_i hx0
    have hk : ∃ k, rootK x p = k := ⟨_, rfl⟩
    obtain ⟨k, hk⟩ := hk
    rw [hk]
    unfold rootK at hk
    have k0 : 0 ≤ k := by omega
    have hM : 0 ≤ x.m * 2 ^ k.toNat := Int.mul_nonneg m1 (by have := two_pow_pos k.toNat; omega)
    have hMb : blen (x.m * 2 ^ k.toNat) ≤ 6 * N + 6 := by rw [blen_mul_pow (by omega)]; omega
    have hQ : 0 ≤ isq (x.m * 2 ^ k.toNat) := isq_nonneg _
    have hQb := blen_mono (isq_le_self hM)
    obtain ⟨t1, t2⟩ := sticky_blen (b := decide (x.m * 2 ^ k.toNat - isq (x.m * 2 ^ k.toNat) * isq (x.m * 2 ^ k.toNat) ≠ 0)) hQ
    exact (cutD_sm (N := 13 * N + 14) mkD_p ((mkD_sm (N := 6 * N + 7) (M := 7 * N + 6) t1 (by omega) (by omega) (by omega)).mono (by omega)) p0).mono (by omega)
end Go.Proofs.YtmfmneanmamjbaaDoor

namespace Go.Proofs.YtmfmneanmamjbaaDoor
open Go.RowKit
def Vx.Sd (N : Nat) (v : Vx) : Prop := v.Sm N ∧ 0 ≤ v.lo.m ∧ 0 ≤ v.hi.m
def Vx.P (v : Vx) : Prop := 0 ≤ v.lo.m ∧ 0 ≤ v.hi.m
theorem Vx.Sm.mono {N M : Nat} {v : Vx} (h : v.Sm N) (k : N ≤ M) : v.Sm M := ⟨h.1.mono k, h.2.mono k⟩
theorem Vx.Wf.p {v : Vx} (h : v.Wf) : v.P := ⟨h.1.m0, h.2.m0⟩
def pointV (d : Dx) : Vx := ⟨oneD d, oneD d⟩
def trimV (v : Vx) (p : Int) : Vx := ⟨cutD v.lo p false, cutD v.hi p true⟩
def turnV (v : Vx) : Vx := ⟨negD v.hi, negD v.lo⟩
def scaleV (v : Vx) (n : Int) : Vx := ⟨shiftD v.lo n, shiftD v.hi n⟩
def rightV (v : Vx) : Bool := v.lo.fitsB && (v.hi.fitsB && decide (cmpD v.lo v.hi ≤ 0))
def zeroV (v : Vx) : Bool := decide (v.lo.sgn ≤ 0) && decide (0 ≤ v.hi.sgn)
def sqrtV (v : Vx) (p : Int) : Vx := ⟨rootD v.lo p false, rootD v.hi p true⟩
def sumV (v u : Vx) : Vx := ⟨plusD v.lo u.lo, plusD v.hi u.hi⟩
def plusV (v u : Vx) (p : Int) : Vx := trimV (sumV v u) p
def lessV (v u : Vx) (p : Int) : Vx := plusV v (turnV u) p
def prodV (v u : Vx) : Vx := spanL (timesD v.lo u.lo) [timesD v.lo u.hi, timesD v.hi u.lo, timesD v.hi u.hi]
def timesV (v u : Vx) (p : Int) : Vx := trimV (prodV v u) p
def quoV (v u : Vx) (p : Int) (up : Bool) : Vx := spanL (overD v.lo u.lo p up) [overD v.lo u.hi p up, overD v.hi u.lo p up, overD v.hi u.hi p up]
def divV (v u : Vx) (p : Int) : Vx := ⟨(quoV v u p false).lo, (quoV v u p true).hi⟩
theorem spanS_p {v : Vx} {d : Dx} (h : v.P) (k : 0 ≤ d.m) : (spanS v d).P := by
  unfold spanS
  constructor
  · show 0 ≤ Dx.m (if _ then _ else _); split <;> first | exact k | exact h.1
  · show 0 ≤ Dx.m (if _ then _ else _); split <;> first | exact k | exact h.2
theorem span4_p {a b c d : Dx} (ha : 0 ≤ a.m) (hb : 0 ≤ b.m) (hc : 0 ≤ c.m) (hd : 0 ≤ d.m) : (spanL a [b, c, d]).P := spanS_p (spanS_p (spanS_p ⟨ha, ha⟩ hb) hc) hd
theorem span4_sm {a b c d : Dx} {N : Nat} (ha : a.Sm N) (hb : b.Sm N) (hc : c.Sm N) (hd : d.Sm N) : (spanL a [b, c, d]).Sm N := spanS_sm (spanS_sm (spanS_sm ⟨ha, ha⟩ hb) hc) hd
theorem prodV_p (v u : Vx) : (prodV v u).P := span4_p timesD_p timesD_p timesD_p timesD_p
theorem prodV_sm {v u : Vx} {N : Nat} (hv : v.P) (hu : u.P) (sv : v.Sm N) (su : u.Sm N) : (prodV v u).Sm (N + N + (N + N)) :=
  span4_sm (timesD_sm hv.1 hu.1 sv.1 su.1) (timesD_sm hv.1 hu.2 sv.1 su.2) (timesD_sm hv.2 hu.1 sv.2 su.1) (timesD_sm hv.2 hu.2 sv.2 su.2)
def sRaw5 : List (FuncId × Spec) := [(59, rSpan)] ++ sRaw4
theorem sRaw5_ok : SpecsOk Tryd.prog sRaw5 := ⟨rSpan_ok, sRaw4_ok⟩
def eB (N : Int) (d : Dx) : Prop := -N ≤ d.e ∧ d.e ≤ N
def rPoint : Spec := specK [.d] fun (d : Dx) => (some (eB 4611686018427387904 d), vT (pointV d))
theorem rPoint_vc (d : Dx) (Q : Tv → Prop) : execF ⟨tys, sRaw5⟩ (fun _ => none) 0 Tryd.f70 [.agg (dyL false d)] Q = (((-4611686018427387904 : Int) ≤ d.e ∧ d.e ≤ (4611686018427387904 : Int)) ∧ ((-4611686018427387904 : Int) ≤ d.e ∧ d.e ≤ (4611686018427387904 : Int)) ∧ true = true ∧ Q (Tv.sv (Sv.agg (ivL true (Vx.mk (oneD d) (oneD d)))))) := by kernel_rfl
theorem rPoint_ok : SpecOk Tryd.prog 70 rPoint :=
  specK_ok (envOk tys_ok sRaw5_ok) mixed Tryd.func70 rfl (by decide) (by decide) fun (d : Dx) _ hp => ⟨fun _ => none, 0, (rPoint_vc d _).mpr ⟨hp, hp, rfl, rfl⟩⟩
def rTrim : Spec := specK [.v, .i .i64] fun (v : Vx) (p : Int) => (some (v.Sm 34359738368 ∧ 0 ≤ p ∧ p ≤ 1099511627776), vT (trimV v p))
theorem rTrim_vc (v : Vx) (p : Int) (Q : Tv → Prop) : execF ⟨tys, sRaw5⟩ (fun _ => none) 0 Tryd.f102 [.agg (ivL false v), .one (.int .i64 p)] Q = ((Dx.Sm (34359738368 : Nat) v.lo ∧ (0 : Int) ≤ p ∧ p ≤ (1099511627776 : Int)) ∧ (Dx.Sm (34359738368 : Nat) v.hi ∧ (0 : Int) ≤ p ∧ p ≤ (1099511627776 : Int)) ∧ true = true ∧ Q (Tv.sv (Sv.agg (ivL true (Vx.mk (cutD v.lo p false) (cutD v.hi p true)))))) := by kernel_rfl
theorem rTrim_ok : SpecOk Tryd.prog 102 rTrim :=
  specK_ok (envOk tys_ok sRaw5_ok) mixed Tryd.func102 rfl (by decide) (by decide) fun (v : Vx) _ (p : Int) _ hp => ⟨fun _ => none, 0, (rTrim_vc v p _).mpr ⟨⟨hp.1.1, hp.2⟩, ⟨hp.1.2, hp.2⟩, rfl, rfl⟩⟩
def rTurn : Spec := specK [.v] fun (v : Vx) => (some (eB 4611686018427387904 v.lo ∧ eB 4611686018427387904 v.hi), vT (turnV v))
theorem rTurn_vc (v : Vx) (Q : Tv → Prop) : execF ⟨tys, sRaw5⟩ (fun _ => none) 0 Tryd.f115 [.agg (ivL false v)] Q = (((-4611686018427387904 : Int) ≤ v.hi.e ∧ v.hi.e ≤ (4611686018427387904 : Int)) ∧ ((-4611686018427387904 : Int) ≤ v.lo.e ∧ v.lo.e ≤ (4611686018427387904 : Int)) ∧ true = true ∧ Q (Tv.sv (Sv.agg (ivL true (Vx.mk (negD v.hi) (negD v.lo)))))) := by kernel_rfl
theorem rTurn_ok : SpecOk Tryd.prog 115 rTurn :=
  specK_ok (envOk tys_ok sRaw5_ok) mixed Tryd.func115 rfl (by decide) (by decide) fun (v : Vx) _ hp => ⟨fun _ => none, 0, (rTurn_vc v _).mpr ⟨hp.2, hp.1, rfl, rfl⟩⟩
def rScale : Spec := specK [.v, .i .i64] fun (v : Vx) (n : Int) => (some (eB 2305843009213693952 v.lo ∧ eB 2305843009213693952 v.hi ∧ -2305843009213693952 ≤ n ∧ n ≤ 2305843009213693952), vT (scaleV v n))
theorem rScale_vc (v : Vx) (n : Int) (Q : Tv → Prop) : execF ⟨tys, sRaw5⟩ (fun _ => none) 0 Tryd.f117 [.agg (ivL false v), .one (.int .i64 n)] Q = (((-2305843009213693952 : Int) ≤ v.lo.e ∧ v.lo.e ≤ (2305843009213693952 : Int) ∧ (-2305843009213693952 : Int) ≤ n ∧ n ≤ (2305843009213693952 : Int)) ∧ ((-2305843009213693952 : Int) ≤ v.hi.e ∧ v.hi.e ≤ (2305843009213693952 : Int) ∧ (-2305843009213693952 : Int) ≤ n ∧ n ≤ (2305843009213693952 : Int)) ∧ true = true ∧ Q (Tv.sv (Sv.agg (ivL true (Vx.mk (shiftD v.lo n) (shiftD v.hi n)))))) := by kernel_rfl
theorem rScale_ok : SpecOk Tryd.prog 117 rScale :=
  specK_ok (envOk tys_ok sRaw5_ok) mixed Tryd.func117 rfl (by decide) (by decide) fun (v : Vx) _ (n : Int) _ hp => ⟨fun _ => none, 0, by
    obtain ⟨⟨h1, h2⟩, ⟨h3, h4⟩, h5, h6⟩ : eB 2305843009213693952 v.lo ∧ eB 2305843009213693952 v.hi ∧ -2305843009213693952 ≤ n ∧ n ≤ 2305843009213693952 := hp
    exact (rScale_vc v n _).mpr ⟨⟨h1, h2, h5, h6⟩, ⟨h3, h4, h5, h6⟩, rfl, rfl⟩⟩
theorem fits_sm {d : Dx} (h : d.fitsB = true) : d.Sm 65536 := by
  unfold Dx.fitsB greatB at h
  simp at h
  obtain ⟨⟨h1, h2⟩, h3⟩ := h
  refine ⟨?_, by omega, by omega⟩
  by_cases hp : 0 < d.m
  · have := blen_last hp
    have h2 := (words_ws d.m).nth ((ws d.m).length - 1)
    have hb : blen (nth (ws d.m) ((ws d.m).length - 1)) ≤ 64 := blen_le (by have := h2.2; simp at this ⊢; omega)
    omega
  · have : blen d.m ≤ 0 := blen_le (by show d.m < 2 ^ 0; omega)
    omega
def rRight : Spec := specK [.v] fun (v : Vx) => (none, bT (rightV v))
theorem rRight_vc (v : Vx) (Q : Tv → Prop) : execF ⟨tys, sRaw5⟩ (fun _ => none) 0 Tryd.f73 [.agg (ivL false v)] Q = (br (Dx.fitsB v.lo) (br (Dx.fitsB v.hi) ((Dx.Sm (68719476736 : Nat) v.lo ∧ Dx.Sm (68719476736 : Nat) v.hi) ∧ Q (Tv.sv (Sv.one (At.bool (leI (cmpD v.lo v.hi) (0 : Int)))))) (Q (Tv.sv (Sv.one (At.bool false))))) (Q (Tv.sv (Sv.one (At.bool false))))) := by kernel_rfl
theorem rRight_ok : SpecOk Tryd.prog 73 rRight :=
  specK_ok (envOk tys_ok sRaw5_ok) mixed Tryd.func73 rfl (by decide) (by decide) fun (v : Vx) _ _ => ⟨fun _ => none, 0, by
    refine (rRight_vc v _).mpr (br_intro (fun h1 => br_intro (fun h2 => ⟨⟨(fits_sm h1).mono (by omega), (fits_sm h2).mono (by omega)⟩, ?_⟩) fun h2 => ?_) fun h1 => ?_)
    · show _ = bT (rightV v); rw [rightV, h1, h2]; rfl
    · show _ = bT (rightV v); rw [rightV, h1, h2]; rfl
    · show _ = bT (rightV v); rw [rightV, h1]; rfl⟩
def rHolds0 : Spec := specK [.v] fun (v : Vx) => (none, bT (zeroV v))
theorem rHolds0_vc (v : Vx) (Q : Tv → Prop) : execF ⟨tys, sRaw5⟩ (fun _ => none) 0 Tryd.f95 [.agg (ivL false v)] Q = (br (leI (Dx.sgn v.lo) (0 : Int)) (Q (Tv.sv (Sv.one (At.bool (leI (0 : Int) (Dx.sgn v.hi)))))) (Q (Tv.sv (Sv.one (At.bool false))))) := by kernel_rfl
theorem rHolds0_ok : SpecOk Tryd.prog 95 rHolds0 :=
  specK_ok (envOk tys_ok sRaw5_ok) mixed Tryd.func95 rfl (by decide) (by decide) fun (v : Vx) _ _ => ⟨fun _ => none, 0, by
    refine (rHolds0_vc v _).mpr (br_intro (fun h1 => ?_) fun h1 => ?_)
    · show _ = bT (zeroV v); rw [zeroV, show decide (v.lo.sgn ≤ 0) = true from h1]; rfl
    · show _ = bT (zeroV v); rw [zeroV, show decide (v.lo.sgn ≤ 0) = false from h1]; rfl⟩
def rSqrt : Spec := specK [.v, .i .i64] fun (v : Vx) (p : Int) => (some (v.Sm 67108864 ∧ 0 ≤ p ∧ p ≤ 67108864), vT (sqrtV v p))
theorem rSqrt_vc (v : Vx) (p : Int) (Q : Tv → Prop) : execF ⟨tys, sRaw5⟩ (fun _ => none) 0 Tryd.f99 [.agg (ivL false v), .one (.int .i64 p)] Q = ((Dx.Sm (67108864 : Nat) v.lo ∧ (0 : Int) ≤ p ∧ p ≤ (67108864 : Int)) ∧ (Dx.Sm (67108864 : Nat) v.hi ∧ (0 : Int) ≤ p ∧ p ≤ (67108864 : Int)) ∧ true = true ∧ Q (Tv.sv (Sv.agg (ivL true (Vx.mk (rootD v.lo p false) (rootD v.hi p true)))))) := by kernel_rfl
theorem rSqrt_ok : SpecOk Tryd.prog 99 rSqrt :=
  specK_ok (envOk tys_ok sRaw5_ok) mixed Tryd.func99 rfl (by decide) (by decide) fun (v : Vx) _ (p : Int) _ hp => ⟨fun _ => none, 0, (rSqrt_vc v p _).mpr ⟨⟨hp.1.1, hp.2⟩, ⟨hp.1.2, hp.2⟩, rfl, rfl⟩⟩
def rDiv : Spec := specK [.v, .v, .i .i64] fun (v : Vx) (u : Vx) (p : Int) => (some (v.Sm 67108864 ∧ u.Sm 67108864 ∧ u.lo.m ≠ 0 ∧ u.hi.m ≠ 0 ∧ 0 ≤ p ∧ p ≤ 67108864), vF (divV v u p))
theorem rDiv_vc (v u : Vx) (p : Int) (Q : Tv → Prop) : execF ⟨tys, sRaw5⟩ (fun _ => none) 0 Tryd.f96 [.agg (ivL false v), .agg (ivL false u), .one (.int .i64 p)] Q = ((Dx.Sm (67108864 : Nat) v.lo ∧ Dx.Sm (67108864 : Nat) u.lo ∧ Dx.m u.lo ≠ (0 : Int) ∧ (0 : Int) ≤ p ∧ p ≤ (67108864 : Int)) ∧ (Dx.Sm (67108864 : Nat) v.lo ∧ Dx.Sm (67108864 : Nat) u.hi ∧ Dx.m u.hi ≠ (0 : Int) ∧ (0 : Int) ≤ p ∧ p ≤ (67108864 : Int)) ∧ (Dx.Sm (67108864 : Nat) v.hi ∧ Dx.Sm (67108864 : Nat) u.lo ∧ Dx.m u.lo ≠ (0 : Int) ∧ (0 : Int) ≤ p ∧ p ≤ (67108864 : Int)) ∧ (Dx.Sm (67108864 : Nat) v.hi ∧ Dx.Sm (67108864 : Nat) u.hi ∧ Dx.m u.hi ≠ (0 : Int) ∧ (0 : Int) ≤ p ∧ p ≤ (67108864 : Int)) ∧ (Dx.Sm (68719476736 : Nat) (overD v.lo u.lo p false) ∧ Dx.Sm (68719476736 : Nat) (overD v.lo u.hi p false) ∧ Dx.Sm (68719476736 : Nat) (overD v.hi u.lo p false) ∧ Dx.Sm (68719476736 : Nat) (overD v.hi u.hi p false)) ∧ true = true ∧ (Dx.Sm (67108864 : Nat) v.lo ∧ Dx.Sm (67108864 : Nat) u.lo ∧ Dx.m u.lo ≠ (0 : Int) ∧ (0 : Int) ≤ p ∧ p ≤ (67108864 : Int)) ∧ (Dx.Sm (67108864 : Nat) v.lo ∧ Dx.Sm (67108864 : Nat) u.hi ∧ Dx.m u.hi ≠ (0 : Int) ∧ (0 : Int) ≤ p ∧ p ≤ (67108864 : Int)) ∧ (Dx.Sm (67108864 : Nat) v.hi ∧ Dx.Sm (67108864 : Nat) u.lo ∧ Dx.m u.lo ≠ (0 : Int) ∧ (0 : Int) ≤ p ∧ p ≤ (67108864 : Int)) ∧ (Dx.Sm (67108864 : Nat) v.hi ∧ Dx.Sm (67108864 : Nat) u.hi ∧ Dx.m u.hi ≠ (0 : Int) ∧ (0 : Int) ≤ p ∧ p ≤ (67108864 : Int)) ∧ (Dx.Sm (68719476736 : Nat) (overD v.lo u.lo p true) ∧ Dx.Sm (68719476736 : Nat) (overD v.lo u.hi p true) ∧ Dx.Sm (68719476736 : Nat) (overD v.hi u.lo p true) ∧ Dx.Sm (68719476736 : Nat) (overD v.hi u.hi p true)) ∧ true = true ∧ Q (Tv.sv (Sv.agg (ivL false (Vx.mk (spanL (overD v.lo u.lo p false) [overD v.lo u.hi p false, overD v.hi u.lo p false, overD v.hi u.hi p false]).lo (spanL (overD v.lo u.lo p true) [overD v.lo u.hi p true, overD v.hi u.lo p true, overD v.hi u.hi p true]).hi))))) := by kernel_rfl
theorem rDiv_ok : SpecOk Tryd.prog 96 rDiv :=
  specK_ok (envOk tys_ok sRaw5_ok) mixed Tryd.func96 rfl (by decide) (by decide) fun (v : Vx) hv (u : Vx) hu (p : Int) _ hp => ⟨fun _ => none, 0, by
    obtain ⟨⟨a1, a2⟩, ⟨b1, b2⟩, z1, z2, p0, p1⟩ : v.Sm 67108864 ∧ u.Sm 67108864 ∧ u.lo.m ≠ 0 ∧ u.hi.m ≠ 0 ∧ 0 ≤ p ∧ p ≤ 67108864 := hp
    have v1 := Dx.Wf.m0 hv.1
    have v2 := Dx.Wf.m0 hv.2
    have u1 := Dx.Wf.m0 hu.1
    have u2 := Dx.Wf.m0 hu.2
    have sz : ∀ {a b : Dx} {up : Bool}, 0 ≤ a.m → 0 ≤ b.m → a.Sm 67108864 → b.Sm 67108864 → (overD a b p up).Sm 68719476736 := fun ha hb sa sb => (overD_sm ha hb sa sb p0 p1).mono (by omega)
    refine (rDiv_vc v u p _).mpr ⟨⟨a1, b1, z1, p0, p1⟩, ⟨a1, b2, z2, p0, p1⟩, ⟨a2, b1, z1, p0, p1⟩, ⟨a2, b2, z2, p0, p1⟩, ⟨sz v1 u1 a1 b1, sz v1 u2 a1 b2, sz v2 u1 a2 b1, sz v2 u2 a2 b2⟩, rfl, ⟨a1, b1, z1, p0, p1⟩, ⟨a1, b2, z2, p0, p1⟩, ⟨a2, b1, z1, p0, p1⟩, ⟨a2, b2, z2, p0, p1⟩, ⟨sz v1 u1 a1 b1, sz v1 u2 a1 b2, sz v2 u1 a2 b1, sz v2 u2 a2 b2⟩, rfl, rfl⟩⟩
def sRaw6 : List (FuncId × Spec) := [(70, rPoint), (102, rTrim), (115, rTurn), (117, rScale), (73, rRight), (95, rHolds0), (99, rSqrt), (96, rDiv)] ++ sRaw5
theorem sRaw6_ok : SpecsOk Tryd.prog sRaw6 := ⟨rPoint_ok, rTrim_ok, rTurn_ok, rScale_ok, rRight_ok, rHolds0_ok, rSqrt_ok, rDiv_ok, sRaw5_ok⟩
def rPlus : Spec := specK [.v, .v, .i .i64] fun (v : Vx) (u : Vx) (p : Int) => (some (v.Sm 268435456 ∧ u.Sm 268435456 ∧ 0 ≤ p ∧ p ≤ 1099511627776), vT (plusV v u p))
theorem rPlus_vc (v u : Vx) (p : Int) (Q : Tv → Prop) : execF ⟨tys, sRaw6⟩ (fun _ => none) 0 Tryd.f53 [.agg (ivL false v), .agg (ivL false u), .one (.int .i64 p)] Q = ((Dx.Sm (68719476736 : Nat) v.lo ∧ Dx.Sm (68719476736 : Nat) u.lo) ∧ (Dx.Sm (68719476736 : Nat) v.hi ∧ Dx.Sm (68719476736 : Nat) u.hi) ∧ (Vx.Sm (34359738368 : Nat) (Vx.mk (plusD v.lo u.lo) (plusD v.hi u.hi)) ∧ (0 : Int) ≤ p ∧ p ≤ (1099511627776 : Int)) ∧ true = true ∧ Q (Tv.sv (Sv.agg (ivL true (trimV (Vx.mk (plusD v.lo u.lo) (plusD v.hi u.hi)) p))))) := by kernel_rfl
theorem rPlus_ok : SpecOk Tryd.prog 53 rPlus :=
  specK_ok (envOk tys_ok sRaw6_ok) mixed Tryd.func53 rfl (by decide) (by decide) fun (v : Vx) hv (u : Vx) hu (p : Int) _ hp => ⟨fun _ => none, 0, by
    obtain ⟨⟨a1, a2⟩, ⟨b1, b2⟩, p0, p1⟩ : v.Sm 268435456 ∧ u.Sm 268435456 ∧ 0 ≤ p ∧ p ≤ 1099511627776 := hp
    have s1 := plusD_sm (Dx.Wf.m0 hv.1) (Dx.Wf.m0 hu.1) a1 b1
    have s2 := plusD_sm (Dx.Wf.m0 hv.2) (Dx.Wf.m0 hu.2) a2 b2
    exact (rPlus_vc v u p _).mpr ⟨⟨a1.mono (by omega), b1.mono (by omega)⟩, ⟨a2.mono (by omega), b2.mono (by omega)⟩, ⟨⟨s1.mono (by omega), s2.mono (by omega)⟩, p0, p1⟩, rfl, rfl⟩⟩
def sRaw7 : List (FuncId × Spec) := (53, rPlus) :: sRaw6
theorem sRaw7_ok : SpecsOk Tryd.prog sRaw7 := ⟨rPlus_ok, sRaw6_ok⟩
def rLess : Spec := specK [.v, .v, .i .i64] fun (v : Vx) (u : Vx) (p : Int) => (some (v.Sm 134217728 ∧ u.Sm 134217728 ∧ 0 ≤ p ∧ p ≤ 1099511627776), vT (lessV v u p))
theorem rLess_vc (v u : Vx) (p : Int) (Q : Tv → Prop) : execF ⟨tys, sRaw7⟩ (fun _ => none) 0 Tryd.f93 [.agg (ivL false v), .agg (ivL false u), .one (.int .i64 p)] Q = ((eB (4611686018427387904 : Int) u.lo ∧ eB (4611686018427387904 : Int) u.hi) ∧ (Vx.Sm (268435456 : Nat) v ∧ Vx.Sm (268435456 : Nat) (turnV u) ∧ (0 : Int) ≤ p ∧ p ≤ (1099511627776 : Int)) ∧ true = true ∧ Q (Tv.sv (Sv.agg (ivL true (plusV v (turnV u) p))))) := by kernel_rfl
theorem Dx.Sm.eB {N : Nat} {M : Int} {d : Dx} (h : d.Sm N) (k : (N : Int) ≤ M) : eB M d := ⟨by have := h.2.1; omega, by have := h.2.2; omega⟩
theorem rLess_ok : SpecOk Tryd.prog 93 rLess :=
  specK_ok (envOk tys_ok sRaw7_ok) mixed Tryd.func93 rfl (by decide) (by decide) fun (v : Vx) hv (u : Vx) hu (p : Int) _ hp => ⟨fun _ => none, 0, by
    obtain ⟨⟨a1, a2⟩, ⟨b1, b2⟩, p0, p1⟩ : v.Sm 134217728 ∧ u.Sm 134217728 ∧ 0 ≤ p ∧ p ≤ 1099511627776 := hp
    exact (rLess_vc v u p _).mpr ⟨⟨b1.eB (by omega), b2.eB (by omega)⟩, ⟨⟨a1.mono (by omega), a2.mono (by omega)⟩, ⟨(negD_sm b2 (Dx.Wf.m0 hu.2)).mono (by omega), (negD_sm b1 (Dx.Wf.m0 hu.1)).mono (by omega)⟩, p0, p1⟩, rfl, rfl⟩⟩
def rTimes : Spec := specK [.v, .v, .i .i64] fun (v : Vx) (u : Vx) (p : Int) => (some (v.Sm 268435456 ∧ u.Sm 268435456 ∧ 0 ≤ p ∧ p ≤ 1099511627776), vT (timesV v u p))
theorem rTimes_vc (v u : Vx) (p : Int) (Q : Tv → Prop) : execF ⟨tys, sRaw7⟩ (fun _ => none) 0 Tryd.f83 [.agg (ivL false v), .agg (ivL false u), .one (.int .i64 p)] Q = ((Dx.Sm (274877906944 : Nat) v.lo ∧ Dx.Sm (274877906944 : Nat) u.lo) ∧ (Dx.Sm (274877906944 : Nat) v.lo ∧ Dx.Sm (274877906944 : Nat) u.hi) ∧ (Dx.Sm (274877906944 : Nat) v.hi ∧ Dx.Sm (274877906944 : Nat) u.lo) ∧ (Dx.Sm (274877906944 : Nat) v.hi ∧ Dx.Sm (274877906944 : Nat) u.hi) ∧ (Dx.Sm (68719476736 : Nat) (timesD v.lo u.lo) ∧ Dx.Sm (68719476736 : Nat) (timesD v.lo u.hi) ∧ Dx.Sm (68719476736 : Nat) (timesD v.hi u.lo) ∧ Dx.Sm (68719476736 : Nat) (timesD v.hi u.hi)) ∧ (Vx.Sm (34359738368 : Nat) (spanL (timesD v.lo u.lo) [timesD v.lo u.hi, timesD v.hi u.lo, timesD v.hi u.hi]) ∧ (0 : Int) ≤ p ∧ p ≤ (1099511627776 : Int)) ∧ true = true ∧ Q (Tv.sv (Sv.agg (ivL true (trimV (spanL (timesD v.lo u.lo) [timesD v.lo u.hi, timesD v.hi u.lo, timesD v.hi u.hi]) p))))) := by kernel_rfl
theorem rTimes_ok : SpecOk Tryd.prog 83 rTimes :=
  specK_ok (envOk tys_ok sRaw7_ok) mixed Tryd.func83 rfl (by decide) (by decide) fun (v : Vx) hv (u : Vx) hu (p : Int) _ hp => ⟨fun _ => none, 0, by
    obtain ⟨sv, su, p0, p1⟩ : v.Sm 268435456 ∧ u.Sm 268435456 ∧ 0 ≤ p ∧ p ≤ 1099511627776 := hp
    have v1 := Dx.Wf.m0 hv.1
    have v2 := Dx.Wf.m0 hv.2
    have u1 := Dx.Wf.m0 hu.1
    have u2 := Dx.Wf.m0 hu.2
    have sz : ∀ {a b : Dx}, 0 ≤ a.m → 0 ≤ b.m → a.Sm 268435456 → b.Sm 268435456 → (timesD a b).Sm 68719476736 := fun ha hb sa sb => (timesD_sm ha hb sa sb).mono (by omega)
    have sm : ∀ {a : Dx}, a.Sm 268435456 → a.Sm 274877906944 := fun h => h.mono (by omega)
    exact (rTimes_vc v u p _).mpr ⟨⟨sm sv.1, sm su.1⟩, ⟨sm sv.1, sm su.2⟩, ⟨sm sv.2, sm su.1⟩, ⟨sm sv.2, sm su.2⟩, ⟨sz v1 u1 sv.1 su.1, sz v1 u2 sv.1 su.2, sz v2 u1 sv.2 su.1, sz v2 u2 sv.2 su.2⟩, ⟨(prodV_sm (Vx.Wf.p hv) (Vx.Wf.p hu) sv su).mono (by omega), p0, p1⟩, rfl, rfl⟩⟩
/-- Is an interval narrow to p bits? -/
def narrowX (w l : Dx) (p : Int) : Bool :=
  decide (p ≤ 1048576) && (decide (w.e + (blen w.m : Int) - 1 + p ≤ l.e + (blen l.m : Int) - 1 + 1) && decide (cmpD (shiftD w p) l ≤ 0))
def narrowV (v : Vx) (p : Int) : Bool :=
  if v.lo.sgn ≠ v.hi.sgn then false else if v.lo.sgn = 0 then true else if (lessD v.hi v.lo).zeroB then true else narrowX (lessD v.hi v.lo) (if v.lo.sgn < 0 then absD v.hi else absD v.lo) p
def rNarrow : Spec := specK [.v, .i .i64] fun (v : Vx) (p : Int) => (some (v.Sm 67108864 ∧ 0 ≤ p), bT (narrowV v p))
theorem rNarrow_vc (v : Vx) (p : Int) (Q : Tv → Prop) : execF ⟨tys, sRaw7⟩ (fun _ => none) 0 Tryd.f74 [.agg (ivL false v), .one (.int .i64 p)] Q = (br (neI (Dx.sgn v.lo) (Dx.sgn v.hi)) (Q (Tv.sv (Sv.one (At.bool false)))) (br (eqI (Dx.sgn v.lo) (0 : Int)) (Q (Tv.sv (Sv.one (At.bool true)))) (((-4611686018427387904 : Int) ≤ v.lo.e ∧ v.lo.e ≤ (4611686018427387904 : Int)) ∧ br (ltI (Dx.sgn v.lo) (0 : Int)) (((-4611686018427387904 : Int) ≤ v.hi.e ∧ v.hi.e ≤ (4611686018427387904 : Int)) ∧ (Dx.Sm (34359738368 : Nat) v.hi ∧ Dx.Sm (34359738368 : Nat) v.lo) ∧ br (Dx.zeroB (lessD v.hi v.lo)) (Q (Tv.sv (Sv.one (At.bool true)))) (br (leI p (1048576 : Int)) (((-2305843009213693952 : Int) ≤ (lessD v.hi v.lo).e ∧ (lessD v.hi v.lo).e ≤ (2305843009213693952 : Int)) ∧ inR ((lessD v.hi v.lo).e + (↑(blen (Dx.m (lessD v.hi v.lo))) : Int) - (1 : Int) + p) ∧ ((-2305843009213693952 : Int) ≤ (absD v.hi).e ∧ (absD v.hi).e ≤ (2305843009213693952 : Int)) ∧ inR ((absD v.hi).e + (↑(blen (Dx.m (absD v.hi))) : Int) - (1 : Int) + (1 : Int)) ∧ br (leI ((lessD v.hi v.lo).e + (↑(blen (Dx.m (lessD v.hi v.lo))) : Int) - (1 : Int) + p) ((absD v.hi).e + (↑(blen (Dx.m (absD v.hi))) : Int) - (1 : Int) + (1 : Int))) (((-2305843009213693952 : Int) ≤ (lessD v.hi v.lo).e ∧ (lessD v.hi v.lo).e ≤ (2305843009213693952 : Int) ∧ (-2305843009213693952 : Int) ≤ p ∧ p ≤ (2305843009213693952 : Int)) ∧ (Dx.Sm (68719476736 : Nat) (shiftD (lessD v.hi v.lo) p) ∧ Dx.Sm (68719476736 : Nat) (absD v.hi)) ∧ true = true ∧ Q (Tv.sv (Sv.one (At.bool (leI (cmpD (shiftD (lessD v.hi v.lo) p) (absD v.hi)) (0 : Int)))))) (true = true ∧ Q (Tv.sv (Sv.one (At.bool false))))) (true = true ∧ Q (Tv.sv (Sv.one (At.bool false)))))) ((Dx.Sm (34359738368 : Nat) v.hi ∧ Dx.Sm (34359738368 : Nat) v.lo) ∧ br (Dx.zeroB (lessD v.hi v.lo)) (Q (Tv.sv (Sv.one (At.bool true)))) (br (leI p (1048576 : Int)) (((-2305843009213693952 : Int) ≤ (lessD v.hi v.lo).e ∧ (lessD v.hi v.lo).e ≤ (2305843009213693952 : Int)) ∧ inR ((lessD v.hi v.lo).e + (↑(blen (Dx.m (lessD v.hi v.lo))) : Int) - (1 : Int) + p) ∧ ((-2305843009213693952 : Int) ≤ (absD v.lo).e ∧ (absD v.lo).e ≤ (2305843009213693952 : Int)) ∧ inR ((absD v.lo).e + (↑(blen (Dx.m (absD v.lo))) : Int) - (1 : Int) + (1 : Int)) ∧ br (leI ((lessD v.hi v.lo).e + (↑(blen (Dx.m (lessD v.hi v.lo))) : Int) - (1 : Int) + p) ((absD v.lo).e + (↑(blen (Dx.m (absD v.lo))) : Int) - (1 : Int) + (1 : Int))) (((-2305843009213693952 : Int) ≤ (lessD v.hi v.lo).e ∧ (lessD v.hi v.lo).e ≤ (2305843009213693952 : Int) ∧ (-2305843009213693952 : Int) ≤ p ∧ p ≤ (2305843009213693952 : Int)) ∧ (Dx.Sm (68719476736 : Nat) (shiftD (lessD v.hi v.lo) p) ∧ Dx.Sm (68719476736 : Nat) (absD v.lo)) ∧ true = true ∧ Q (Tv.sv (Sv.one (At.bool (leI (cmpD (shiftD (lessD v.hi v.lo) p) (absD v.lo)) (0 : Int)))))) (true = true ∧ Q (Tv.sv (Sv.one (At.bool false))))) (true = true ∧ Q (Tv.sv (Sv.one (At.bool false))))))))) := by kernel_rfl
theorem rNarrow_part {w l : Dx} {p : Int} {r : Bool} (sw : w.Sm 4294967296) (sl : l.Sm 4294967296) (hw : 0 ≤ w.m) (p0 : 0 ≤ p) (e : w.zeroB = false → r = narrowX w l p) (e0 : w.zeroB = true → r = true) :
    br (Dx.zeroB w) (Tv.sv (Sv.one (At.bool true)) = bT r) (br (leI p 1048576) (((-2305843009213693952 : Int) ≤ w.e ∧ w.e ≤ (2305843009213693952 : Int)) ∧ inR (w.e + (blen w.m : Int) - 1 + p) ∧ ((-2305843009213693952 : Int) ≤ l.e ∧ l.e ≤ (2305843009213693952 : Int)) ∧ inR (l.e + (blen l.m : Int) - 1 + 1) ∧
      br (leI (w.e + (blen w.m : Int) - 1 + p) (l.e + (blen l.m : Int) - 1 + 1)) (((-2305843009213693952 : Int) ≤ w.e ∧ w.e ≤ (2305843009213693952 : Int) ∧ (-2305843009213693952 : Int) ≤ p ∧ p ≤ (2305843009213693952 : Int)) ∧ (Dx.Sm 68719476736 (shiftD w p) ∧ Dx.Sm 68719476736 l) ∧ true = true ∧ Tv.sv (Sv.one (At.bool (leI (cmpD (shiftD w p) l) 0))) = bT r) (true = true ∧ Tv.sv (Sv.one (At.bool false)) = bT r)) (true = true ∧ Tv.sv (Sv.one (At.bool false)) = bT r)) := by
  obtain ⟨w1, w2, w3⟩ := sw
  obtain ⟨l1, l2, l3⟩ := sl
  refine br_intro (fun h => by rw [e0 h]) fun h => ?_
  rw [e h]
  unfold narrowX
  refine br_intro (fun h1 => ?_) fun h1 => ⟨rfl, by rw [decide_eq_false (leI_false.1 h1)]; rfl⟩
  have q := leI_true.1 h1
  refine ⟨⟨by omega, by omega⟩, ⟨by omega, by omega⟩, ⟨by omega, by omega⟩, ⟨by omega, by omega⟩, br_intro (fun h2 => ?_) fun h2 => ⟨rfl, by rw [decide_eq_false (leI_false.1 h2), Bool.false_and, Bool.and_false]⟩⟩
  refine ⟨⟨by omega, by omega, by omega, by omega⟩, ⟨(shiftD_sm (N := 4294967296) (M := 1048576) hw ⟨w1, w2, w3⟩ (by omega) (by omega)).mono (by omega), Dx.Sm.mono ⟨l1, l2, l3⟩ (by omega)⟩, rfl, ?_⟩
  rw [decide_eq_true q, decide_eq_true (leI_true.1 h2)]; rfl
theorem rNarrow_ok : SpecOk Tryd.prog 74 rNarrow :=
  specK_ok (envOk tys_ok sRaw7_ok) mixed Tryd.func74 rfl (by decide) (by decide) fun (v : Vx) hv (p : Int) _ hp => ⟨fun _ => none, 0, by
    obtain ⟨⟨a1, a2⟩, p0⟩ : v.Sm 67108864 ∧ 0 ≤ p := hp
    have v1 := Dx.Wf.m0 hv.1
    have v2 := Dx.Wf.m0 hv.2
    have sl := lessD_sm v2 v1 a2 a1
    show execF _ _ _ _ _ (fun t => t = bT (narrowV v p))
    refine (rNarrow_vc v p _).mpr (br_intro (fun h => ?_) fun h => br_intro (fun h1 => ?_) fun h1 => ⟨⟨by have := a1.2.1; omega, by have := a1.2.2; omega⟩, br_intro (fun h2 => ⟨⟨by have := a2.2.1; omega, by have := a2.2.2; omega⟩, ⟨a2.mono (by omega), a1.mono (by omega)⟩, ?_⟩) fun h2 => ⟨⟨a2.mono (by omega), a1.mono (by omega)⟩, ?_⟩⟩)
    · rw [narrowV, if_pos (neI_true.1 h)]
    · rw [narrowV, if_neg (by have := neI_false.1 h; omega), if_pos (eqI_true.1 h1)]
    · refine rNarrow_part (sl.mono (by omega)) ((absD_sm v2 a2).mono (by omega)) lessD_p p0 (fun h3 => ?_) fun h3 => ?_
      · rw [narrowV, if_neg (by have := neI_false.1 h; omega), if_neg (eqI_false.1 h1), h3, if_pos (ltI_true.1 h2)]; rfl
      · rw [narrowV, if_neg (by have := neI_false.1 h; omega), if_neg (eqI_false.1 h1), h3]; rfl
    · refine rNarrow_part (sl.mono (by omega)) ((absD_sm v1 a1).mono (by omega)) lessD_p p0 (fun h3 => ?_) fun h3 => ?_
      · rw [narrowV, if_neg (by have := neI_false.1 h; omega), if_neg (eqI_false.1 h1), h3, if_neg (ltI_false.1 h2)]; rfl
      · rw [narrowV, if_neg (by have := neI_false.1 h; omega), if_neg (eqI_false.1 h1), h3]; rfl⟩
def sRaw8 : List (FuncId × Spec) := [(93, rLess), (83, rTimes), (74, rNarrow)] ++ sRaw7
theorem sRaw8_ok : SpecsOk Tryd.prog sRaw8 := ⟨rLess_ok, rTimes_ok, rNarrow_ok, sRaw7_ok⟩
end Go.Proofs.YtmfmneanmamjbaaDoor

namespace Go.Proofs.YtmfmneanmamjbaaDoor
open Go.RowKit
/-- New or not is forgotten. -/
def fgA : At → At
  | .words _ xs => .words false xs
  | a => a
def fgL : List At → List At
  | [] => []
  | a :: l => fgA a :: fgL l
def fgS : Sv → Sv
  | .one a => .one (fgA a)
  | .agg l => .agg (fgL l)
def fgSs : List Sv → List Sv
  | [] => []
  | a :: l => fgS a :: fgSs l
def fgT : Tv → Tv
  | .sv s => .sv (fgS s)
  | .tup l => .tup (fgSs l)
section
variable {C : Base} {w : World}
theorem rep_fgA {v : Value} {a : At} (h : Rep C noBox w v a) : Rep C noBox w v (fgA a) := by
  cases a with
  | words nw xs => exact (rep_wf h).2
  | _ => exact h
theorem rep_fgL : ∀ {vs : List Value} {l : List At}, RepL C noBox w vs l → RepL C noBox w vs (fgL l)
  | [], [], _ => trivial
  | _ :: _, _ :: _, ⟨h, k⟩ => ⟨rep_fgA h, rep_fgL k⟩
theorem rep_fgS {v : Value} {s : Sv} (h : RepS C noBox w v s) : RepS C noBox w v (fgS s) := by
  cases s with
  | one a => exact rep_fgA h
  | agg l => obtain ⟨vs, e, h⟩ := h; exact ⟨vs, e, rep_fgL h⟩
theorem rep_fgSs : ∀ {vs : List Value} {l : List Sv}, RepSs C noBox w vs l → RepSs C noBox w vs (fgSs l)
  | [], [], _ => trivial
  | _ :: _, _ :: _, ⟨h, k⟩ => ⟨rep_fgS h, rep_fgSs k⟩
theorem rep_fgT {v : Value} {t : Tv} (h : RepT C noBox w v t) : RepT C noBox w v (fgT t) := by
  cases t with
  | sv s => exact rep_fgS h
  | tup l => obtain ⟨vs, e, h⟩ := h; exact ⟨vs, e, rep_fgSs h⟩
end
/-- What is known of arguments. -/
def wf1 : At → Prop
  | .words _ xs => WfW xs
  | _ => True
def wfL : List At → Prop
  | [] => True
  | a :: l => wf1 a ∧ wfL l
def wfB : At → Prop
  | .ref cs => wfL cs
  | .rows _ _ _ cs => wfL cs
  | a => wf1 a
def wfBs : List At → Prop
  | [] => True
  | a :: l => wfB a ∧ wfBs l
def wfS : Sv → Prop
  | .one (.fn _ cs) => wfBs cs
  | .one a => wfB a
  | .agg l => wfBs l
def wfSs : List Sv → Prop
  | [] => True
  | s :: l => wfS s ∧ wfSs l
section
variable {C : Base} {w : World}
theorem rep_wf1 {v : Value} {a : At} (h : Rep C noBox w v a) : wf1 a := by
  cases a with
  | words nw xs => exact (rep_wf h).1
  | _ => exact trivial
theorem rep_wfL (f : Nat → Value) : ∀ (l : List At) (k : Nat), (∀ (i : Nat) a, l[i]? = some a → Rep C noBox w (f (k + i)) a) → wfL l
  | [], _, _ => trivial
  | a :: l, k, h => ⟨rep_wf1 (h 0 a rfl), rep_wfL f l (k + 1) fun i x hx => by have := h (i + 1) x hx; rwa [show k + (i + 1) = k + 1 + i by omega] at this⟩
theorem rep_wfB {v : Value} {a : At} (h : Rep C noBox w v a) : wfB a := by
  cases h with
  | words h => exact rep_wf1 (.words h)
  | ref vs _ _ _ h => exact rep_wfL vs _ 0 fun i a hi => by rw [Nat.zero_add]; exact h i a hi
  | rows vs _ _ _ _ _ _ _ _ h => exact rep_wfL vs _ 0 fun i a hi => by rw [Nat.zero_add]; exact h i a hi
  | _ => exact trivial
theorem rep_wfBs : ∀ {vs : List Value} {l : List At}, RepL C noBox w vs l → wfBs l
  | [], [], _ => trivial
  | _ :: _, _ :: _, ⟨h, k⟩ => ⟨rep_wfB h, rep_wfBs k⟩
theorem rep_wfBs' : ∀ {vs : List Value} {l : List At}, vs.length = l.length → (∀ (i : Nat) v a, vs[i]? = some v → l[i]? = some a → Rep C noBox w v a) → wfBs l
  | [], [], _, _ => trivial
  | v :: _, a :: _, hl, h => ⟨rep_wfB (h 0 v a rfl rfl), rep_wfBs' (by simpa using hl) fun i v a hv ha => h (i + 1) v a hv ha⟩
theorem rep_wfS {v : Value} {s : Sv} (h : RepS C noBox w v s) : wfS s := by
  cases s with
  | agg l => obtain ⟨vs, e, h⟩ := h; exact rep_wfBs h
  | one a =>
    have q : Rep C noBox w v a := h
    clear h
    cases q with
    | fn hl k => exact rep_wfBs' hl k
    | words k => exact rep_wfB (.words k)
    | ref vs hg ha hc k => exact rep_wfB (.ref vs hg ha hc k)
    | rows vs hl hn hm hg ha hX hb hc k => exact rep_wfB (.rows vs hl hn hm hg ha hX hb hc k)
    | _ => exact trivial
theorem rep_wfSs : ∀ {vs : List Value} {l : List Sv}, RepSs C noBox w vs l → wfSs l
  | [], [], _ => trivial
  | _ :: _, _ :: _, ⟨h, k⟩ => ⟨rep_wfS h, rep_wfSs k⟩
end
/-- A word told by patterns, out of its function's run; it may forget what is new. -/
theorem specOk_pat {P : Program} {E : Env} (hE : EnvOk P E) (hm : P.follows .mixedOrders = true) {f : FuncId} {fn : Func} {c : Code} (hf : P.funcs[f]? = some fn) (hb : fn.body = some c) (hname : (fn.name == "runtime.NumGoroutine") = false) {sp : Spec} (k : Nat) (hk : k ≤ fn.ntmps)
    (h : ∀ l p t, wfSs l → sp l = (p, t) → (match p with | none => True | some p => p) → l.length ≤ k ∧ ∃ inv fuel, execF E inv fuel fn l (fun x => x = t ∨ fgT x = t)) : SpecOk P f sp := by
  refine ⟨⟨fn, c, hf, hname, hb⟩, fun C w vs l hC hX hT hvs hp => ?_⟩
  obtain ⟨hl, inv, fuel, h⟩ := h l (sp l).1 (sp l).2 (rep_wfSs hvs) rfl hp
  refine (execF_ok hE hm hf h hC hX hT hvs (by rw [hvs.length]; omega)).mono ?_
  rintro e w' ⟨v, t, rfl, h0, h1, h2⟩
  rcases h0 with rfl | h0
  · exact ⟨v, rfl, h1, h2⟩
  · exact ⟨v, rfl, h0 ▸ rep_fgT h1, h2⟩
/-- As VcK, forgetting what is new. -/
def VcKW (E : Env) (fn : Func) : (ks : List Ak) → AFun ks → (List Sv → List Sv) → Prop
  | [], g, acc => (match g.1 with | none => True | some p => p) → ∃ inv fuel, execF E inv fuel fn (acc []) (fun t => t = g.2 ∨ fgT t = g.2)
  | k :: ks, g, acc => ∀ x : k.T, k.wf x → VcKW E fn ks (g x) (fun r => acc (k.enc x :: r))
theorem specKW_ok {P : Program} {E : Env} (hE : EnvOk P E) (hm : P.follows .mixedOrders = true) {f : FuncId} {fn : Func} {c : Code} (hf : P.funcs[f]? = some fn) (hb : fn.body = some c) (hname : (fn.name == "runtime.NumGoroutine") = false) {ks : List Ak} {g : AFun ks} (hk : ks.length ≤ fn.ntmps)
    (h : VcKW E fn ks g id) : SpecOk P f (specK ks g) := by
  refine ⟨⟨fn, c, hf, hname, hb⟩, fun C w vs l hC hX hT hvs hp => ?_⟩
  have key : ∀ (ks : List Ak) (g : AFun ks) (acc : List Sv → List Sv) (l : List Sv) (vs : List Value), VcKW E fn ks g acc → RepSs C noBox w vs l → (match (specK ks g l).1 with | none => True | some p => p) →
      l.length = ks.length ∧ ∃ l', RepSs C noBox w vs l' ∧ l'.length = ks.length ∧ ∃ inv fuel, execF E inv fuel fn (acc l') (fun t => t = (specK ks g l).2 ∨ fgT t = (specK ks g l).2) := by
    intro ks
    induction ks with
    | nil =>
      intro g acc l vs h hr hp
      cases l with
      | nil => exact ⟨rfl, [], hr, rfl, h hp⟩
      | cons => exact hp.elim
    | cons k ks ih =>
      intro g acc l vs h hr hp
      cases l with
      | nil => exact hp.elim
      | cons s l =>
        cases vs with
        | nil => exact hr.elim
        | cons v vs =>
          have e : specK (k :: ks) g (s :: l) = (match k.dec s with | some x => specK ks (g x) l | none => noSpec) := rfl
          rw [e] at hp ⊢
          cases hd : k.dec s with
          | none => rw [hd] at hp; exact hp.elim
          | some x =>
            rw [hd] at hp
            obtain ⟨h1, h2⟩ := dec_ok hd hr.1
            obtain ⟨h3, l', h4, h5, h6⟩ := ih (g x) _ l vs (h x h1) hr.2 hp
            exact ⟨by simp [h3], k.enc x :: l', ⟨h2, h4⟩, by simp [h5], h6⟩
  obtain ⟨h1, l', h2, h3, inv, fuel, h4⟩ := key ks g id l vs h hvs hp
  refine (execF_ok hE hm hf h4 hC hX hT h2 (by rw [hvs.length, h1]; exact hk)).mono ?_
  rintro e w' ⟨v, t, rfl, h0, h1, h2⟩
  rcases h0 with rfl | h0
  · exact ⟨v, rfl, h1, h2⟩
  · exact ⟨v, rfl, h0 ▸ rep_fgT h1, h2⟩
end Go.Proofs.YtmfmneanmamjbaaDoor

namespace Go.Proofs.YtmfmneanmamjbaaDoor
open Go.RowKit
def tyAct : TyRow := ⟨66, 2, true, [.lit .nilFunc, .lit .nilFunc], .struct [(0, 1, false), (1, 1, false)]⟩
def tyF3 : TyRow := ⟨63, 1, false, [.lit .nilFunc], .func⟩
def tyF2 : TyRow := ⟨64, 1, false, [.lit .nilFunc], .func⟩
def tys2 : List TyRow := [tyAct, tyF3, tyF2] ++ tys
theorem tys2_ok : RowsOk Tryd.prog tys2 := ⟨by kernel_rfl, by kernel_rfl, by kernel_rfl, tys_ok⟩
@[match_pattern] abbrev cD (n : Bool) (xs : List Int) (e : Int) : List At := [.bool n, .words false xs, .int .i64 e]
@[match_pattern] abbrev cV (n : Bool) (xs : List Int) (e : Int) (n' : Bool) (xs' : List Int) (e' : Int) : List At := [.bool n, .words false xs, .int .i64 e, .bool n', .words false xs', .int .i64 e']
def zeroIv : Vx := ⟨⟨false, [], 0⟩, ⟨false, [], 0⟩⟩
/-- An answer, if it has room. -/
def roomR (v : Vx) : Vx × Int := if (v.lo.fitsB && v.hi.fitsB) = true then (v, 0) else (zeroIv, 3)
/-- An answer, if it may be asked. -/
def whenR (c : Bool) (r : Vx × Int) : Vx × Int := if c = true then r else (zeroIv, 2)
def reT (r : Vx × Int) : Tv := .tup [.agg (ivL false r.1), .one (.int .i64 r.2)]
def vRoom : Spec := specK [.v] fun (v : Vx) => (none, reT (roomR v))
theorem vRoom_vc (v : Vx) (Q : Tv → Prop) : execF ⟨tys2, sRaw8⟩ (fun _ => none) 0 Tryd.f104 [.agg (ivL false v)] Q = (br (!Dx.fitsB v.lo) (Q (Tv.tup [Sv.agg [At.bool false, At.words true [], At.int IntKind.i64 (0 : Int), At.bool false, At.words true [], At.int IntKind.i64 (0 : Int)], Sv.one (At.int IntKind.i64 (3 : Int))])) (br (!Dx.fitsB v.hi) (Q (Tv.tup [Sv.agg [At.bool false, At.words true [], At.int IntKind.i64 (0 : Int), At.bool false, At.words true [], At.int IntKind.i64 (0 : Int)], Sv.one (At.int IntKind.i64 (3 : Int))])) (Q (Tv.tup [Sv.agg (ivL false v), Sv.one (At.int IntKind.i64 (0 : Int))])))) := by kernel_rfl
theorem not_true {b : Bool} (h : (!b) = true) : b = false := by cases b <;> simp_all
theorem not_false' {b : Bool} (h : (!b) = false) : b = true := by cases b <;> simp_all
theorem vRoom_ok : SpecOk Tryd.prog 104 vRoom :=
  specKW_ok (envOk tys2_ok sRaw8_ok) mixed Tryd.func104 rfl (by decide) (by decide) fun (v : Vx) _ _ => ⟨fun _ => none, 0, by
    show execF _ _ _ _ _ (fun t => t = reT (roomR v) ∨ fgT t = reT (roomR v))
    refine (vRoom_vc v _).mpr (br_intro (fun h => ?_) fun h => br_intro (fun h1 => ?_) fun h1 => ?_)
    · right; rw [roomR, not_true h]; rfl
    · right; rw [roomR, not_true h1, Bool.and_false]; rfl
    · left; rw [roomR, not_false' h, not_false' h1]; rfl⟩
theorem right_fits {v : Vx} (h : rightV v = true) : v.lo.fitsB = true ∧ v.hi.fitsB = true ∧ cmpD v.lo v.hi ≤ 0 := by
  unfold rightV at h; simpa using h
theorem right_sm {v : Vx} (h : rightV v = true) : v.Sm 65536 := ⟨fits_sm (right_fits h).1, fits_sm (right_fits h).2.1⟩
def checkR (v : Vx) : Int := if rightV v = true then 0 else 2
def vCk : Spec := specK [.v] fun (v : Vx) => (none, iT (checkR v))
theorem vCk_vc (v : Vx) (Q : Tv → Prop) : execF ⟨tys2, sRaw8⟩ (fun _ => none) 0 Tryd.f23 [.agg (ivL false v)] Q = (br (!rightV v) (Q (Tv.sv (Sv.one (At.int IntKind.i64 (2 : Int))))) (Q (Tv.sv (Sv.one (At.int IntKind.i64 (0 : Int)))))) := by kernel_rfl
theorem vCk_ok : SpecOk Tryd.prog 23 vCk :=
  specK_ok (envOk tys2_ok sRaw8_ok) mixed Tryd.func23 rfl (by decide) (by decide) fun (v : Vx) _ _ => ⟨fun _ => none, 0, by
    show execF _ _ _ _ _ (fun t => t = iT (checkR v))
    refine (vCk_vc v _).mpr (br_intro (fun h => ?_) fun h => ?_)
    · rw [checkR, not_true h]; rfl
    · rw [checkR, not_false' h]; rfl⟩
def meetsV (v u : Vx) : Bool := rightV v && (rightV u && (leI (cmpD v.lo u.hi) 0 && leI (cmpD u.lo v.hi) 0))
def withinV (v u : Vx) : Bool := rightV v && (rightV u && (leI (cmpD u.lo v.lo) 0 && leI (cmpD v.hi u.hi) 0))
def hasV (v : Vx) (d : Dx) : Bool := rightV v && (d.fitsB && (leI (cmpD v.lo d) 0 && leI (cmpD d v.hi) 0))
def narrowB (v : Vx) (p : Int) : Bool := leI 0 p && (rightV v && narrowV v p)
def signV (v : Vx) : Int × Bool := if rightV v = true then (if 0 < v.lo.sgn then (1, true) else if v.hi.sgn < 0 then (-1, true) else (0, eqI v.lo.sgn 0 && eqI v.hi.sgn 0)) else (0, false)
def vMe : Spec := specK [.v, .v] fun (v : Vx) (u : Vx) => (none, bT (meetsV v u))
theorem vMe_vc (v u : Vx) (Q : Tv → Prop) : execF ⟨tys2, sRaw8⟩ (fun _ => none) 0 Tryd.f28 [.agg (ivL false v), .agg (ivL false u)] Q = (br (rightV v) (br (rightV u) ((Dx.Sm (68719476736 : Nat) v.lo ∧ Dx.Sm (68719476736 : Nat) u.hi) ∧ br (leI (cmpD v.lo u.hi) (0 : Int)) ((Dx.Sm (68719476736 : Nat) u.lo ∧ Dx.Sm (68719476736 : Nat) v.hi) ∧ Q (Tv.sv (Sv.one (At.bool (leI (cmpD u.lo v.hi) (0 : Int)))))) (Q (Tv.sv (Sv.one (At.bool false))))) (Q (Tv.sv (Sv.one (At.bool false))))) (Q (Tv.sv (Sv.one (At.bool false))))) := by kernel_rfl
theorem vMe_ok : SpecOk Tryd.prog 28 vMe :=
  specK_ok (envOk tys2_ok sRaw8_ok) mixed Tryd.func28 rfl (by decide) (by decide) fun (v : Vx) _ (u : Vx) _ _ => ⟨fun _ => none, 0, by
    show execF _ _ _ _ _ (fun t => t = bT (meetsV v u))
    refine (vMe_vc v u _).mpr (br_intro (fun h1 => br_intro (fun h2 => ?_) fun h2 => ?_) fun h1 => ?_)
    · have z1 := right_sm h1
      have z2 := right_sm h2
      refine ⟨⟨z1.1.mono (by omega), z2.2.mono (by omega)⟩, br_intro (fun h3 => ⟨⟨z2.1.mono (by omega), z1.2.mono (by omega)⟩, ?_⟩) fun h3 => ?_⟩
      · rw [meetsV, h1, h2, h3]; rfl
      · rw [meetsV, h1, h2, h3]; rfl
    · rw [meetsV, h1, h2]; rfl
    · rw [meetsV, h1]; rfl⟩
def vWi : Spec := specK [.v, .v] fun (v : Vx) (u : Vx) => (none, bT (withinV v u))
theorem vWi_vc (v u : Vx) (Q : Tv → Prop) : execF ⟨tys2, sRaw8⟩ (fun _ => none) 0 Tryd.f30 [.agg (ivL false v), .agg (ivL false u)] Q = (br (rightV v) (br (rightV u) ((Dx.Sm (68719476736 : Nat) u.lo ∧ Dx.Sm (68719476736 : Nat) v.lo) ∧ br (leI (cmpD u.lo v.lo) (0 : Int)) ((Dx.Sm (68719476736 : Nat) v.hi ∧ Dx.Sm (68719476736 : Nat) u.hi) ∧ Q (Tv.sv (Sv.one (At.bool (leI (cmpD v.hi u.hi) (0 : Int)))))) (Q (Tv.sv (Sv.one (At.bool false))))) (Q (Tv.sv (Sv.one (At.bool false))))) (Q (Tv.sv (Sv.one (At.bool false))))) := by kernel_rfl
theorem vWi_ok : SpecOk Tryd.prog 30 vWi :=
  specK_ok (envOk tys2_ok sRaw8_ok) mixed Tryd.func30 rfl (by decide) (by decide) fun (v : Vx) _ (u : Vx) _ _ => ⟨fun _ => none, 0, by
    show execF _ _ _ _ _ (fun t => t = bT (withinV v u))
    refine (vWi_vc v u _).mpr (br_intro (fun h1 => br_intro (fun h2 => ?_) fun h2 => ?_) fun h1 => ?_)
    · have z1 := right_sm h1
      have z2 := right_sm h2
      refine ⟨⟨z2.1.mono (by omega), z1.1.mono (by omega)⟩, br_intro (fun h3 => ⟨⟨z1.2.mono (by omega), z2.2.mono (by omega)⟩, ?_⟩) fun h3 => ?_⟩
      · rw [withinV, h1, h2, h3]; rfl
      · rw [withinV, h1, h2, h3]; rfl
    · rw [withinV, h1, h2]; rfl
    · rw [withinV, h1]; rfl⟩
def vHa : Spec := specK [.v, .d] fun (v : Vx) (d : Dx) => (none, bT (hasV v d))
theorem vHa_vc (v : Vx) (d : Dx) (Q : Tv → Prop) : execF ⟨tys2, sRaw8⟩ (fun _ => none) 0 Tryd.f32 [.agg (ivL false v), .agg (dyL false d)] Q = (br (rightV v) (br (Dx.fitsB d) ((Dx.Sm (68719476736 : Nat) v.lo ∧ Dx.Sm (68719476736 : Nat) d) ∧ br (leI (cmpD v.lo d) (0 : Int)) ((Dx.Sm (68719476736 : Nat) d ∧ Dx.Sm (68719476736 : Nat) v.hi) ∧ Q (Tv.sv (Sv.one (At.bool (leI (cmpD d v.hi) (0 : Int)))))) (Q (Tv.sv (Sv.one (At.bool false))))) (Q (Tv.sv (Sv.one (At.bool false))))) (Q (Tv.sv (Sv.one (At.bool false))))) := by kernel_rfl
theorem vHa_ok : SpecOk Tryd.prog 32 vHa :=
  specK_ok (envOk tys2_ok sRaw8_ok) mixed Tryd.func32 rfl (by decide) (by decide) fun (v : Vx) _ (d : Dx) _ _ => ⟨fun _ => none, 0, by
    show execF _ _ _ _ _ (fun t => t = bT (hasV v d))
    refine (vHa_vc v d _).mpr (br_intro (fun h1 => br_intro (fun h2 => ?_) fun h2 => ?_) fun h1 => ?_)
    · have z1 := right_sm h1
      have z2 := fits_sm h2
      refine ⟨⟨z1.1.mono (by omega), z2.mono (by omega)⟩, br_intro (fun h3 => ⟨⟨z2.mono (by omega), z1.2.mono (by omega)⟩, ?_⟩) fun h3 => ?_⟩
      · rw [hasV, h1, h2, h3]; rfl
      · rw [hasV, h1, h2, h3]; rfl
    · rw [hasV, h1, h2]; rfl
    · rw [hasV, h1]; rfl⟩
def vNa : Spec := specK [.v, .i .i64] fun (v : Vx) (p : Int) => (none, bT (narrowB v p))
theorem vNa_vc (v : Vx) (p : Int) (Q : Tv → Prop) : execF ⟨tys2, sRaw8⟩ (fun _ => none) 0 Tryd.f24 [.agg (ivL false v), .one (.int .i64 p)] Q = (br (leI (0 : Int) p) (br (rightV v) ((Vx.Sm (67108864 : Nat) v ∧ (0 : Int) ≤ p) ∧ Q (Tv.sv (Sv.one (At.bool (narrowV v p))))) (Q (Tv.sv (Sv.one (At.bool false))))) (Q (Tv.sv (Sv.one (At.bool false))))) := by kernel_rfl
theorem vNa_ok : SpecOk Tryd.prog 24 vNa :=
  specK_ok (envOk tys2_ok sRaw8_ok) mixed Tryd.func24 rfl (by decide) (by decide) fun (v : Vx) _ (p : Int) _ _ => ⟨fun _ => none, 0, by
    show execF _ _ _ _ _ (fun t => t = bT (narrowB v p))
    refine (vNa_vc v p _).mpr (br_intro (fun h1 => br_intro (fun h2 => ⟨⟨(right_sm h2).mono (by omega), leI_true.1 h1⟩, ?_⟩) fun h2 => ?_) fun h1 => ?_)
    · rw [narrowB, h1, h2]; rfl
    · rw [narrowB, h1, h2]; rfl
    · rw [narrowB, h1]; rfl⟩
def sgT (r : Int × Bool) : Tv := .tup [.one (.int .i64 r.1), .one (.bool r.2)]
def vSi : Spec := specK [.v] fun (v : Vx) => (none, sgT (signV v))
theorem vSi_vc (v : Vx) (Q : Tv → Prop) : execF ⟨tys2, sRaw8⟩ (fun _ => none) 0 Tryd.f25 [.agg (ivL false v)] Q = (br (!rightV v) (Q (Tv.tup [Sv.one (At.int IntKind.i64 (0 : Int)), Sv.one (At.bool false)])) (true = true ∧ br (ltI (0 : Int) (Dx.sgn v.lo)) (Q (Tv.tup [Sv.one (At.int IntKind.i64 (1 : Int)), Sv.one (At.bool true)])) (br (ltI (Dx.sgn v.hi) (0 : Int)) (Q (Tv.tup [Sv.one (At.int IntKind.i64 (-1 : Int)), Sv.one (At.bool true)])) (br (eqI (Dx.sgn v.lo) (0 : Int)) (Q (Tv.tup [Sv.one (At.int IntKind.i64 (0 : Int)), Sv.one (At.bool (eqI (Dx.sgn v.hi) (0 : Int)))])) (Q (Tv.tup [Sv.one (At.int IntKind.i64 (0 : Int)), Sv.one (At.bool false)])))))) := by kernel_rfl
theorem vSi_ok : SpecOk Tryd.prog 25 vSi :=
  specK_ok (envOk tys2_ok sRaw8_ok) mixed Tryd.func25 rfl (by decide) (by decide) fun (v : Vx) _ _ => ⟨fun _ => none, 0, by
    show execF _ _ _ _ _ (fun t => t = sgT (signV v))
    refine (vSi_vc v _).mpr (br_intro (fun h => ?_) fun h => ⟨rfl, br_intro (fun h1 => ?_) fun h1 => br_intro (fun h2 => ?_) fun h2 => br_intro (fun h3 => ?_) fun h3 => ?_⟩)
    · rw [signV, not_true h]; rfl
    · rw [signV, if_pos (not_false' h), if_pos (ltI_true.1 h1)]; rfl
    · rw [signV, if_pos (not_false' h), if_neg (ltI_false.1 h1), if_pos (ltI_true.1 h2)]; rfl
    · rw [signV, if_pos (not_false' h), if_neg (ltI_false.1 h1), if_neg (ltI_false.1 h2), h3]; rfl
    · rw [signV, if_pos (not_false' h), if_neg (ltI_false.1 h1), if_neg (ltI_false.1 h2), h3]; rfl⟩
def sIv1 : List (FuncId × Spec) := [(104, vRoom), (23, vCk), (28, vMe), (30, vWi), (32, vHa), (24, vNa), (25, vSi)] ++ sRaw8
theorem sIv1_ok : SpecsOk Tryd.prog sIv1 := ⟨vRoom_ok, vCk_ok, vMe_ok, vWi_ok, vHa_ok, vNa_ok, vSi_ok, sRaw8_ok⟩
/-! What is handed on as a function. -/
def vP1 : Spec := fun l => match l with
  | [.one (.ref (cD n xs e))] => (some (eB 4611686018427387904 ⟨n, xs, e⟩), vT (pointV ⟨n, xs, e⟩))
  | _ => noSpec
theorem vP1_vc (d : Dx) (Q : Tv → Prop) : execF ⟨tys2, sRaw8⟩ (fun _ => none) 0 Tryd.f69 [.one (.ref (dyL false d))] Q = (eB (4611686018427387904 : Int) d ∧ Q (Tv.sv (Sv.agg (ivL true (pointV d))))) := by kernel_rfl
theorem vP1_ok : SpecOk Tryd.prog 69 vP1 :=
  specOk_pat (envOk tys2_ok sRaw8_ok) mixed Tryd.func69 rfl (by decide) 1 (by decide) fun l p t hw e hp => by
    unfold vP1 at e
    split at e
    · rename_i n xs e
      cases e
      exact ⟨Nat.le_refl 1, fun _ => none, 0, (vP1_vc ⟨n, xs, e⟩ _).mpr ⟨hp, Or.inl rfl⟩⟩
    · cases e; exact hp.elim
def canonV (v : Vx) : Vx := ⟨oneD v.lo, oneD v.hi⟩
def vC1 : Spec := fun l => match l with
  | [.one (.ref (cV n xs e n' xs' e'))] => (some (Vx.Sm 65536 ⟨⟨n, xs, e⟩, ⟨n', xs', e'⟩⟩), vT (canonV ⟨⟨n, xs, e⟩, ⟨n', xs', e'⟩⟩))
  | _ => noSpec
theorem vC1_vc (v : Vx) (Q : Tv → Prop) : execF ⟨tys2, sRaw8⟩ (fun _ => none) 0 Tryd.f60 [.one (.ref (ivL false v))] Q = (((-4611686018427387904 : Int) ≤ v.lo.e ∧ v.lo.e ≤ (4611686018427387904 : Int)) ∧ ((-4611686018427387904 : Int) ≤ v.hi.e ∧ v.hi.e ≤ (4611686018427387904 : Int)) ∧ true = true ∧ Q (Tv.sv (Sv.agg (ivL true (Vx.mk (oneD v.lo) (oneD v.hi)))))) := by kernel_rfl
theorem vC1_ok : SpecOk Tryd.prog 60 vC1 :=
  specOk_pat (envOk tys2_ok sRaw8_ok) mixed Tryd.func60 rfl (by decide) 1 (by decide) fun l p t hw e hp => by
    unfold vC1 at e
    split at e
    · rename_i n xs e n' xs' e'
      cases e
      have s1 := hp.1
      have s2 := hp.2
      exact ⟨Nat.le_refl 1, fun _ => none, 0, (vC1_vc ⟨⟨n, xs, e⟩, ⟨n', xs', e'⟩⟩ _).mpr ⟨s1.eB (by omega), s2.eB (by omega), rfl, Or.inl rfl⟩⟩
    · cases e; exact hp.elim
def vN1 : Spec := fun l => match l with
  | [.one (.ref (cV n xs e n' xs' e'))] => (some (Vx.Sm 65536 ⟨⟨n, xs, e⟩, ⟨n', xs', e'⟩⟩), vT (turnV ⟨⟨n, xs, e⟩, ⟨n', xs', e'⟩⟩))
  | _ => noSpec
theorem vN1_vc (v : Vx) (Q : Tv → Prop) : execF ⟨tys2, sRaw8⟩ (fun _ => none) 0 Tryd.f114 [.one (.ref (ivL false v))] Q = ((eB (4611686018427387904 : Int) v.lo ∧ eB (4611686018427387904 : Int) v.hi) ∧ Q (Tv.sv (Sv.agg (ivL true (turnV v))))) := by kernel_rfl
theorem vN1_ok : SpecOk Tryd.prog 114 vN1 :=
  specOk_pat (envOk tys2_ok sRaw8_ok) mixed Tryd.func114 rfl (by decide) 1 (by decide) fun l p t hw e hp => by
    unfold vN1 at e
    split at e
    · rename_i n xs e n' xs' e'
      cases e
      have s1 := hp.1
      have s2 := hp.2
      exact ⟨Nat.le_refl 1, fun _ => none, 0, (vN1_vc ⟨⟨n, xs, e⟩, ⟨n', xs', e'⟩⟩ _).mpr ⟨⟨s1.eB (by omega), s2.eB (by omega)⟩, Or.inl rfl⟩⟩
    · cases e; exact hp.elim
def vS1 : Spec := fun l => match l with
  | [.one (.ref (cV n xs e n' xs' e')), .one (.ref [.int .i64 k])] => (some (Vx.Sm 65536 ⟨⟨n, xs, e⟩, ⟨n', xs', e'⟩⟩ ∧ -65536 ≤ k ∧ k ≤ 65536), vT (scaleV ⟨⟨n, xs, e⟩, ⟨n', xs', e'⟩⟩ k))
  | _ => noSpec
theorem vS1_vc (v : Vx) (n : Int) (Q : Tv → Prop) : execF ⟨tys2, sRaw8⟩ (fun _ => none) 0 Tryd.f116 [.one (.ref (ivL false v)), .one (.ref [.int .i64 n])] Q = ((eB (2305843009213693952 : Int) v.lo ∧ eB (2305843009213693952 : Int) v.hi ∧ (-2305843009213693952 : Int) ≤ n ∧ n ≤ (2305843009213693952 : Int)) ∧ Q (Tv.sv (Sv.agg (ivL true (scaleV v n))))) := by kernel_rfl
theorem vS1_ok : SpecOk Tryd.prog 116 vS1 :=
  specOk_pat (envOk tys2_ok sRaw8_ok) mixed Tryd.func116 rfl (by decide) 2 (by decide) fun l p t hw e hp => by
    unfold vS1 at e
    split at e
    · rename_i n xs e n' xs' e' k
      cases e
      obtain ⟨⟨s1, s2⟩, k0, k1⟩ := hp
      exact ⟨Nat.le_refl 2, fun _ => none, 0, (vS1_vc ⟨⟨n, xs, e⟩, ⟨n', xs', e'⟩⟩ k _).mpr ⟨⟨s1.eB (by omega), s2.eB (by omega), by omega, by omega⟩, Or.inl rfl⟩⟩
    · cases e; exact hp.elim
def vT1 : Spec := fun l => match l with
  | [.one (.ref (cV n xs e n' xs' e')), .one (.ref [.int .i64 k])] => (some (Vx.Sm 65536 ⟨⟨n, xs, e⟩, ⟨n', xs', e'⟩⟩ ∧ 1 ≤ k ∧ k ≤ 8192), vT (trimV ⟨⟨n, xs, e⟩, ⟨n', xs', e'⟩⟩ k))
  | _ => noSpec
theorem vT1_vc (v : Vx) (n : Int) (Q : Tv → Prop) : execF ⟨tys2, sRaw8⟩ (fun _ => none) 0 Tryd.f118 [.one (.ref (ivL false v)), .one (.ref [.int .i64 n])] Q = ((Vx.Sm (34359738368 : Nat) v ∧ (0 : Int) ≤ n ∧ n ≤ (1099511627776 : Int)) ∧ Q (Tv.sv (Sv.agg (ivL true (trimV v n))))) := by kernel_rfl
theorem vT1_ok : SpecOk Tryd.prog 118 vT1 :=
  specOk_pat (envOk tys2_ok sRaw8_ok) mixed Tryd.func118 rfl (by decide) 2 (by decide) fun l p t hw e hp => by
    unfold vT1 at e
    split at e
    · rename_i n xs e n' xs' e' k
      cases e
      obtain ⟨s, k0, k1⟩ := hp
      exact ⟨Nat.le_refl 2, fun _ => none, 0, (vT1_vc ⟨⟨n, xs, e⟩, ⟨n', xs', e'⟩⟩ k _).mpr ⟨⟨s.mono (by omega), by omega, by omega⟩, Or.inl rfl⟩⟩
    · cases e; exact hp.elim
def joinV (v u : Vx) : Vx := ⟨oneD (spanL v.lo [u.lo]).lo, oneD (spanL v.hi [u.hi]).hi⟩
def vJ1 : Spec := fun l => match l with
  | [.one (.ref (cV n xs e n' xs' e')), .one (.ref (cV m ys i m' ys' i'))] => (some (Vx.Sm 65536 ⟨⟨n, xs, e⟩, ⟨n', xs', e'⟩⟩ ∧ Vx.Sm 65536 ⟨⟨m, ys, i⟩, ⟨m', ys', i'⟩⟩), vT (joinV ⟨⟨n, xs, e⟩, ⟨n', xs', e'⟩⟩ ⟨⟨m, ys, i⟩, ⟨m', ys', i'⟩⟩))
  | _ => noSpec
theorem span2_sm {a b : Dx} {N : Nat} (ha : a.Sm N) (hb : b.Sm N) : (spanL a [b]).Sm N := spanS_sm ⟨ha, ha⟩ hb
theorem vJ1_vc (v u : Vx) (Q : Tv → Prop) : execF ⟨tys2, sRaw8⟩ (fun _ => none) 0 Tryd.f57 [.one (.ref (ivL false v)), .one (.ref (ivL false u))] Q = ((Dx.Sm (68719476736 : Nat) v.lo ∧ Dx.Sm (68719476736 : Nat) u.lo) ∧ ((-4611686018427387904 : Int) ≤ (spanL v.lo [u.lo]).lo.e ∧ (spanL v.lo [u.lo]).lo.e ≤ (4611686018427387904 : Int)) ∧ (Dx.Sm (68719476736 : Nat) v.hi ∧ Dx.Sm (68719476736 : Nat) u.hi) ∧ ((-4611686018427387904 : Int) ≤ (spanL v.hi [u.hi]).hi.e ∧ (spanL v.hi [u.hi]).hi.e ≤ (4611686018427387904 : Int)) ∧ true = true ∧ Q (Tv.sv (Sv.agg (ivL true (Vx.mk (oneD (spanL v.lo [u.lo]).lo) (oneD (spanL v.hi [u.hi]).hi)))))) := by kernel_rfl
theorem vJ1_ok : SpecOk Tryd.prog 57 vJ1 :=
  specOk_pat (envOk tys2_ok sRaw8_ok) mixed Tryd.func57 rfl (by decide) 2 (by decide) fun l p t hw e hp => by
    unfold vJ1 at e
    split at e
    · rename_i n xs e n' xs' e' m ys i m' ys' i'
      cases e
      obtain ⟨⟨s1, s2⟩, s3, s4⟩ := hp
      exact ⟨Nat.le_refl 2, fun _ => none, 0, (vJ1_vc ⟨⟨n, xs, e⟩, ⟨n', xs', e'⟩⟩ ⟨⟨m, ys, i⟩, ⟨m', ys', i'⟩⟩ _).mpr ⟨⟨s1.mono (by omega), s3.mono (by omega)⟩, (span2_sm s1 s3).1.eB (by omega), ⟨s2.mono (by omega), s4.mono (by omega)⟩, (span2_sm s2 s4).2.eB (by omega), rfl, Or.inl rfl⟩⟩
    · cases e; exact hp.elim
def vNv : Spec := specK [.v, .v] fun (_ : Vx) (_ : Vx) => (none, iT 0)
theorem vNv_vc (v u : Vx) (Q : Tv → Prop) : execF ⟨tys2, sRaw8⟩ (fun _ => none) 0 Tryd.f54 [.agg (ivL false v), .agg (ivL false u)] Q = (Q (Tv.sv (Sv.one (At.int IntKind.i64 (0 : Int))))) := by kernel_rfl
theorem vNv_ok : SpecOk Tryd.prog 54 vNv :=
  specK_ok (envOk tys2_ok sRaw8_ok) mixed Tryd.func54 rfl (by decide) (by decide) fun (v : Vx) _ (u : Vx) _ _ => ⟨fun _ => none, 0, (vNv_vc v u _).mpr rfl⟩
def wrongZ (u : Vx) : Int := if zeroV u = true then 30 else 0
def vD1 : Spec := specK [.v, .v] fun (_ : Vx) (u : Vx) => (none, iT (wrongZ u))
theorem vD1_vc (v u : Vx) (Q : Tv → Prop) : execF ⟨tys2, sRaw8⟩ (fun _ => none) 0 Tryd.f94 [.agg (ivL false v), .agg (ivL false u)] Q = (br (zeroV u) (Q (Tv.sv (Sv.one (At.int IntKind.i64 (30 : Int))))) (Q (Tv.sv (Sv.one (At.int IntKind.i64 (0 : Int)))))) := by kernel_rfl
theorem vD1_ok : SpecOk Tryd.prog 94 vD1 :=
  specK_ok (envOk tys2_ok sRaw8_ok) mixed Tryd.func94 rfl (by decide) (by decide) fun (v : Vx) _ (u : Vx) _ _ => ⟨fun _ => none, 0, by
    show execF _ _ _ _ _ (fun t => t = iT (wrongZ u))
    refine (vD1_vc v u _).mpr (br_intro (fun h => ?_) fun h => ?_) <;> rw [wrongZ, h] <;> rfl⟩
def wrongL (v : Vx) : Int := if v.lo.sgn < 0 then 31 else 0
def vQ1 : Spec := specK [.v, .v] fun (v : Vx) (_ : Vx) => (none, iT (wrongL v))
theorem vQ1_vc (v u : Vx) (Q : Tv → Prop) : execF ⟨tys2, sRaw8⟩ (fun _ => none) 0 Tryd.f97 [.agg (ivL false v), .agg (ivL false u)] Q = (br (ltI (Dx.sgn v.lo) (0 : Int)) (Q (Tv.sv (Sv.one (At.int IntKind.i64 (31 : Int))))) (Q (Tv.sv (Sv.one (At.int IntKind.i64 (0 : Int)))))) := by kernel_rfl
theorem vQ1_ok : SpecOk Tryd.prog 97 vQ1 :=
  specK_ok (envOk tys2_ok sRaw8_ok) mixed Tryd.func97 rfl (by decide) (by decide) fun (v : Vx) _ (u : Vx) _ _ => ⟨fun _ => none, 0, by
    show execF _ _ _ _ _ (fun t => t = iT (wrongL v))
    refine (vQ1_vc v u _).mpr (br_intro (fun h => ?_) fun h => ?_)
    · rw [wrongL, if_pos (ltI_true.1 h)]
    · rw [wrongL, if_neg (ltI_false.1 h)]⟩
def vQ2 : Spec := specK [.v, .v, .i .i64] fun (v : Vx) (_ : Vx) (p : Int) => (some (v.Sm 67108864 ∧ 0 ≤ p ∧ p ≤ 67108864), vT (sqrtV v p))
theorem vQ2_vc (v u : Vx) (p : Int) (Q : Tv → Prop) : execF ⟨tys2, sRaw8⟩ (fun _ => none) 0 Tryd.f98 [.agg (ivL false v), .agg (ivL false u), .one (.int .i64 p)] Q = ((Vx.Sm (67108864 : Nat) v ∧ (0 : Int) ≤ p ∧ p ≤ (67108864 : Int)) ∧ Q (Tv.sv (Sv.agg (ivL true (sqrtV v p))))) := by kernel_rfl
theorem vQ2_ok : SpecOk Tryd.prog 98 vQ2 :=
  specK_ok (envOk tys2_ok sRaw8_ok) mixed Tryd.func98 rfl (by decide) (by decide) fun (v : Vx) _ (u : Vx) _ (p : Int) _ hp => ⟨fun _ => none, 0, (vQ2_vc v u p _).mpr ⟨hp, rfl⟩⟩
def sIv2 : List (FuncId × Spec) := [(69, vP1), (60, vC1), (114, vN1), (116, vS1), (118, vT1), (57, vJ1), (54, vNv), (94, vD1), (97, vQ1), (98, vQ2)] ++ sIv1
theorem sIv2_ok : SpecsOk Tryd.prog sIv2 := ⟨vP1_ok, vC1_ok, vN1_ok, vS1_ok, vT1_ok, vJ1_ok, vNv_ok, vD1_ok, vQ1_ok, vQ2_ok, sIv1_ok⟩
end Go.Proofs.YtmfmneanmamjbaaDoor

namespace Go.Proofs.YtmfmneanmamjbaaDoor
open Go.RowKit
def Qw (r : Vx × Int) (t : Tv) : Prop := t = reT r ∨ fgT t = reT r
/-- What an act comes to. -/
def doR (v u : Vx) (p wrong : Int) (X : Vx) : Vx × Int := whenR (rightV v && (rightV u && (leI 1 p && leI p 8192))) (if neI wrong 0 = true then (zeroIv, wrong) else roomR X)
abbrev zT (n : Int) : Tv := .tup [.agg zV, .one (.int .i64 n)]
theorem lt_not {a b : Int} (h : ltI a b = true) : leI b a = false := by rw [leI_false]; have := ltI_true.1 h; omega
theorem nlt_le {a b : Int} (h : ltI a b = false) : leI b a = true := by rw [leI_true]; have := ltI_false.1 h; omega
theorem do_br {v u X : Vx} {p wrong : Int} {R : Prop} (h : rightV v = true → rightV u = true → 1 ≤ p → p ≤ 8192 → ((if neI wrong 0 = true then (zeroIv, wrong) else roomR X) = doR v u p wrong X) → R) :
    br (!rightV v) (Qw (doR v u p wrong X) (zT 2)) (br (!rightV u) (Qw (doR v u p wrong X) (zT 2)) (br (ltI p 1) (Qw (doR v u p wrong X) (zT 2)) (br (ltI 8192 p) (Qw (doR v u p wrong X) (zT 2)) R))) := by
  refine br_intro (fun h1 => ?_) fun h1 => br_intro (fun h2 => ?_) fun h2 => br_intro (fun h3 => ?_) fun h3 => br_intro (fun h4 => ?_) fun h4 => ?_
  · right; rw [doR, not_true h1]; rfl
  · right; rw [doR, not_true h2, Bool.false_and, Bool.and_false]; rfl
  · right; rw [doR, lt_not h3, Bool.false_and, Bool.and_false, Bool.and_false]; rfl
  · right; rw [doR, lt_not h4, Bool.and_false, Bool.and_false, Bool.and_false]; rfl
  · refine h (not_false' h1) (not_false' h2) (leI_true.1 (nlt_le h3)) (leI_true.1 (nlt_le h4)) ?_
    rw [doR, not_false' h1, not_false' h2, nlt_le h3, nlt_le h4]; rfl
theorem scl_le_of_right {v : Vx} (h : rightV v = true) : v.lo.scl (min v.lo.e v.hi.e) ≤ v.hi.scl (min v.lo.e v.hi.e) := by
  have := (right_fits h).2.2
  unfold cmpD cmpI at this
  split at this
  · omega
  · split at this <;> omega
theorem sgn_le {v : Vx} (hv : v.P) (h : rightV v = true) : v.lo.sgn ≤ v.hi.sgn := by
  have k := scl_le_of_right h
  rcases scl_sgn hv.1 (min v.lo.e v.hi.e) with ⟨a, b⟩ | ⟨a, _, _, b, c⟩ | ⟨a, _, _, b, c⟩ <;> rcases scl_sgn hv.2 (min v.lo.e v.hi.e) with ⟨a', b'⟩ | ⟨a', _, _, b', c'⟩ | ⟨a', _, _, b', c'⟩ <;> omega
theorem sgn_zero {d : Dx} : d.sgn = 0 ↔ d.m = 0 := by
  unfold Dx.sgn; split
  · simp_all
  · split <;> simp_all
theorem not_zero_ends {v : Vx} (hv : v.P) (h : rightV v = true) (hz : zeroV v = false) : v.lo.m ≠ 0 ∧ v.hi.m ≠ 0 := by
  have k := sgn_le hv h
  unfold zeroV at hz
  have : ¬ (v.lo.sgn ≤ 0 ∧ 0 ≤ v.hi.sgn) := by intro ⟨a, b⟩; rw [decide_eq_true a, decide_eq_true b] at hz; simp at hz
  constructor
  · intro e; have := sgn_zero.2 e; omega
  · intro e; have := sgn_zero.2 e; omega
theorem dA_vc (v u : Vx) (p : Int) (Q : Tv → Prop) : execF ⟨tys2, sIv2⟩ (fun _ => none) 0 Tryd.f55 [.agg [.fn 53 [], .fn 54 []], .agg (ivL false v), .agg (ivL false u), .one (.int .i64 p)] Q = (br (!rightV v) (Q (Tv.tup [Sv.agg [At.bool false, At.words true [], At.int IntKind.i64 (0 : Int), At.bool false, At.words true [], At.int IntKind.i64 (0 : Int)], Sv.one (At.int IntKind.i64 (2 : Int))])) (br (!rightV u) (Q (Tv.tup [Sv.agg [At.bool false, At.words true [], At.int IntKind.i64 (0 : Int), At.bool false, At.words true [], At.int IntKind.i64 (0 : Int)], Sv.one (At.int IntKind.i64 (2 : Int))])) (br (ltI p (1 : Int)) (Q (Tv.tup [Sv.agg [At.bool false, At.words true [], At.int IntKind.i64 (0 : Int), At.bool false, At.words true [], At.int IntKind.i64 (0 : Int)], Sv.one (At.int IntKind.i64 (2 : Int))])) (br (ltI (8192 : Int) p) (Q (Tv.tup [Sv.agg [At.bool false, At.words true [], At.int IntKind.i64 (0 : Int), At.bool false, At.words true [], At.int IntKind.i64 (0 : Int)], Sv.one (At.int IntKind.i64 (2 : Int))])) ((Vx.Sm (268435456 : Nat) v ∧ Vx.Sm (268435456 : Nat) u ∧ (0 : Int) ≤ p ∧ p ≤ (1099511627776 : Int)) ∧ Q (Tv.tup [Sv.agg (ivL false (roomR (plusV v u p)).fst), Sv.one (At.int IntKind.i64 (roomR (plusV v u p)).snd)])))))) := by kernel_rfl
theorem dB_vc (v u : Vx) (p : Int) (Q : Tv → Prop) : execF ⟨tys2, sIv2⟩ (fun _ => none) 0 Tryd.f55 [.agg [.fn 93 [], .fn 54 []], .agg (ivL false v), .agg (ivL false u), .one (.int .i64 p)] Q = (br (!rightV v) (Q (Tv.tup [Sv.agg [At.bool false, At.words true [], At.int IntKind.i64 (0 : Int), At.bool false, At.words true [], At.int IntKind.i64 (0 : Int)], Sv.one (At.int IntKind.i64 (2 : Int))])) (br (!rightV u) (Q (Tv.tup [Sv.agg [At.bool false, At.words true [], At.int IntKind.i64 (0 : Int), At.bool false, At.words true [], At.int IntKind.i64 (0 : Int)], Sv.one (At.int IntKind.i64 (2 : Int))])) (br (ltI p (1 : Int)) (Q (Tv.tup [Sv.agg [At.bool false, At.words true [], At.int IntKind.i64 (0 : Int), At.bool false, At.words true [], At.int IntKind.i64 (0 : Int)], Sv.one (At.int IntKind.i64 (2 : Int))])) (br (ltI (8192 : Int) p) (Q (Tv.tup [Sv.agg [At.bool false, At.words true [], At.int IntKind.i64 (0 : Int), At.bool false, At.words true [], At.int IntKind.i64 (0 : Int)], Sv.one (At.int IntKind.i64 (2 : Int))])) ((Vx.Sm (134217728 : Nat) v ∧ Vx.Sm (134217728 : Nat) u ∧ (0 : Int) ≤ p ∧ p ≤ (1099511627776 : Int)) ∧ Q (Tv.tup [Sv.agg (ivL false (roomR (lessV v u p)).fst), Sv.one (At.int IntKind.i64 (roomR (lessV v u p)).snd)])))))) := by kernel_rfl
theorem dM_vc (v u : Vx) (p : Int) (Q : Tv → Prop) : execF ⟨tys2, sIv2⟩ (fun _ => none) 0 Tryd.f55 [.agg [.fn 83 [], .fn 54 []], .agg (ivL false v), .agg (ivL false u), .one (.int .i64 p)] Q = (br (!rightV v) (Q (Tv.tup [Sv.agg [At.bool false, At.words true [], At.int IntKind.i64 (0 : Int), At.bool false, At.words true [], At.int IntKind.i64 (0 : Int)], Sv.one (At.int IntKind.i64 (2 : Int))])) (br (!rightV u) (Q (Tv.tup [Sv.agg [At.bool false, At.words true [], At.int IntKind.i64 (0 : Int), At.bool false, At.words true [], At.int IntKind.i64 (0 : Int)], Sv.one (At.int IntKind.i64 (2 : Int))])) (br (ltI p (1 : Int)) (Q (Tv.tup [Sv.agg [At.bool false, At.words true [], At.int IntKind.i64 (0 : Int), At.bool false, At.words true [], At.int IntKind.i64 (0 : Int)], Sv.one (At.int IntKind.i64 (2 : Int))])) (br (ltI (8192 : Int) p) (Q (Tv.tup [Sv.agg [At.bool false, At.words true [], At.int IntKind.i64 (0 : Int), At.bool false, At.words true [], At.int IntKind.i64 (0 : Int)], Sv.one (At.int IntKind.i64 (2 : Int))])) ((Vx.Sm (268435456 : Nat) v ∧ Vx.Sm (268435456 : Nat) u ∧ (0 : Int) ≤ p ∧ p ≤ (1099511627776 : Int)) ∧ Q (Tv.tup [Sv.agg (ivL false (roomR (timesV v u p)).fst), Sv.one (At.int IntKind.i64 (roomR (timesV v u p)).snd)])))))) := by kernel_rfl
theorem dD_vc (v u : Vx) (p : Int) (Q : Tv → Prop) : execF ⟨tys2, sIv2⟩ (fun _ => none) 0 Tryd.f55 [.agg [.fn 96 [], .fn 94 []], .agg (ivL false v), .agg (ivL false u), .one (.int .i64 p)] Q = (br (!rightV v) (Q (Tv.tup [Sv.agg [At.bool false, At.words true [], At.int IntKind.i64 (0 : Int), At.bool false, At.words true [], At.int IntKind.i64 (0 : Int)], Sv.one (At.int IntKind.i64 (2 : Int))])) (br (!rightV u) (Q (Tv.tup [Sv.agg [At.bool false, At.words true [], At.int IntKind.i64 (0 : Int), At.bool false, At.words true [], At.int IntKind.i64 (0 : Int)], Sv.one (At.int IntKind.i64 (2 : Int))])) (br (ltI p (1 : Int)) (Q (Tv.tup [Sv.agg [At.bool false, At.words true [], At.int IntKind.i64 (0 : Int), At.bool false, At.words true [], At.int IntKind.i64 (0 : Int)], Sv.one (At.int IntKind.i64 (2 : Int))])) (br (ltI (8192 : Int) p) (Q (Tv.tup [Sv.agg [At.bool false, At.words true [], At.int IntKind.i64 (0 : Int), At.bool false, At.words true [], At.int IntKind.i64 (0 : Int)], Sv.one (At.int IntKind.i64 (2 : Int))])) (br (neI (wrongZ u) (0 : Int)) (Q (Tv.tup [Sv.agg [At.bool false, At.words true [], At.int IntKind.i64 (0 : Int), At.bool false, At.words true [], At.int IntKind.i64 (0 : Int)], Sv.one (At.int IntKind.i64 (wrongZ u))])) ((Vx.Sm (67108864 : Nat) v ∧ Vx.Sm (67108864 : Nat) u ∧ Dx.m u.lo ≠ (0 : Int) ∧ Dx.m u.hi ≠ (0 : Int) ∧ (0 : Int) ≤ p ∧ p ≤ (67108864 : Int)) ∧ Q (Tv.tup [Sv.agg (ivL false (roomR (divV v u p)).fst), Sv.one (At.int IntKind.i64 (roomR (divV v u p)).snd)]))))))) := by kernel_rfl
theorem dQ_vc (v u : Vx) (p : Int) (Q : Tv → Prop) : execF ⟨tys2, sIv2⟩ (fun _ => none) 0 Tryd.f55 [.agg [.fn 98 [], .fn 97 []], .agg (ivL false v), .agg (ivL false u), .one (.int .i64 p)] Q = (br (!rightV v) (Q (Tv.tup [Sv.agg [At.bool false, At.words true [], At.int IntKind.i64 (0 : Int), At.bool false, At.words true [], At.int IntKind.i64 (0 : Int)], Sv.one (At.int IntKind.i64 (2 : Int))])) (br (!rightV u) (Q (Tv.tup [Sv.agg [At.bool false, At.words true [], At.int IntKind.i64 (0 : Int), At.bool false, At.words true [], At.int IntKind.i64 (0 : Int)], Sv.one (At.int IntKind.i64 (2 : Int))])) (br (ltI p (1 : Int)) (Q (Tv.tup [Sv.agg [At.bool false, At.words true [], At.int IntKind.i64 (0 : Int), At.bool false, At.words true [], At.int IntKind.i64 (0 : Int)], Sv.one (At.int IntKind.i64 (2 : Int))])) (br (ltI (8192 : Int) p) (Q (Tv.tup [Sv.agg [At.bool false, At.words true [], At.int IntKind.i64 (0 : Int), At.bool false, At.words true [], At.int IntKind.i64 (0 : Int)], Sv.one (At.int IntKind.i64 (2 : Int))])) (br (neI (wrongL v) (0 : Int)) (Q (Tv.tup [Sv.agg [At.bool false, At.words true [], At.int IntKind.i64 (0 : Int), At.bool false, At.words true [], At.int IntKind.i64 (0 : Int)], Sv.one (At.int IntKind.i64 (wrongL v))])) ((Vx.Sm (67108864 : Nat) v ∧ (0 : Int) ≤ p ∧ p ≤ (67108864 : Int)) ∧ Q (Tv.tup [Sv.agg (ivL false (roomR (sqrtV v p)).fst), Sv.one (At.int IntKind.i64 (roomR (sqrtV v p)).snd)]))))))) := by kernel_rfl
def actS (f g : Nat) (v u : Vx) (p : Int) : Option Prop × Tv :=
  match Nat.beq f 53 && Nat.beq g 54 with
  | true => (none, reT (doR v u p ((0:Int)) (plusV v u p)))
  | false =>
  match Nat.beq f 93 && Nat.beq g 54 with
  | true => (none, reT (doR v u p (0) (lessV v u p)))
  | false =>
  match Nat.beq f 83 && Nat.beq g 54 with
  | true => (none, reT (doR v u p (0) (timesV v u p)))
  | false =>
  match Nat.beq f 96 && Nat.beq g 94 with
  | true => (none, reT (doR v u p (wrongZ u) (divV v u p)))
  | false =>
  match Nat.beq f 98 && Nat.beq g 97 with
  | true => (none, reT (doR v u p (wrongL v) (sqrtV v p)))
  | false =>
  noSpec
def vDo : Spec := fun l => match l with
  | [.agg [.fn f [], .fn g []], .agg (cV n xs e n' xs' e'), .agg (cV m ys i m' ys' i'), .one (.int .i64 p)] => actS f g ⟨⟨n, xs, e⟩, ⟨n', xs', e'⟩⟩ ⟨⟨m, ys, i⟩, ⟨m', ys', i'⟩⟩ p
  | _ => noSpec
theorem beq2 {f g a b : Nat} (h : (Nat.beq f a && Nat.beq g b) = true) : f = a ∧ g = b := by
  rw [Bool.and_eq_true] at h
  exact ⟨Nat.eq_of_beq_eq_true h.1, Nat.eq_of_beq_eq_true h.2⟩
theorem actS_ok {f g : Nat} {v u : Vx} {p : Int} (pu : u.P) {q : Option Prop} {t : Tv} (hp : match q with | none => True | some q => q) (e : actS f g v u p = (q, t)) :
    execF ⟨tys2, sIv2⟩ (fun _ => none) 0 Tryd.f55 [.agg [.fn f [], .fn g []], .agg (ivL false v), .agg (ivL false u), .one (.int .i64 p)] (fun x => x = t ∨ fgT x = t) := by
  unfold actS at e
  split at e
  · rename_i hb
    obtain ⟨rfl, rfl⟩ := beq2 hb
    cases e
    refine (dA_vc v u p _).mpr (do_br fun h1 h2 h3 h4 h5 => ?_)
    have z1 := right_sm h1
    have z2 := right_sm h2
    exact ⟨⟨z1.mono (by omega), z2.mono (by omega), by omega, by omega⟩, Or.inl (by rw [← h5]; rfl)⟩
  split at e
  · rename_i hb
    obtain ⟨rfl, rfl⟩ := beq2 hb
    cases e
    refine (dB_vc v u p _).mpr (do_br fun h1 h2 h3 h4 h5 => ?_)
    have z1 := right_sm h1
    have z2 := right_sm h2
    exact ⟨⟨z1.mono (by omega), z2.mono (by omega), by omega, by omega⟩, Or.inl (by rw [← h5]; rfl)⟩
  split at e
  · rename_i hb
    obtain ⟨rfl, rfl⟩ := beq2 hb
    cases e
    refine (dM_vc v u p _).mpr (do_br fun h1 h2 h3 h4 h5 => ?_)
    have z1 := right_sm h1
    have z2 := right_sm h2
    exact ⟨⟨z1.mono (by omega), z2.mono (by omega), by omega, by omega⟩, Or.inl (by rw [← h5]; rfl)⟩
  split at e
  · rename_i hb
    obtain ⟨rfl, rfl⟩ := beq2 hb
    cases e
    refine (dD_vc v u p _).mpr (do_br fun h1 h2 h3 h4 h5 => ?_)
    have z1 := right_sm h1
    have z2 := right_sm h2
    refine br_intro (fun h6 => Or.inr (by rw [← h5, if_pos h6]; rfl)) fun h6 => ?_
    have hz : zeroV u = false := by
      cases hq : zeroV u with
      | false => rfl
      | true => rw [wrongZ, hq] at h6; exact absurd h6 (by decide)
    obtain ⟨y1, y2⟩ := not_zero_ends pu h2 hz
    exact ⟨⟨z1.mono (by omega), z2.mono (by omega), y1, y2, by omega, by omega⟩, Or.inl (by rw [← h5, if_neg (by rw [h6]; decide)]; rfl)⟩
  split at e
  · rename_i hb
    obtain ⟨rfl, rfl⟩ := beq2 hb
    cases e
    refine (dQ_vc v u p _).mpr (do_br fun h1 h2 h3 h4 h5 => ?_)
    have z1 := right_sm h1
    have z2 := right_sm h2
    refine br_intro (fun h6 => Or.inr (by rw [← h5, if_pos h6]; rfl)) fun h6 => ?_
    exact ⟨⟨z1.mono (by omega), by omega, by omega⟩, Or.inl (by rw [← h5, if_neg (by rw [h6]; decide)]; rfl)⟩
  cases e; exact hp.elim
theorem vDo_ok : SpecOk Tryd.prog 55 vDo :=
  specOk_pat (envOk tys2_ok sIv2_ok) mixed Tryd.func55 rfl (by decide) 4 (by decide) fun l q t hw he hp => by
    unfold vDo at he
    split at he
    · rename_i f g n xs e n' xs' e' m ys i m' ys' i' p
      obtain ⟨_, _, ⟨_, w3, _, _, w4, _, _⟩, _⟩ := hw
      exact ⟨Nat.le_refl 4, fun _ => none, 0, actS_ok (v := ⟨⟨n, xs, e⟩, ⟨n', xs', e'⟩⟩) (u := ⟨⟨m, ys, i⟩, ⟨m', ys', i'⟩⟩) ⟨w3.val0, w4.val0⟩ hp he⟩
    · cases he; exact hp.elim
theorem oP_vc (ok : Bool) (d : Dx) (Q : Tv → Prop) : execF ⟨tys2, sIv2⟩ (fun _ => none) 4 Tryd.f56 [.one (.bool ok), .one (.fn 69 [.ref (dyL false d)]), .one (.words false [])] Q = (br (!ok) (Q (Tv.tup [Sv.agg [At.bool false, At.words true [], At.int IntKind.i64 (0 : Int), At.bool false, At.words true [], At.int IntKind.i64 (0 : Int)], Sv.one (At.int IntKind.i64 (2 : Int))])) (eB (4611686018427387904 : Int) d ∧ Q (Tv.tup [Sv.agg (ivL false (roomR (pointV d)).fst), Sv.one (At.int IntKind.i64 (roomR (pointV d)).snd)]))) := by kernel_rfl
theorem oC_vc (ok : Bool) (v u : Vx) (Q : Tv → Prop) : execF ⟨tys2, sIv2⟩ (fun _ => none) 4 Tryd.f56 [.one (.bool ok), .one (.fn 60 [.ref (ivL false v)]), .one (.rows false 6 1 (ivL false u))] Q = (((0 : Int) ≤ (0 : Int) ∧ (0 : Int) < (↑(1 : Nat) : Int)) ∧ br ok (inR ((0 : Int) + (1 : Int)) ∧ br (!rightV u) (Q (Tv.tup [Sv.agg [At.bool false, At.words true [], At.int IntKind.i64 (0 : Int), At.bool false, At.words true [], At.int IntKind.i64 (0 : Int)], Sv.one (At.int IntKind.i64 (2 : Int))])) (Vx.Sm (65536 : Nat) v ∧ Q (Tv.tup [Sv.agg (ivL false (roomR (canonV v)).fst), Sv.one (At.int IntKind.i64 (roomR (canonV v)).snd)]))) (inR ((0 : Int) + (1 : Int)) ∧ Q (Tv.tup [Sv.agg [At.bool false, At.words true [], At.int IntKind.i64 (0 : Int), At.bool false, At.words true [], At.int IntKind.i64 (0 : Int)], Sv.one (At.int IntKind.i64 (2 : Int))]))) := by kernel_rfl
theorem oN_vc (ok : Bool) (v u : Vx) (Q : Tv → Prop) : execF ⟨tys2, sIv2⟩ (fun _ => none) 4 Tryd.f56 [.one (.bool ok), .one (.fn 114 [.ref (ivL false v)]), .one (.rows false 6 1 (ivL false u))] Q = (((0 : Int) ≤ (0 : Int) ∧ (0 : Int) < (↑(1 : Nat) : Int)) ∧ br ok (inR ((0 : Int) + (1 : Int)) ∧ br (!rightV u) (Q (Tv.tup [Sv.agg [At.bool false, At.words true [], At.int IntKind.i64 (0 : Int), At.bool false, At.words true [], At.int IntKind.i64 (0 : Int)], Sv.one (At.int IntKind.i64 (2 : Int))])) (Vx.Sm (65536 : Nat) v ∧ Q (Tv.tup [Sv.agg (ivL false (roomR (turnV v)).fst), Sv.one (At.int IntKind.i64 (roomR (turnV v)).snd)]))) (inR ((0 : Int) + (1 : Int)) ∧ Q (Tv.tup [Sv.agg [At.bool false, At.words true [], At.int IntKind.i64 (0 : Int), At.bool false, At.words true [], At.int IntKind.i64 (0 : Int)], Sv.one (At.int IntKind.i64 (2 : Int))]))) := by kernel_rfl
theorem oS_vc (ok : Bool) (v u : Vx) (k : Int) (Q : Tv → Prop) : execF ⟨tys2, sIv2⟩ (fun _ => none) 4 Tryd.f56 [.one (.bool ok), .one (.fn 116 [.ref (ivL false v), .ref [.int .i64 k]]), .one (.rows false 6 1 (ivL false u))] Q = (((0 : Int) ≤ (0 : Int) ∧ (0 : Int) < (↑(1 : Nat) : Int)) ∧ br ok (inR ((0 : Int) + (1 : Int)) ∧ br (!rightV u) (Q (Tv.tup [Sv.agg [At.bool false, At.words true [], At.int IntKind.i64 (0 : Int), At.bool false, At.words true [], At.int IntKind.i64 (0 : Int)], Sv.one (At.int IntKind.i64 (2 : Int))])) ((Vx.Sm (65536 : Nat) v ∧ (-65536 : Int) ≤ k ∧ k ≤ (65536 : Int)) ∧ Q (Tv.tup [Sv.agg (ivL false (roomR (scaleV v k)).fst), Sv.one (At.int IntKind.i64 (roomR (scaleV v k)).snd)]))) (inR ((0 : Int) + (1 : Int)) ∧ Q (Tv.tup [Sv.agg [At.bool false, At.words true [], At.int IntKind.i64 (0 : Int), At.bool false, At.words true [], At.int IntKind.i64 (0 : Int)], Sv.one (At.int IntKind.i64 (2 : Int))]))) := by kernel_rfl
theorem oT_vc (ok : Bool) (v u : Vx) (k : Int) (Q : Tv → Prop) : execF ⟨tys2, sIv2⟩ (fun _ => none) 4 Tryd.f56 [.one (.bool ok), .one (.fn 118 [.ref (ivL false v), .ref [.int .i64 k]]), .one (.rows false 6 1 (ivL false u))] Q = (((0 : Int) ≤ (0 : Int) ∧ (0 : Int) < (↑(1 : Nat) : Int)) ∧ br ok (inR ((0 : Int) + (1 : Int)) ∧ br (!rightV u) (Q (Tv.tup [Sv.agg [At.bool false, At.words true [], At.int IntKind.i64 (0 : Int), At.bool false, At.words true [], At.int IntKind.i64 (0 : Int)], Sv.one (At.int IntKind.i64 (2 : Int))])) ((Vx.Sm (65536 : Nat) v ∧ (1 : Int) ≤ k ∧ k ≤ (8192 : Int)) ∧ Q (Tv.tup [Sv.agg (ivL false (roomR (trimV v k)).fst), Sv.one (At.int IntKind.i64 (roomR (trimV v k)).snd)]))) (inR ((0 : Int) + (1 : Int)) ∧ Q (Tv.tup [Sv.agg [At.bool false, At.words true [], At.int IntKind.i64 (0 : Int), At.bool false, At.words true [], At.int IntKind.i64 (0 : Int)], Sv.one (At.int IntKind.i64 (2 : Int))]))) := by kernel_rfl
theorem oJ_vc (ok : Bool) (v u w z : Vx) (Q : Tv → Prop) : execF ⟨tys2, sIv2⟩ (fun _ => none) 4 Tryd.f56 [.one (.bool ok), .one (.fn 57 [.ref (ivL false v), .ref (ivL false u)]), .one (.rows false 6 2 (ivL false w ++ ivL false z))] Q = (((0 : Int) ≤ (0 : Int) ∧ (0 : Int) < (↑(2 : Nat) : Int)) ∧ br ok (inR ((0 : Int) + (1 : Int)) ∧ ((0 : Int) ≤ (0 : Int) + (1 : Int) ∧ (0 : Int) + (1 : Int) < (↑(2 : Nat) : Int)) ∧ br (rightV w) (inR ((0 : Int) + (1 : Int) + (1 : Int)) ∧ br (!rightV z) (Q (Tv.tup [Sv.agg [At.bool false, At.words true [], At.int IntKind.i64 (0 : Int), At.bool false, At.words true [], At.int IntKind.i64 (0 : Int)], Sv.one (At.int IntKind.i64 (2 : Int))])) ((Vx.Sm (65536 : Nat) v ∧ Vx.Sm (65536 : Nat) u) ∧ Q (Tv.tup [Sv.agg (ivL false (roomR (joinV v u)).fst), Sv.one (At.int IntKind.i64 (roomR (joinV v u)).snd)]))) (inR ((0 : Int) + (1 : Int) + (1 : Int)) ∧ Q (Tv.tup [Sv.agg [At.bool false, At.words true [], At.int IntKind.i64 (0 : Int), At.bool false, At.words true [], At.int IntKind.i64 (0 : Int)], Sv.one (At.int IntKind.i64 (2 : Int))]))) (inR ((0 : Int) + (1 : Int)) ∧ ((0 : Int) ≤ (0 : Int) + (1 : Int) ∧ (0 : Int) + (1 : Int) < (↑(2 : Nat) : Int)) ∧ inR ((0 : Int) + (1 : Int) + (1 : Int)) ∧ Q (Tv.tup [Sv.agg [At.bool false, At.words true [], At.int IntKind.i64 (0 : Int), At.bool false, At.words true [], At.int IntKind.i64 (0 : Int)], Sv.one (At.int IntKind.i64 (2 : Int))]))) := by kernel_rfl
theorem when_false {r : Vx × Int} {c : Bool} (h : c = false) : Qw (whenR c r) (zT 2) := by subst h; exact Or.inr rfl
theorem when_true {r : Vx × Int} {c : Bool} (h : c = true) : Qw (whenR c r) (reT r) := by subst h; exact Or.inl rfl
theorem of1_br {ok : Bool} {u : Vx} {r : Vx × Int} {R : Prop} (_ : ok = true → rightV u = true → R ∧ Qw (whenR (ok && rightV u) r) (reT r) → R ∧ Qw (whenR (ok && rightV u) r) (reT r)) (hR : ok = true → rightV u = true → R) :
    ((0 : Int) ≤ 0 ∧ (0 : Int) < ((1 : Nat) : Int)) ∧ br ok (inR (0 + 1) ∧ br (!rightV u) (Qw (whenR (ok && rightV u) r) (zT 2)) (R ∧ Qw (whenR (ok && rightV u) r) (reT r))) (inR (0 + 1) ∧ Qw (whenR (ok && rightV u) r) (zT 2)) := by
  refine ⟨⟨by omega, by omega⟩, br_intro (fun h1 => ⟨⟨by omega, by omega⟩, br_intro (fun h2 => ?_) fun h2 => ⟨hR h1 (not_false' h2), ?_⟩⟩) fun h1 => ⟨⟨by omega, by omega⟩, ?_⟩⟩
  · exact when_false (by rw [not_true h2, Bool.and_false])
  · exact when_true (by rw [h1, not_false' h2]; rfl)
  · exact when_false (by rw [h1]; rfl)
def ofS1 (g : Nat) (ok : Bool) (v u : Vx) : Option Prop × Tv :=
  match Nat.beq g 60 with
  | true => (some (rightV u = true → Vx.Sm 65536 v), reT (whenR (ok && rightV u) (roomR (canonV v))))
  | false =>
  match Nat.beq g 114 with
  | true => (some (rightV u = true → Vx.Sm 65536 v), reT (whenR (ok && rightV u) (roomR (turnV v))))
  | false => noSpec
def ofS2 (g : Nat) (ok : Bool) (v u : Vx) (k : Int) : Option Prop × Tv :=
  match Nat.beq g 116 with
  | true => (some ((ok = true → -65536 ≤ k ∧ k ≤ 65536) ∧ (rightV u = true → Vx.Sm 65536 v)), reT (whenR (ok && rightV u) (roomR (scaleV v k))))
  | false =>
  match Nat.beq g 118 with
  | true => (some ((ok = true → 1 ≤ k ∧ k ≤ 8192) ∧ (rightV u = true → Vx.Sm 65536 v)), reT (whenR (ok && rightV u) (roomR (trimV v k))))
  | false => noSpec
def ofS0 (g : Nat) (ok : Bool) (d : Dx) : Option Prop × Tv :=
  match Nat.beq g 69 with
  | true => (some (ok = true → eB 4611686018427387904 d), reT (whenR ok (roomR (pointV d))))
  | false => noSpec
def ofS3 (g : Nat) (ok : Bool) (v u w z : Vx) : Option Prop × Tv :=
  match Nat.beq g 57 with
  | true => (some (rightV w = true → rightV z = true → Vx.Sm 65536 v ∧ Vx.Sm 65536 u), reT (whenR (ok && (rightV w && rightV z)) (roomR (joinV v u))))
  | false => noSpec
def vOf : Spec := fun l => match l with
  | [.one (.bool ok), .one (.fn g [.ref (cD n xs e)]), .one (.words false [])] => ofS0 g ok ⟨n, xs, e⟩
  | [.one (.bool ok), .one (.fn g [.ref (cV n xs e n' xs' e')]), .one (.rows false 6 1 (cV m ys i m' ys' i'))] => ofS1 g ok ⟨⟨n, xs, e⟩, ⟨n', xs', e'⟩⟩ ⟨⟨m, ys, i⟩, ⟨m', ys', i'⟩⟩
  | [.one (.bool ok), .one (.fn g [.ref (cV n xs e n' xs' e'), .ref [.int .i64 k]]), .one (.rows false 6 1 (cV m ys i m' ys' i'))] => ofS2 g ok ⟨⟨n, xs, e⟩, ⟨n', xs', e'⟩⟩ ⟨⟨m, ys, i⟩, ⟨m', ys', i'⟩⟩ k
  | [.one (.bool ok), .one (.fn g [.ref (cV n xs e n' xs' e'), .ref (cV m ys i m' ys' i')]), .one (.rows false 6 2 (.bool n3 :: .words false xs3 :: .int .i64 e3 :: .bool n4 :: .words false xs4 :: .int .i64 e4 :: cV n5 xs5 e5 n6 xs6 e6))] => ofS3 g ok ⟨⟨n, xs, e⟩, ⟨n', xs', e'⟩⟩ ⟨⟨m, ys, i⟩, ⟨m', ys', i'⟩⟩ ⟨⟨n3, xs3, e3⟩, ⟨n4, xs4, e4⟩⟩ ⟨⟨n5, xs5, e5⟩, ⟨n6, xs6, e6⟩⟩
  | _ => noSpec
theorem ofS0_ok {g : Nat} {ok : Bool} {d : Dx} {q : Option Prop} {t : Tv} (hp : match q with | none => True | some q => q) (e : ofS0 g ok d = (q, t)) :
    execF ⟨tys2, sIv2⟩ (fun _ => none) 4 Tryd.f56 [.one (.bool ok), .one (.fn g [.ref (dyL false d)]), .one (.words false [])] (fun x => x = t ∨ fgT x = t) := by
  unfold ofS0 at e
  split at e
  · rename_i hb
    obtain rfl := Nat.eq_of_beq_eq_true hb
    cases e
    refine (oP_vc ok d _).mpr (br_intro (fun h => ?_) fun h => ⟨hp (not_false' h), ?_⟩)
    · exact when_false (not_true h)
    · exact when_true (not_false' h)
  · cases e; exact hp.elim
theorem ofS1_ok {g : Nat} {ok : Bool} {v u : Vx} {q : Option Prop} {t : Tv} (hp : match q with | none => True | some q => q) (e : ofS1 g ok v u = (q, t)) :
    execF ⟨tys2, sIv2⟩ (fun _ => none) 4 Tryd.f56 [.one (.bool ok), .one (.fn g [.ref (ivL false v)]), .one (.rows false 6 1 (ivL false u))] (fun x => x = t ∨ fgT x = t) := by
  unfold ofS1 at e
  split at e
  · rename_i hb
    obtain rfl := Nat.eq_of_beq_eq_true hb
    cases e
    exact (oC_vc ok v u _).mpr (of1_br (fun _ _ h => h) fun h1 h2 => hp h2)
  · split at e
    · rename_i hb
      obtain rfl := Nat.eq_of_beq_eq_true hb
      cases e
      exact (oN_vc ok v u _).mpr (of1_br (fun _ _ h => h) fun h1 h2 => hp h2)
    · cases e; exact hp.elim
theorem ofS2_ok {g : Nat} {ok : Bool} {v u : Vx} {k : Int} {q : Option Prop} {t : Tv} (hp : match q with | none => True | some q => q) (e : ofS2 g ok v u k = (q, t)) :
    execF ⟨tys2, sIv2⟩ (fun _ => none) 4 Tryd.f56 [.one (.bool ok), .one (.fn g [.ref (ivL false v), .ref [.int .i64 k]]), .one (.rows false 6 1 (ivL false u))] (fun x => x = t ∨ fgT x = t) := by
  unfold ofS2 at e
  split at e
  · rename_i hb
    obtain rfl := Nat.eq_of_beq_eq_true hb
    cases e
    exact (oS_vc ok v u k _).mpr (of1_br (fun _ _ h => h) fun h1 h2 => ⟨hp.2 h2, hp.1 h1⟩)
  · split at e
    · rename_i hb
      obtain rfl := Nat.eq_of_beq_eq_true hb
      cases e
      exact (oT_vc ok v u k _).mpr (of1_br (fun _ _ h => h) fun h1 h2 => ⟨hp.2 h2, hp.1 h1⟩)
    · cases e; exact hp.elim
theorem ofS3_ok {g : Nat} {ok : Bool} {v u w z : Vx} {q : Option Prop} {t : Tv} (hp : match q with | none => True | some q => q) (e : ofS3 g ok v u w z = (q, t)) :
    execF ⟨tys2, sIv2⟩ (fun _ => none) 4 Tryd.f56 [.one (.bool ok), .one (.fn g [.ref (ivL false v), .ref (ivL false u)]), .one (.rows false 6 2 (ivL false w ++ ivL false z))] (fun x => x = t ∨ fgT x = t) := by
  unfold ofS3 at e
  split at e
  · rename_i hb
    obtain rfl := Nat.eq_of_beq_eq_true hb
    cases e
    refine (oJ_vc ok v u w z _).mpr ⟨⟨by omega, by omega⟩, br_intro (fun h1 => ⟨⟨by omega, by omega⟩, ⟨by omega, by omega⟩, br_intro (fun h2 => ⟨⟨by omega, by omega⟩, br_intro (fun h3 => ?_) fun h3 => ⟨hp h2 (not_false' h3), ?_⟩⟩) fun h2 => ⟨⟨by omega, by omega⟩, ?_⟩⟩) fun h1 => ⟨⟨by omega, by omega⟩, ⟨by omega, by omega⟩, ⟨by omega, by omega⟩, ?_⟩⟩
    · exact when_false (by rw [not_true h3, Bool.and_false, Bool.and_false])
    · exact when_true (by rw [h1, h2, not_false' h3]; rfl)
    · exact when_false (by rw [h2, Bool.false_and, Bool.and_false])
    · exact when_false (by rw [h1]; rfl)
  · cases e; exact hp.elim
theorem vOf_ok : SpecOk Tryd.prog 56 vOf :=
  specOk_pat (envOk tys2_ok sIv2_ok) mixed Tryd.func56 rfl (by decide) 3 (by decide) fun l q t hw he hp => by
    unfold vOf at he
    split at he
    · rename_i ok g n xs e
      exact ⟨Nat.le_refl 3, fun _ => none, 4, ofS0_ok (d := ⟨n, xs, e⟩) hp he⟩
    · rename_i ok g n xs e n' xs' e' m ys i m' ys' i'
      exact ⟨Nat.le_refl 3, fun _ => none, 4, ofS1_ok (v := ⟨⟨n, xs, e⟩, ⟨n', xs', e'⟩⟩) (u := ⟨⟨m, ys, i⟩, ⟨m', ys', i'⟩⟩) hp he⟩
    · rename_i ok g n xs e n' xs' e' k m ys i m' ys' i'
      exact ⟨Nat.le_refl 3, fun _ => none, 4, ofS2_ok (v := ⟨⟨n, xs, e⟩, ⟨n', xs', e'⟩⟩) (u := ⟨⟨m, ys, i⟩, ⟨m', ys', i'⟩⟩) hp he⟩
    · rename_i ok g n xs e n' xs' e' m ys i m' ys' i' n3 xs3 e3 n4 xs4 e4 n5 xs5 e5 n6 xs6 e6
      exact ⟨Nat.le_refl 3, fun _ => none, 4, ofS3_ok (v := ⟨⟨n, xs, e⟩, ⟨n', xs', e'⟩⟩) (u := ⟨⟨m, ys, i⟩, ⟨m', ys', i'⟩⟩) (w := ⟨⟨n3, xs3, e3⟩, ⟨n4, xs4, e4⟩⟩) (z := ⟨⟨n5, xs5, e5⟩, ⟨n6, xs6, e6⟩⟩) hp he⟩
    · cases he; exact hp.elim
def sIv3 : List (FuncId × Spec) := [(55, vDo), (56, vOf)] ++ sIv2
theorem sIv3_ok : SpecsOk Tryd.prog sIv3 := ⟨vDo_ok, vOf_ok, sIv2_ok⟩
/-! What others ask. -/
def ivPoint (d : Dx) : Vx × Int := whenR d.fitsB (roomR (pointV d))
def ivCanon (v : Vx) : Vx × Int := whenR (rightV v) (roomR (canonV v))
def ivNeg (v : Vx) : Vx × Int := whenR (rightV v) (roomR (turnV v))
def ivScale (v : Vx) (n : Int) : Vx × Int := whenR ((leI (-65536) n && leI n 65536) && rightV v) (roomR (scaleV v n))
def ivCut (v : Vx) (p : Int) : Vx × Int := whenR ((leI 1 p && leI p 8192) && rightV v) (roomR (trimV v p))
def ivJoin (v u : Vx) : Vx × Int := whenR (rightV v && rightV u) (roomR (joinV v u))
def ivAdd (v u : Vx) (p : Int) : Vx × Int := doR v u p 0 (plusV v u p)
def ivSub (v u : Vx) (p : Int) : Vx × Int := doR v u p 0 (lessV v u p)
def ivMul (v u : Vx) (p : Int) : Vx × Int := doR v u p 0 (timesV v u p)
def ivDiv (v u : Vx) (p : Int) : Vx × Int := doR v u p (wrongZ u) (divV v u p)
def ivSqrt (v : Vx) (p : Int) : Vx × Int := doR v zeroIv p (wrongL v) (sqrtV v p)
def vXPoint : Spec := specK [.d] fun (d : Dx) => (none, reT (ivPoint d))
theorem vXPoint_vc (d : Dx) (Q : Tv → Prop) : execF ⟨tys2, sIv3⟩ (fun _ => none) 0 Tryd.f20 [.agg (dyL false d)] Q = ((Dx.fitsB d = true → eB (4611686018427387904 : Int) d) ∧ Q (Tv.tup [Sv.agg (ivL false (whenR (Dx.fitsB d) (roomR (pointV d))).fst), Sv.one (At.int IntKind.i64 (whenR (Dx.fitsB d) (roomR (pointV d))).snd)])) := by kernel_rfl
def vXCanon : Spec := specK [.v] fun (v : Vx) => (none, reT (ivCanon v))
theorem vXCanon_vc (v : Vx) (Q : Tv → Prop) : execF ⟨tys2, sIv3⟩ (fun _ => none) 0 Tryd.f16 [.agg (ivL false v)] Q = ((rightV v = true → Vx.Sm (65536 : Nat) v) ∧ Q (Tv.tup [Sv.agg (ivL false (whenR (true && rightV v) (roomR (canonV v))).fst), Sv.one (At.int IntKind.i64 (whenR (true && rightV v) (roomR (canonV v))).snd)])) := by kernel_rfl
def vXNeg : Spec := specK [.v] fun (v : Vx) => (none, reT (ivNeg v))
theorem vXNeg_vc (v : Vx) (Q : Tv → Prop) : execF ⟨tys2, sIv3⟩ (fun _ => none) 0 Tryd.f76 [.agg (ivL false v)] Q = ((rightV v = true → Vx.Sm (65536 : Nat) v) ∧ Q (Tv.tup [Sv.agg (ivL false (whenR (true && rightV v) (roomR (turnV v))).fst), Sv.one (At.int IntKind.i64 (whenR (true && rightV v) (roomR (turnV v))).snd)])) := by kernel_rfl
def vXScale : Spec := specK [.v, .i .i64] fun (v : Vx) (n : Int) => (none, reT (ivScale v n))
theorem vXScale_vc (v : Vx) (n : Int) (Q : Tv → Prop) : execF ⟨tys2, sIv3⟩ (fun _ => none) 0 Tryd.f77 [.agg (ivL false v), .one (.int .i64 n)] Q = (br (leI (-65536 : Int) n) (((leI n (65536 : Int) = true → (-65536 : Int) ≤ n ∧ n ≤ (65536 : Int)) ∧ (rightV v = true → Vx.Sm (65536 : Nat) v)) ∧ Q (Tv.tup [Sv.agg (ivL false (whenR (leI n (65536 : Int) && rightV v) (roomR (scaleV v n))).fst), Sv.one (At.int IntKind.i64 (whenR (leI n (65536 : Int) && rightV v) (roomR (scaleV v n))).snd)])) (((false = true → (-65536 : Int) ≤ n ∧ n ≤ (65536 : Int)) ∧ (rightV v = true → Vx.Sm (65536 : Nat) v)) ∧ Q (Tv.tup [Sv.agg (ivL false (whenR (false && rightV v) (roomR (scaleV v n))).fst), Sv.one (At.int IntKind.i64 (whenR (false && rightV v) (roomR (scaleV v n))).snd)]))) := by kernel_rfl
def vXCut : Spec := specK [.v, .i .i64] fun (v : Vx) (p : Int) => (none, reT (ivCut v p))
theorem vXCut_vc (v : Vx) (p : Int) (Q : Tv → Prop) : execF ⟨tys2, sIv3⟩ (fun _ => none) 0 Tryd.f78 [.agg (ivL false v), .one (.int .i64 p)] Q = (br (leI (1 : Int) p) (((leI p (8192 : Int) = true → (1 : Int) ≤ p ∧ p ≤ (8192 : Int)) ∧ (rightV v = true → Vx.Sm (65536 : Nat) v)) ∧ Q (Tv.tup [Sv.agg (ivL false (whenR (leI p (8192 : Int) && rightV v) (roomR (trimV v p))).fst), Sv.one (At.int IntKind.i64 (whenR (leI p (8192 : Int) && rightV v) (roomR (trimV v p))).snd)])) (((false = true → (1 : Int) ≤ p ∧ p ≤ (8192 : Int)) ∧ (rightV v = true → Vx.Sm (65536 : Nat) v)) ∧ Q (Tv.tup [Sv.agg (ivL false (whenR (false && rightV v) (roomR (trimV v p))).fst), Sv.one (At.int IntKind.i64 (whenR (false && rightV v) (roomR (trimV v p))).snd)]))) := by kernel_rfl
def vXJoin : Spec := specK [.v, .v] fun (v : Vx) (u : Vx) => (none, reT (ivJoin v u))
theorem vXJoin_vc (v : Vx) (u : Vx) (Q : Tv → Prop) : execF ⟨tys2, sIv3⟩ (fun _ => none) 0 Tryd.f15 [.agg (ivL false v), .agg (ivL false u)] Q = ((rightV v = true → rightV u = true → Vx.Sm (65536 : Nat) v ∧ Vx.Sm (65536 : Nat) u) ∧ Q (Tv.tup [Sv.agg (ivL false (whenR (true && (rightV v && rightV u)) (roomR (joinV v u))).fst), Sv.one (At.int IntKind.i64 (whenR (true && (rightV v && rightV u)) (roomR (joinV v u))).snd)])) := by kernel_rfl
def vXAdd : Spec := specK [.v, .v, .i .i64] fun (v : Vx) (u : Vx) (p : Int) => (none, reT (ivAdd v u p))
theorem vXAdd_vc (v : Vx) (u : Vx) (p : Int) (Q : Tv → Prop) : execF ⟨tys2, sIv3⟩ (fun _ => none) 0 Tryd.f14 [.agg (ivL false v), .agg (ivL false u), .one (.int .i64 p)] Q = (Q (Tv.tup [Sv.agg (ivL false (doR v u p (0 : Int) (plusV v u p)).fst), Sv.one (At.int IntKind.i64 (doR v u p (0 : Int) (plusV v u p)).snd)])) := by kernel_rfl
def vXSub : Spec := specK [.v, .v, .i .i64] fun (v : Vx) (u : Vx) (p : Int) => (none, reT (ivSub v u p))
theorem vXSub_vc (v : Vx) (u : Vx) (p : Int) (Q : Tv → Prop) : execF ⟨tys2, sIv3⟩ (fun _ => none) 0 Tryd.f43 [.agg (ivL false v), .agg (ivL false u), .one (.int .i64 p)] Q = (Q (Tv.tup [Sv.agg (ivL false (doR v u p (0 : Int) (lessV v u p)).fst), Sv.one (At.int IntKind.i64 (doR v u p (0 : Int) (lessV v u p)).snd)])) := by kernel_rfl
def vXMul : Spec := specK [.v, .v, .i .i64] fun (v : Vx) (u : Vx) (p : Int) => (none, reT (ivMul v u p))
theorem vXMul_vc (v : Vx) (u : Vx) (p : Int) (Q : Tv → Prop) : execF ⟨tys2, sIv3⟩ (fun _ => none) 0 Tryd.f36 [.agg (ivL false v), .agg (ivL false u), .one (.int .i64 p)] Q = (Q (Tv.tup [Sv.agg (ivL false (doR v u p (0 : Int) (timesV v u p)).fst), Sv.one (At.int IntKind.i64 (doR v u p (0 : Int) (timesV v u p)).snd)])) := by kernel_rfl
def vXDiv : Spec := specK [.v, .v, .i .i64] fun (v : Vx) (u : Vx) (p : Int) => (none, reT (ivDiv v u p))
theorem vXDiv_vc (v : Vx) (u : Vx) (p : Int) (Q : Tv → Prop) : execF ⟨tys2, sIv3⟩ (fun _ => none) 0 Tryd.f44 [.agg (ivL false v), .agg (ivL false u), .one (.int .i64 p)] Q = (Q (Tv.tup [Sv.agg (ivL false (doR v u p (wrongZ u) (divV v u p)).fst), Sv.one (At.int IntKind.i64 (doR v u p (wrongZ u) (divV v u p)).snd)])) := by kernel_rfl
def vXSqrt : Spec := specK [.v, .i .i64] fun (v : Vx) (p : Int) => (none, reT (ivSqrt v p))
theorem vXSqrt_vc (v : Vx) (p : Int) (Q : Tv → Prop) : execF ⟨tys2, sIv3⟩ (fun _ => none) 0 Tryd.f45 [.agg (ivL false v), .one (.int .i64 p)] Q = (Q (Tv.tup [Sv.agg (ivL false (doR v (Vx.mk (Dx.mk false [] (0 : Int)) (Dx.mk false [] (0 : Int))) p (wrongL v) (sqrtV v p)).fst), Sv.one (At.int IntKind.i64 (doR v (Vx.mk (Dx.mk false [] (0 : Int)) (Dx.mk false [] (0 : Int))) p (wrongL v) (sqrtV v p)).snd)])) := by kernel_rfl
theorem vXPoint_ok : SpecOk Tryd.prog 20 vXPoint :=
  specK_ok (envOk tys2_ok sIv3_ok) mixed Tryd.func20 rfl (by decide) (by decide) fun (d : Dx) _ _ => ⟨fun _ => none, 0, (vXPoint_vc d _).mpr ⟨fun h => (fits_sm h).eB (by omega), rfl⟩⟩
theorem vXCanon_ok : SpecOk Tryd.prog 16 vXCanon :=
  specK_ok (envOk tys2_ok sIv3_ok) mixed Tryd.func16 rfl (by decide) (by decide) fun (v : Vx) _ _ => ⟨fun _ => none, 0, (vXCanon_vc v _).mpr ⟨right_sm, rfl⟩⟩
theorem vXNeg_ok : SpecOk Tryd.prog 76 vXNeg :=
  specK_ok (envOk tys2_ok sIv3_ok) mixed Tryd.func76 rfl (by decide) (by decide) fun (v : Vx) _ _ => ⟨fun _ => none, 0, (vXNeg_vc v _).mpr ⟨right_sm, rfl⟩⟩
theorem vXScale_ok : SpecOk Tryd.prog 77 vXScale :=
  specK_ok (envOk tys2_ok sIv3_ok) mixed Tryd.func77 rfl (by decide) (by decide) fun (v : Vx) _ (n : Int) _ _ => ⟨fun _ => none, 0, by
    show execF _ _ _ _ _ (fun t => t = reT (ivScale v n))
    refine (vXScale_vc v n _).mpr (br_intro (fun h => ⟨⟨fun k => ⟨leI_true.1 h, leI_true.1 k⟩, right_sm⟩, ?_⟩) fun h => ⟨⟨fun k => by simp at k, right_sm⟩, ?_⟩)
    · unfold ivScale; rw [h]; rfl
    · unfold ivScale; rw [h]; rfl⟩
theorem vXCut_ok : SpecOk Tryd.prog 78 vXCut :=
  specK_ok (envOk tys2_ok sIv3_ok) mixed Tryd.func78 rfl (by decide) (by decide) fun (v : Vx) _ (p : Int) _ _ => ⟨fun _ => none, 0, by
    show execF _ _ _ _ _ (fun t => t = reT (ivCut v p))
    refine (vXCut_vc v p _).mpr (br_intro (fun h => ⟨⟨fun k => ⟨leI_true.1 h, leI_true.1 k⟩, right_sm⟩, ?_⟩) fun h => ⟨⟨fun k => by simp at k, right_sm⟩, ?_⟩)
    · unfold ivCut; rw [h]; rfl
    · unfold ivCut; rw [h]; rfl⟩
theorem vXJoin_ok : SpecOk Tryd.prog 15 vXJoin :=
  specK_ok (envOk tys2_ok sIv3_ok) mixed Tryd.func15 rfl (by decide) (by decide) fun (v : Vx) _ (u : Vx) _ _ => ⟨fun _ => none, 0, (vXJoin_vc v u _).mpr ⟨fun h k => ⟨right_sm h, right_sm k⟩, rfl⟩⟩
theorem vXAdd_ok : SpecOk Tryd.prog 14 vXAdd :=
  specK_ok (envOk tys2_ok sIv3_ok) mixed Tryd.func14 rfl (by decide) (by decide) fun (v : Vx) _ (u : Vx) _ (p : Int) _ _ => ⟨fun _ => none, 0, (vXAdd_vc v u p _).mpr rfl⟩
theorem vXSub_ok : SpecOk Tryd.prog 43 vXSub :=
  specK_ok (envOk tys2_ok sIv3_ok) mixed Tryd.func43 rfl (by decide) (by decide) fun (v : Vx) _ (u : Vx) _ (p : Int) _ _ => ⟨fun _ => none, 0, (vXSub_vc v u p _).mpr rfl⟩
theorem vXMul_ok : SpecOk Tryd.prog 36 vXMul :=
  specK_ok (envOk tys2_ok sIv3_ok) mixed Tryd.func36 rfl (by decide) (by decide) fun (v : Vx) _ (u : Vx) _ (p : Int) _ _ => ⟨fun _ => none, 0, (vXMul_vc v u p _).mpr rfl⟩
theorem vXDiv_ok : SpecOk Tryd.prog 44 vXDiv :=
  specK_ok (envOk tys2_ok sIv3_ok) mixed Tryd.func44 rfl (by decide) (by decide) fun (v : Vx) _ (u : Vx) _ (p : Int) _ _ => ⟨fun _ => none, 0, (vXDiv_vc v u p _).mpr rfl⟩
theorem vXSqrt_ok : SpecOk Tryd.prog 45 vXSqrt :=
  specK_ok (envOk tys2_ok sIv3_ok) mixed Tryd.func45 rfl (by decide) (by decide) fun (v : Vx) _ (p : Int) _ _ => ⟨fun _ => none, 0, (vXSqrt_vc v p _).mpr rfl⟩
def sIval : List (FuncId × Spec) := [(20, vXPoint), (16, vXCanon), (76, vXNeg), (77, vXScale), (78, vXCut), (15, vXJoin), (14, vXAdd), (43, vXSub), (36, vXMul), (44, vXDiv), (45, vXSqrt)] ++ sIv3
theorem sIval_ok : SpecsOk Tryd.prog sIval := ⟨vXPoint_ok, vXCanon_ok, vXNeg_ok, vXScale_ok, vXCut_ok, vXJoin_ok, vXAdd_ok, vXSub_ok, vXMul_ok, vXDiv_ok, vXSqrt_ok, sIv3_ok⟩
end Go.Proofs.YtmfmneanmamjbaaDoor

namespace Go.Proofs.YtmfmneanmamjbaaDoor
open Go.RowKit
def p2 (e : Int) : Rat := 2 ^ e
theorem p2_pos (e : Int) : 0 < p2 e := Rat.zpow_pos (by decide)
theorem p2_add (a b : Int) : p2 (a + b) = p2 a * p2 b := Rat.zpow_add (by decide) a b
theorem p2_zero : p2 0 = 1 := Rat.zpow_zero 2
theorem p2_nat (n : Nat) : p2 n = ((2 ^ n : Int) : Rat) := by
  unfold p2; rw [Rat.zpow_natCast, Rat.intCast_pow]; rfl
theorem p2_toNat {n : Int} (h : 0 ≤ n) : p2 n = ((2 ^ n.toNat : Int) : Rat) := by
  rw [← p2_nat, Int.toNat_of_nonneg h]
theorem p2_neg (e : Int) : p2 (-e) * p2 e = 1 := by rw [← p2_add, Int.add_left_neg, p2_zero]
theorem p2_sub (a b : Int) : p2 (a - b) * p2 b = p2 a := by rw [← p2_add]; congr 1; omega
/-- The number itself. -/
def Dx.rv (d : Dx) : Rat := (d.sm : Rat) * p2 d.e
theorem rv_zero {d : Dx} (h : d.m = 0) : d.rv = 0 := by
  unfold Dx.rv Dx.sm; rw [h]
  cases d.neg <;> simp
theorem sgnm (neg : Bool) (a b : Int) : (if neg then -(a * b) else a * b) = a * (if neg then -b else b) := by cases neg <;> simp [Int.mul_neg]
theorem rv_mkD {neg : Bool} {m e : Int} (h : 0 ≤ m) : (mkD neg m e).rv = ((if neg then -m else m : Int) : Rat) * p2 e := by
  by_cases h0 : m = 0
  · subst h0; rw [mkD_zero, rv_zero (by rfl)]; cases neg <;> simp
  · obtain ⟨h1, h2⟩ := tz_div (m := m) (by omega)
    have hm := mkD_m (neg := neg) (e := e) h
    have hn : (mkD neg m e).neg = neg := by unfold mkD; rw [if_neg h0]
    have he : (mkD neg m e).e = e + (tz m : Int) := by unfold mkD; rw [if_neg h0]
    unfold Dx.rv Dx.sm
    rw [hm, hn, he, p2_add, p2_nat]
    conv => rhs; rw [h1, sgnm, Rat.intCast_mul]
    grind
theorem rv_mkS {s e : Int} : (mkS s e).rv = (s : Rat) * p2 e := by
  unfold mkS; rw [rv_mkD (by omega)]
  congr 2
  by_cases h : s < 0
  · rw [decide_eq_true h]; simp only [if_true]; omega
  · rw [decide_eq_false h]; simp; omega
theorem rv_one {d : Dx} (h : 0 ≤ d.m) : (oneD d).rv = d.rv := by unfold oneD; rw [rv_mkD h]; rfl
theorem rv_neg {d : Dx} (h : 0 ≤ d.m) : (negD d).rv = -d.rv := by
  unfold negD; rw [rv_mkD h]; unfold Dx.rv Dx.sm
  cases d.neg <;> simp [Rat.neg_mul]
theorem rv_abs {d : Dx} (h : 0 ≤ d.m) : (absD d).rv = (d.m : Rat) * p2 d.e := by
  unfold absD; rw [rv_mkD h]; simp
theorem rv_shift {d : Dx} {n : Int} (h : 0 ≤ d.m) : (shiftD d n).rv = d.rv * p2 n := by
  unfold shiftD; rw [rv_mkD h, p2_add]; unfold Dx.rv Dx.sm; rw [Rat.mul_assoc]
theorem rv_times {a b : Dx} (ha : 0 ≤ a.m) (hb : 0 ≤ b.m) : (timesD a b).rv = a.rv * b.rv := by
  unfold timesD; rw [rv_mkD (Int.mul_nonneg ha hb), p2_add]
  have e : (if (!(a.neg == b.neg)) = true then -(a.m * b.m) else a.m * b.m) = a.sm * b.sm := by
    unfold Dx.sm; cases a.neg <;> cases b.neg <;> simp [Int.mul_neg, Int.neg_mul]
  rw [e, Rat.intCast_mul]; unfold Dx.rv; grind
theorem rv_scl {d : Dx} {mn : Int} (h : mn ≤ d.e) : d.rv = (d.scl mn : Rat) * p2 mn := by
  unfold Dx.rv Dx.scl
  rw [Rat.intCast_mul, ← p2_toNat (by omega), Rat.mul_assoc, p2_sub]
theorem rv_plusX {x y : Dx} : (plusX x y).rv = x.rv + y.rv := by
  unfold plusX
  split
  · rename_i h; rw [rv_zero h, Rat.zero_add]
  · split
    · rename_i h; rw [rv_zero h, Rat.add_zero]
    · rw [rv_mkS, rv_scl (d := x) (mn := min x.e y.e) (by omega), rv_scl (d := y) (mn := min x.e y.e) (by omega), Rat.intCast_add]
      unfold Dx.scl; grind
theorem rv_plus {a b : Dx} (ha : 0 ≤ a.m) (hb : 0 ≤ b.m) : (plusD a b).rv = a.rv + b.rv := by unfold plusD; rw [rv_plusX, rv_one ha, rv_one hb]
theorem rv_less {a b : Dx} (ha : 0 ≤ a.m) (hb : 0 ≤ b.m) : (lessD a b).rv = a.rv - b.rv := by unfold lessD; rw [rv_plus ha negD_p, rv_neg hb, Rat.sub_eq_add_neg]
theorem cmpI_cases (a b : Int) : (cmpI a b = -1 ∧ a < b) ∨ (cmpI a b = 0 ∧ a = b) ∨ (cmpI a b = 1 ∧ b < a) := by
  unfold cmpI; split
  · left; exact ⟨rfl, by assumption⟩
  · split <;> omega
theorem cmpD_cases (a b : Dx) : (cmpD a b = -1 ∧ a.rv < b.rv) ∨ (cmpD a b = 0 ∧ a.rv = b.rv) ∨ (cmpD a b = 1 ∧ b.rv < a.rv) := by
  have ea := rv_scl (d := a) (mn := min a.e b.e) (by omega)
  have eb := rv_scl (d := b) (mn := min a.e b.e) (by omega)
  have p := p2_pos (min a.e b.e)
  rw [ea, eb]
  unfold cmpD
  rcases cmpI_cases (a.scl (min a.e b.e)) (b.scl (min a.e b.e)) with ⟨h, k⟩ | ⟨h, k⟩ | ⟨h, k⟩
  · left; exact ⟨h, (Rat.mul_lt_mul_right p).2 (Rat.intCast_lt_intCast.2 k)⟩
  · right; left; exact ⟨h, by rw [k]⟩
  · right; right; exact ⟨h, (Rat.mul_lt_mul_right p).2 (Rat.intCast_lt_intCast.2 k)⟩
theorem cmpD_le {a b : Dx} : cmpD a b ≤ 0 ↔ a.rv ≤ b.rv := by rcases cmpD_cases a b with ⟨h, k⟩ | ⟨h, k⟩ | ⟨h, k⟩ <;> rw [h] <;> simp <;> grind
theorem cmpD_lt0 {a b : Dx} : cmpD a b < 0 ↔ a.rv < b.rv := by rcases cmpD_cases a b with ⟨h, k⟩ | ⟨h, k⟩ | ⟨h, k⟩ <;> rw [h] <;> simp <;> grind
theorem cmpD_gt0 {a b : Dx} : 0 < cmpD a b ↔ b.rv < a.rv := by rcases cmpD_cases a b with ⟨h, k⟩ | ⟨h, k⟩ | ⟨h, k⟩ <;> rw [h] <;> simp <;> grind
theorem cmpD_eq0 {a b : Dx} : cmpD a b = 0 ↔ a.rv = b.rv := by rcases cmpD_cases a b with ⟨h, k⟩ | ⟨h, k⟩ | ⟨h, k⟩ <;> rw [h] <;> simp <;> grind
theorem sgn_rv {d : Dx} (h : 0 ≤ d.m) : (d.sgn = 0 ∧ d.rv = 0) ∨ (d.sgn = 1 ∧ 0 < d.rv) ∨ (d.sgn = -1 ∧ d.rv < 0) := by
  have p := p2_pos d.e
  rcases scl_sgn h d.e with ⟨a, b⟩ | ⟨a, _, _, b, c⟩ | ⟨a, _, _, b, c⟩
  · left; refine ⟨a, ?_⟩; rw [rv_scl (Int.le_refl _), b]; simp
  · right; left; refine ⟨a, ?_⟩; rw [rv_scl (Int.le_refl _), b]; exact Rat.mul_pos (Rat.intCast_pos.2 c) p
  · right; right; refine ⟨a, ?_⟩; rw [rv_scl (Int.le_refl _), b]
    have : 0 < ((d.m * 2 ^ (d.e - d.e).toNat : Int) : Rat) * p2 d.e := Rat.mul_pos (Rat.intCast_pos.2 c) p
    rw [Rat.intCast_neg]; grind
theorem sgn_less {a b : Dx} (ha : 0 ≤ a.m) (hb : 0 ≤ b.m) : (lessD a b).sgn = cmpD a b := by
  have := rv_less ha hb
  rcases sgn_rv (lessD_p (a := a) (b := b)) with ⟨h, k⟩ | ⟨h, k⟩ | ⟨h, k⟩ <;> rcases cmpD_cases a b with ⟨h', k'⟩ | ⟨h', k'⟩ | ⟨h', k'⟩ <;> rw [h, h'] <;> grind
end Go.Proofs.YtmfmneanmamjbaaDoor
